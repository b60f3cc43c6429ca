import PyProof.Rows.All
import HandS.ExcOwn
import HandS.ForExc
import HandS.ForMost
import HandS.Style
import HandS.WideBits
import HandS.WordsExc
import KE.IntBitsLaws
import OpenK.AllK
import Wide.All
import Wide.FinOn
import PySem.Challenge.RW_sillwatch_k40_whole_places_of_popups_tur
set_option Elab.async false
set_option linter.all false
set_option maxRecDepth 100000
set_option maxHeartbeats 4000000
set_option autoImplicit false
/-! Vm, part A: data, the small language, its evaluator. -/
namespace Vm
open PySem L2 PyProof.Rows

/-! ### data -/
inductive D where
  | non | bl (b : Bool) | int (i : Int) | str (x : Str)
  | tup (xs : List D) | lst (xs : List D) | dct (kvs : List (Key × D)) | ins (C : Str) (fs : List (Str × D))
  /-- a list that is only read -/
  | ro (xs : List D)
/-- a part that may be owned -/
inductive F where
  | d (x : D) | lst (xs : List D) | dct (kvs : List (Key × D))
/-- what a slot holds -/
inductive O where
  | f (x : F) | ins (C : Str) (fs : List (Str × F))
def F.fz : F → D
  | .d x => x
  | .lst xs => .lst xs
  | .dct kvs => .dct kvs
def O.fz : O → D
  | .f x => x.fz
  | .ins C fs => .ins C (fs.map fun p => (p.1, p.2.fz))
abbrev Env := List (Option O)
structure Exn where
  cls : Str
  fs : List (Str × D)
inductive Res (α : Type) where
  | ok (a : α) (ρ : Env)
  | exc (x : Exn) (ρ : Env)
abbrev M (α : Type) := Option (Res α)
def ok {α : Type} (a : α) (ρ : Env) : M α := some (.ok a ρ)
def M.bind {α β : Type} (m : M α) (f : α → Env → M β) : M β :=
  match m with
  | none => none
  | some (.exc x ρ) => some (.exc x ρ)
  | some (.ok a ρ) => f a ρ
/-- a function of the text: which parameters are handed over with what they own; its meaning -/
inductive RetF where
  | ret (r : O) (ios : List O)
  | exc (x : Exn) (ios : List O)
structure Fn where
  io : List Bool
  run : List O → Option RetF

/-! ### operators on data -/
inductive BOp where | add | sub | mul | fdiv | mod | pow
inductive COp where | eq | ne | lt | le | gt | ge | is_ | isNot | in_ | notIn
inductive Blt where | len | int_ | abs_ | min2 | max2 | tuple_ | list_ | sum_ | all_ | any_ | sorted_
/-- as the library's data -/
def D.py : D → Option PyData
  | .non => some .none
  | .bl b => some (.bool b)
  | .int i => some (.int i)
  | .str x => some (.str x)
  | .tup xs => (pys xs).map .tuple
  | .lst xs => (pys xs).map .list
  | .dct _ => none
  | .ins _ _ => none
  | .ro _ => none
where pys : List D → Option (List PyData)
  | [] => some []
  | x :: xs => match x.py with
    | none => none
    | some y => match pys xs with
      | none => none
      | some ys => some (y :: ys)
def D.flat : D → Bool
  | .non => true
  | .bl _ => true
  | .int _ => true
  | .str _ => true
  | _ => false
/-- == of data -/
def D.eq? (a b : D) : Option Bool :=
  match a.py, b.py with
  | some x, some y => if SeqAt.shaped x = true ∧ SeqAt.shaped y = true then some (PyData.eqv x y) else none
  | _, _ => none
def mulOk (i j : Int) : Bool := (decide (-(2 ^ 64) < i) && decide (i < 2 ^ 64)) || (decide (-(2 ^ 64) < j) && decide (j < 2 ^ 64)) || decide ((Builtin.Int.intBits i : Int) + (Builtin.Int.intBits j : Int) ≤ 134217728)
def divOk (j : Int) : Bool := decide (0 < j) && decide (j.natAbs.log2 < 9000)
def powOk (i j : Int) : Bool := decide (0 ≤ j) && decide (j ≤ 1000000) && decide (i.natAbs < 2 ^ 64)
/-- a op b -/
def BOp.ap : BOp → D → D → Option F
  | .add, .int i, .int j => some (.d (.int (i + j)))
  | .add, .int i, .bl j => some (.d (.int (i + b2i j)))
  | .add, .str x, .str y => if x.length + y.length ≤ sizeLine then some (.d (.str (x ++ y))) else none
  | .add, .tup xs, .tup ys => if xs.isEmpty = false ∧ xs.length + ys.length ≤ sizeLine then some (.d (.tup (xs ++ ys))) else none
  | .add, .lst xs, .lst ys => if xs.length + ys.length ≤ sizeLine then some (.lst (xs ++ ys)) else none
  | .sub, .int i, .int j => some (.d (.int (i - j)))
  | .mul, .int i, .int j => if mulOk i j = true then some (.d (.int (i * j))) else none
  | .mul, .lst xs, .int k => if -(2 ^ 63) ≤ k ∧ k < 2 ^ 63 ∧ xs.length * k.toNat ≤ sizeLine then some (.lst (List.replicate k.toNat xs).flatten) else none
  | .fdiv, .int i, .int j => if divOk j = true then some (.d (.int (i / j))) else none
  | .mod, .int i, .int j => if 0 < j then some (.d (.int (i % j))) else none
  | .pow, .int i, .int j => if powOk i j = true then some (.d (.int (i ^ j.toNat))) else none
  | _, _, _ => none
/-- a op= b, of flat data -/
def BOp.aug : BOp → D → D → Option D
  | .add, .int i, .int j => some (.int (i + j))
  | .add, .str x, .str y => if x.length + y.length ≤ sizeLine then some (.str (x ++ y)) else none
  | .sub, .int i, .int j => some (.int (i - j))
  | _, _, _ => none
/-- a flat datum is one of -/
def D.eqFlat : D → D → Bool
  | .non, .non => true
  | .bl a, .bl b => a == b
  | .bl a, .int b => (if a then 1 else 0) == b
  | .int a, .bl b => a == (if b then 1 else 0)
  | .int a, .int b => a == b
  | .str a, .str b => a == b
  | _, _ => false
def D.inSeq? (x : D) (xs : List D) : Option Bool := if x.flat = true ∧ xs.all D.flat = true then some (xs.any fun y => y.eqFlat x) else none
def COp.ap : COp → D → D → Option Bool
  | .eq, a, b => a.eq? b
  | .ne, a, b => (a.eq? b).map not
  | .lt, .int i, .int j => some (decide (i < j))
  | .le, .int i, .int j => some (decide (i ≤ j))
  | .gt, .int i, .int j => some (decide (j < i))
  | .ge, .int i, .int j => some (decide (j ≤ i))
  | .is_, a, .non => some (match a with | .non => true | _ => false)
  | .isNot, a, .non => some (match a with | .non => false | _ => true)
  | .is_, .bl a, .bl b => some (decide (a = b))
  | .isNot, .bl a, .bl b => some (!decide (a = b))
  | .in_, x, .lst xs => x.inSeq? xs
  | .in_, x, .tup xs => x.inSeq? xs
  | .notIn, x, .lst xs => (x.inSeq? xs).map not
  | .notIn, x, .tup xs => (x.inSeq? xs).map not
  | .in_, .str x, .str y => some (!(Builtin.Str.occurrences y x 0 y.length 1).isEmpty)
  | .notIn, .str x, .str y => some (!(!(Builtin.Str.occurrences y x 0 y.length 1).isEmpty))
  | _, _, _ => none
/-- truth -/
def D.truth : D → Option Bool
  | .non => some false
  | .bl b => some b
  | .int i => some (i != 0)
  | .str y => if y.length ≤ sizeLine then some ((y.length : Int) != 0) else none
  | .tup xs => some (!xs.isEmpty)
  | .lst xs => some (!xs.isEmpty)
  | _ => none
def ints? : List D → Option (List Int)
  | [] => some []
  | .int i :: xs => (ints? xs).map (i :: ·)
  | _ :: _ => none
def bls? : List D → Option (List Bool)
  | [] => some []
  | .bl i :: xs => (bls? xs).map (i :: ·)
  | _ :: _ => none
def Blt.ap : Blt → List D → Option F
  | .len, [.lst xs] => some (.d (.int xs.length))
  | .len, [.ro xs] => some (.d (.int xs.length))
  | .len, [.tup xs] => some (.d (.int xs.length))
  | .len, [.str x] => if x.length ≤ sizeLine then some (.d (.int x.length)) else none
  | .int_, [.int i] => some (.d (.int i))
  | .int_, [.bl b] => some (.d (.int (if b then 1 else 0)))
  | .abs_, [.int i] => some (.d (.int (if i < 0 then -i else i)))
  | .max2, [.int i, .int j] => some (.d (.int (if j > i then j else i)))
  | .min2, [.int i, .int j] => some (.d (.int (if j < i then j else i)))
  | .tuple_, [.lst xs] => some (.d (.tup xs))
  | .tuple_, [.tup xs] => some (.d (.tup xs))
  | .list_, [.lst xs] => some (.lst xs)
  | .list_, [.tup xs] => some (.lst xs)
  | .sum_, [.lst xs] => (ints? xs).map fun ns => .d (.int ns.sum)
  | .all_, [.lst xs] => (bls? xs).map fun bs => .d (.bl (bs.all id))
  | .any_, [.lst xs] => (bls? xs).map fun bs => .d (.bl (bs.any id))
  | _, _ => none
/-- a[i] -/
def D.at? : D → D → Option D
  | .lst xs, .int i => atI xs i
  | .ro xs, .int i => atI xs i
  | .tup xs, .int i => atI xs i
  | .str z, .int i => if z.length ≤ sizeLine then (atI z.cps.toList i).map fun c => .str ⟨#[c]⟩ else none
  | _, _ => none
def cutD (xs : List D) (lo hi : Option Int) : List D := (xs.drop (HT.sIx xs.length 0 lo)).take (HT.sIx xs.length xs.length hi - HT.sIx xs.length 0 lo)
/-- a[lo:hi] -/
def D.cut? : D → Option Int → Option Int → Option F
  | .lst xs, lo, hi => some (.lst (cutD xs lo hi))
  | .tup xs, lo, hi => if HT.sIx xs.length 0 lo = 0 ∧ HT.sIx xs.length xs.length hi = xs.length then none else some (.d (.tup (cutD xs lo hi)))
  | _, _, _ => none

/-! ### the language -/
/-- a target: a name's slot, a tuple of names -/
inductive Tgt where | nm (i : Nat) | tp (is : List Nat)
mutual
inductive IE where
  | var (i : Nat) | c (x : D)
  | tup (es : List IE) | lst (es : List IE)
  | bin (op : BOp) (a b : IE) | neg (a : IE)
  | cmp (op : COp) (a b : IE) | chain (op op' : COp) (a b c : IE)
  | andV (a b : IE) | orV (a b : IE) | notV (a : IE)
  | ifx (t : IT) (a b : IE)
  | call (fn : Fn) (as : List IE)
  | mk (C : Str) (fn : Fn) (as : List IE)
  | mth (C m : Str) (fn : Fn) (o : IE) (as : List IE)
  | blt1 (b : Blt) (a : IE) | blt (b : Blt) (as : List IE)
  | idxV (k : Nat) (i : IE) | idx (a i : IE) | slV (k : Nat) (lo hi : Option IE) | sl (a : IE) (lo hi : Option IE)
  | fldV (i : Nat) (f : Str) (Cs : List Str) | fld (a : IE) (f : Str) (Cs : List Str)
  | lc (own : List Nat) (t : Tgt) (it : II) (c : Option IT) (e : IE)
inductive IT where
  | val (a : IE) | tru (a : IE) | and (a b : IT) | or (a b : IT) | not (a : IT)
inductive II where
  | seq (a : IE) | rng (n : Nat) (es : List IE)
end
inductive IS where
  | asg (t : Tgt) (e : IE)
  | par (is : List Nat) (es : List IE)
  | aug (i : Nat) (op : BOp) (e : IE)
  | setI (i : Nat) (ix e : IE)
  | setF (i : Nat) (f : Str) (Cs : List Str) (e : IE)
  | app (i : Nat) (e : IE) | appF (i : Nat) (f : Str) (Cs : List Str) (j : Nat)
  | ex (e : IE) | ret (e : IE) | retV (i : Nat) | retN | pass | brk | cnt
  | ifs (t : IT) (a b : List IS)
  | for_ (t : Tgt) (it : II) (b : List IS)
  | whl (t : IT) (b : List IS)

/-! ### the evaluator -/
/-- a slot read, to be kept elsewhere: what it owns is given up -/
def rd (i : Nat) (ρ : Env) : M O :=
  match ρ[i]? with
  | some (some (.f (.d x))) => ok (.f (.d x)) ρ
  | some (some o) => ok (.f (.d o.fz)) (ρ.set i (some (.f (.d o.fz))))
  | _ => none
def putF (f : Str) (v : F) : List (Str × F) → List (Str × F)
  | [] => [(f, v)]
  | (g, x) :: r => if g = f then (g, v) :: r else (g, x) :: putF f v r
/-- a field read, likewise: of an instance of one of the classes Cs -/
def rdF (i : Nat) (f : Str) (Cs : List Str) (ρ : Env) : M O :=
  match ρ[i]? with
  | some (some (.ins C fs)) => if C ∈ Cs then match fs.lookup f with
    | some (.d x) => ok (.f (.d x)) ρ
    | some y => ok (.f (.d y.fz)) (ρ.set i (some (.ins C (putF f (.d y.fz) fs))))
    | none => none
    else none
  | some (some (.f (.d (.ins C fs)))) => if C ∈ Cs then match fs.lookup f with
    | some x => ok (.f (.d x)) ρ
    | none => none
    else none
  | _ => none
/-- an operand that is looked at and not kept -/
def pk (a : IE) (r : M O) (ρ : Env) : M O :=
  match a with
  | .var i => match ρ[i]? with
    | some (some o) => ok o ρ
    | _ => none
  | .fldV i f Cs => match ρ[i]? with
    | some (some (.ins C fs)) => if C ∈ Cs then match fs.lookup f with
      | some x => ok (.f x) ρ
      | none => none
      else none
    | some (some (.f (.d (.ins C fs)))) => if C ∈ Cs then match fs.lookup f with
      | some x => ok (.f (.d x)) ρ
      | none => none
      else none
    | _ => none
  | _ => r
/-- an expression whose evaluation changes no slot -/
def IE.still : IE → Bool
  | .c _ => true
  | _ => false
def pkIf (b : Bool) (a : IE) (r : M O) (ρ : Env) : M O := if b = true then pk a r ρ else r
inductive Arg where | v (x : D) | io (i : Nat)
def argsO (ρ : Env) : List Arg → Option (List O)
  | [] => some []
  | .v x :: as => (argsO ρ as).map (.f (.d x) :: ·)
  | .io i :: as => match ρ[i]? with
    | some (some o) => (argsO ρ as).map (o :: ·)
    | _ => none
def ioOf : List Arg → List Nat
  | [] => []
  | .v _ :: as => ioOf as
  | .io i :: as => i :: ioOf as
/-- what came back, to the slots it was handed over from -/
def putAll : List Bool → List Arg → List O → Env → Env
  | true :: bs, .io i :: as, o :: os, ρ => putAll bs as os (ρ.set i (some o))
  | true :: bs, .v _ :: as, _ :: os, ρ => putAll bs as os ρ
  | false :: bs, _ :: as, os, ρ => putAll bs as os ρ
  | _, _, _, ρ => ρ
/-- an argument: handed over with what it owns, or as a datum -/
def argE (b : Bool) (e : IE) (r : M O) (ρ : Env) : M Arg :=
  match b, e with
  | true, .var i => match ρ[i]? with
    | some (some _) => ok (.io i) ρ
    | _ => none
  | _, _ => r.bind fun x ρ => ok (.v x.fz) ρ
/-- the receiver of a method is an instance of C without an attribute m -/
def Arg.isIns (C m : Str) (ρ : Env) : Arg → Bool
  | .v (.ins C' fs) => decide (C' = C) && (fs.lookup m).isNone
  | .io i => match ρ[i]? with
    | some (some (.ins C' fs)) => decide (C' = C) && (fs.lookup m).isNone
    | some (some (.f (.d (.ins C' fs)))) => decide (C' = C) && (fs.lookup m).isNone
    | _ => false
  | _ => false
/-- only where the function takes over -/
def fits : List Bool → List Arg → Bool
  | [], [] => true
  | _ :: bs, .v _ :: as => fits bs as
  | b :: bs, .io _ :: as => b && fits bs as
  | _, _ => false
def callF (fn : Fn) (as : List Arg) (ρ : Env) : M O :=
  if (ioOf as).Nodup ∧ fits fn.io as = true then
    match argsO ρ as with
    | none => none
    | some os => match fn.run os with
      | some (.ret r ios) => some (.ok r (putAll fn.io as ios ρ))
      | some (.exc x ios) => some (.exc x (putAll fn.io as ios ρ))
      | none => none
  else none
/-- C(..): the function is __init__; it hands over self -/
def mkF (C : Str) (fn : Fn) (xs : List D) (ρ : Env) : M O :=
  if fn.io = true :: List.replicate xs.length false then
    match fn.run (.ins C [] :: xs.map fun x => .f (.d x)) with
    | some (.ret (.f (.d .non)) [o]) => ok o ρ
    | some (.exc x _) => some (.exc x ρ)
    | _ => none
  else none
def wipeE (own : List Nat) (ρ : Env) : Env := own.foldl (fun ρ i => ρ.set i none) ρ
/-- the slots of own as they were -/
def backE : List Nat → Env → Env → Env
  | [], _, ρ => ρ
  | i :: is, ρ0, ρ => backE is ρ0 (ρ.set i (ρ0[i]?.join))
/-- the slots of own hold nothing that is owned -/
def plainAt (ρ : Env) (i : Nat) : Bool :=
  match ρ[i]? with
  | some (some (.f (.d _))) => true
  | some (some _) => false
  | _ => true
def setAll : List Nat → List D → Env → Option Env
  | [], [], ρ => some ρ
  | i :: is, x :: xs, ρ => setAll is xs (ρ.set i (some (.f (.d x))))
  | _, _, _ => none
/-- a datum comes to a target -/
def Tgt.put (t : Tgt) (x : D) (ρ : Env) : Option Env :=
  match t with
  | .nm i => some (ρ.set i (some (.f (.d x))))
  | .tp is => match x with
    | .tup xs => setAll is xs ρ
    | _ => none
def Tgt.putO (t : Tgt) (o : O) (ρ : Env) : Option Env :=
  match t with
  | .nm i => some (ρ.set i (some o))
  | .tp is => match o.fz with
    | .tup xs => setAll is xs ρ
    | _ => none
/-- the turns of a comprehension -/
def lcL (turn : D → Env → M (Option D)) : List D → Env → List D → M (List D)
  | [], ρ, acc => ok acc ρ
  | x :: xs, ρ, acc => match turn x ρ with
    | some (.ok none ρ) => lcL turn xs ρ acc
    | some (.ok (some y) ρ) => if acc.length < sizeLine then lcL turn xs ρ (acc ++ [y]) else none
    | _ => none
def rngL (lo : Int) (n : Nat) (c : Int) : List D := (List.range n).map fun (k : Nat) => .int (lo + (k : Int) * c)
def small62 (i : Int) : Bool := decide (-(2 ^ 62) ≤ i) && decide (i < 2 ^ 62)
/-- range(..) -/
def rngD (n : Nat) (xs : List D) (ρ : Env) : M (List D) :=
  match n, xs with
  | 1, [.int j] => if small62 j = true then ok (rngL 0 j.toNat 1) ρ else none
  | 2, [.int i, .int j] => if small62 i = true ∧ small62 j = true then ok (rngL i (j - i).toNat 1) ρ else none
  | 3, [.int i, .int j, .int c] => if small62 i = true ∧ small62 j = true ∧ c = -1 then ok (rngL i (i - j).toNat (-1)) ρ else none
  | _, _ => none
def O.int? : O → Option Int
  | .f (.d (.int i)) => some i
  | _ => none
def liftF (x : Option F) (ρ : Env) : M O :=
  match x with
  | some y => ok (.f y) ρ
  | none => none
def liftB (x : Option Bool) (ρ : Env) : M O :=
  match x with
  | some y => ok (.f (.d (.bl y))) ρ
  | none => none
def signsD (z : Str) : List D := z.cps.toList.map fun c => .str ⟨#[c]⟩
mutual
def evE : IE → Env → M O
  | .var i, ρ => rd i ρ
  | .c x, ρ => ok (.f (.d x)) ρ
  | .tup es, ρ => (evEs es ρ).bind fun xs ρ => if xs.length ≤ sizeLine then ok (.f (.d (.tup xs))) ρ else none
  | .lst es, ρ => (evEs es ρ).bind fun xs ρ => if xs.length ≤ sizeLine then ok (.f (.lst xs)) ρ else none
  | .bin op a b, ρ => (evE a ρ).bind fun x ρ => (evE b ρ).bind fun y ρ => liftF (op.ap x.fz y.fz) ρ
  | .neg a, ρ => (evE a ρ).bind fun x ρ => match x.int? with
    | some i => ok (.f (.d (.int (-i)))) ρ
    | none => none
  | .cmp op a b, ρ => (pkIf b.still a (evE a ρ) ρ).bind fun x ρ => (pk b (evE b ρ) ρ).bind fun y ρ => liftB (op.ap x.fz y.fz) ρ
  | .chain op op' a b c, ρ => (evE a ρ).bind fun x ρ => (evE b ρ).bind fun y ρ => match op.ap x.fz y.fz with
    | some true => (evE c ρ).bind fun z ρ => liftB (op'.ap y.fz z.fz) ρ
    | some false => ok (.f (.d (.bl false))) ρ
    | none => none
  | .andV a b, ρ => (evE a ρ).bind fun x ρ => match x with
    | .f (.d (.bl true)) => evE b ρ
    | .f (.d (.bl false)) => ok (.f (.d (.bl false))) ρ
    | _ => none
  | .orV a b, ρ => (evE a ρ).bind fun x ρ => match x with
    | .f (.d (.bl true)) => ok (.f (.d (.bl true))) ρ
    | .f (.d (.bl false)) => evE b ρ
    | _ => none
  | .notV a, ρ => (evE a ρ).bind fun x ρ => match x with
    | .f (.d (.bl b)) => ok (.f (.d (.bl (!b)))) ρ
    | _ => none
  | .ifx t a b, ρ => (evT t ρ).bind fun k ρ => if k = true then evE a ρ else evE b ρ
  | .call fn as, ρ => (evAs fn.io as ρ).bind fun xs ρ => callF fn xs ρ
  | .mk C fn as, ρ => (evEs as ρ).bind fun xs ρ => mkF C fn xs ρ
  | .mth C m fn o as, ρ => (argE (fn.io.headD false) o (evE o ρ) ρ).bind fun x ρ => if x.isIns C m ρ = true then (evAs fn.io.tail as ρ).bind fun xs ρ => callF fn (x :: xs) ρ else none
  | .blt1 b a, ρ => (pk a (evE a ρ) ρ).bind fun x ρ => liftF (b.ap [x.fz]) ρ
  | .blt b as, ρ => (evEs as ρ).bind fun xs ρ => liftF (b.ap xs) ρ
  | .idxV k i, ρ => match ρ[k]? with
    | some (some _) => (evE i ρ).bind fun y ρ => match ρ[k]? with
      | some (some o) => liftF ((o.fz.at? y.fz).map .d) ρ
      | _ => none
    | _ => none
  | .idx a i, ρ => (pkIf i.still a (evE a ρ) ρ).bind fun x ρ => (evE i ρ).bind fun y ρ => liftF ((x.fz.at? y.fz).map .d) ρ
  | .slV k lo hi, ρ => match ρ[k]? with
    | some (some _) => (evO lo ρ).bind fun l ρ => (evO hi ρ).bind fun h ρ => match ρ[k]? with
      | some (some o) => liftF (o.fz.cut? l h) ρ
      | _ => none
    | _ => none
  | .sl a lo hi, ρ => (evE a ρ).bind fun x ρ => (evO lo ρ).bind fun l ρ => (evO hi ρ).bind fun h ρ => liftF (x.fz.cut? l h) ρ
  | .fldV i f Cs, ρ => rdF i f Cs ρ
  | .fld a f Cs, ρ => (evE a ρ).bind fun x ρ => match x.fz with
    | .ins C fs => if C ∈ Cs then match fs.lookup f with
      | some y => ok (.f (.d y)) ρ
      | none => none
      else none
    | _ => none
  | .lc own t it c e, ρ => (evI it ρ).bind fun xs ρ1 => if own.all (plainAt ρ1) = true then
      (lcL (fun x ρ => match t.put x ρ with
        | none => none
        | some ρ => (match c with | none => ok true ρ | some c => evT c ρ).bind fun k ρ =>
            if k = true then (evE e ρ).bind fun y ρ => ok (some y.fz) (wipeE own ρ) else ok none (wipeE own ρ)) xs (wipeE own ρ1) []).bind fun ys ρ =>
      ok (.f (.lst ys)) (backE own ρ1 ρ)
      else none
def evO : Option IE → Env → M (Option Int)
  | none, ρ => ok none ρ
  | some e, ρ => (evE e ρ).bind fun x ρ => match x.int? with
    | some i => ok (some i) ρ
    | none => none
def evEs : List IE → Env → M (List D)
  | [], ρ => ok [] ρ
  | e :: es, ρ => (evE e ρ).bind fun x ρ => (evEs es ρ).bind fun xs ρ => ok (x.fz :: xs) ρ
def evAs : List Bool → List IE → Env → M (List Arg)
  | [], [], ρ => ok [] ρ
  | b :: bs, e :: es, ρ => (argE b e (evE e ρ) ρ).bind fun x ρ => (evAs bs es ρ).bind fun xs ρ => ok (x :: xs) ρ
  | [], _ :: _, _ => none
  | _ :: _, [], _ => none
def evT : IT → Env → M Bool
  | .val a, ρ => (evE a ρ).bind fun x ρ => match x with
    | .f (.d (.bl b)) => ok b ρ
    | _ => none
  | .tru a, ρ => (pk a (evE a ρ) ρ).bind fun x ρ => match x.fz.truth with
    | some b => ok b ρ
    | none => none
  | .and a b, ρ => (evT a ρ).bind fun k ρ => if k = true then evT b ρ else ok false ρ
  | .or a b, ρ => (evT a ρ).bind fun k ρ => if k = true then ok true ρ else evT b ρ
  | .not a, ρ => (evT a ρ).bind fun k ρ => ok (!k) ρ
def evI : II → Env → M (List D)
  | .seq a, ρ => (evE a ρ).bind fun x ρ => match x.fz with
    | .lst xs => ok xs ρ
    | .ro xs => ok xs ρ
    | .tup xs => ok xs ρ
    | .str z => ok (signsD z) ρ
    | _ => none
  | .rng n es, ρ => (evEs es ρ).bind fun xs ρ => rngD n xs ρ
end
inductive Out where
  | nx (ρ : Env) | rt (o : O) (ρ : Env) | bk (ρ : Env) | ct (ρ : Env) | exc (x : Exn) (ρ : Env)
def M.out {α : Type} (m : M α) (f : α → Env → Option Out) : Option Out :=
  match m with
  | none => none
  | some (.exc x ρ) => some (.exc x ρ)
  | some (.ok a ρ) => f a ρ
def Out.seq (o : Option Out) (f : Env → Option Out) : Option Out :=
  match o with
  | some (.nx ρ) => f ρ
  | o => o
/-- behind a loop's turn -/
def forL (turn : D → Env → Option Out) : List D → Env → Option Out
  | [], ρ => some (.nx ρ)
  | x :: xs, ρ => match turn x ρ with
    | some (.nx ρ) => forL turn xs ρ
    | some (.ct ρ) => forL turn xs ρ
    | some (.bk ρ) => some (.nx ρ)
    | o => o
def whlL (t : Env → M Bool) (b : Env → Option Out) : Nat → Env → Option Out
  | 0, _ => none
  | n + 1, ρ => (t ρ).out fun k ρ => if k = true then
      match b ρ with
      | some (.nx ρ) => whlL t b n ρ
      | some (.ct ρ) => whlL t b n ρ
      | some (.bk ρ) => some (.nx ρ)
      | o => o
    else some (.nx ρ)
/-- how many turns a while may take -/
def fuel : Nat := 16777216
mutual
def evS : IS → Env → Option Out
  | .asg t e, ρ => (evE e ρ).out fun x ρ => (t.putO x ρ).map .nx
  | .par is es, ρ => (evEs es ρ).out fun xs ρ => (setAll is xs ρ).map .nx
  | .aug i op e, ρ => match ρ[i]? with
    | some (some (.f (.d x))) => (evE e ρ).out fun y ρ => match op.aug x y.fz with
      | some z => some (.nx (ρ.set i (some (.f (.d z)))))
      | none => none
    | _ => none
  | .setI i ix e, ρ => (evE e ρ).out fun x ρ => (match ρ[i]? with | some (some _) => ok () ρ | _ => none).out fun _ ρ => (evE ix ρ).out fun k ρ => match ρ[i]? with
    | some (some (.f (.lst xs))) => match k.int? with
      | some k => match ixN xs.length k with
        | some j => some (.nx (ρ.set i (some (.f (.lst (xs.set j x.fz))))))
        | none => none
      | none => none
    | _ => none
  | .setF i f Cs e, ρ => (evE e ρ).out fun x ρ => match ρ[i]? with
    | some (some (.ins C fs)) => if C ∈ Cs ∧ fs.length < 1000 then some (.nx (ρ.set i (some (.ins C (putF f (match x with | .f y => y | o => .d o.fz) fs))))) else none
    | _ => none
  | .app i e, ρ => match ρ[i]? with
    | some (some (.f (.lst _))) => (evE e ρ).out fun x ρ => match ρ[i]? with
      | some (some (.f (.lst xs))) => if xs.length < sizeLine then some (.nx (ρ.set i (some (.f (.lst (xs ++ [x.fz])))))) else none
      | _ => none
    | _ => none
  | .appF i f Cs j, ρ => (rd j ρ).out fun x ρ => match ρ[i]? with
    | some (some (.ins C fs)) => if C ∈ Cs ∧ i ≠ j then match fs.lookup f with
      | some (.lst xs) => if xs.length < sizeLine then some (.nx (ρ.set i (some (.ins C (putF f (.lst (xs ++ [x.fz])) fs))))) else none
      | _ => none
      else none
    | _ => none
  | .ex e, ρ => (evE e ρ).out fun _ ρ => some (.nx ρ)
  | .retV i, ρ => match ρ[i]? with
    | some (some o) => some (.rt o (ρ.set i none))
    | _ => none
  | .ret e, ρ => (evE e ρ).out fun x ρ => some (.rt x ρ)
  | .retN, ρ => some (.rt (.f (.d .non)) ρ)
  | .pass, ρ => some (.nx ρ)
  | .brk, ρ => some (.bk ρ)
  | .cnt, ρ => some (.ct ρ)
  | .ifs t a b, ρ => (evT t ρ).out fun k ρ => if k = true then evSs a ρ else evSs b ρ
  | .for_ t it b, ρ => (evI it ρ).out fun xs ρ => forL (fun x ρ => match t.put x ρ with
      | none => none
      | some ρ => evSs b ρ) xs ρ
  | .whl t b, ρ => whlL (evT t) (evSs b) fuel ρ
def evSs : List IS → Env → Option Out
  | [], ρ => some (.nx ρ)
  | s :: ss, ρ => Out.seq (evS s ρ) fun ρ => evSs ss ρ
end
/-- what stands in the slots that are handed over -/
def iosOf : List Bool → Env → Option (List O)
  | [], _ => some []
  | _ :: _, [] => none
  | false :: bs, _ :: ρ => iosOf bs ρ
  | true :: bs, some o :: ρ => (iosOf bs ρ).map (o :: ·)
  | true :: _, none :: _ => none
/-- a def by its body: n slots -/
def runB (n : Nat) (io : List Bool) (body : List IS) (os : List O) : Option RetF :=
  if os.length = io.length then
    match evSs body (os.map some ++ List.replicate (n - os.length) none) with
    | some (.nx ρ) => (iosOf io ρ).map (.ret (.f (.d .non)))
    | some (.rt o ρ) => (iosOf io ρ).map (.ret o)
    | some (.exc x ρ) => (iosOf io ρ).map (.exc x)
    | _ => none
  else none
def defF (n : Nat) (io : List Bool) (body : List IS) : Fn := ⟨io, runB n io body⟩
end Vm

set_option Elab.async false
set_option linter.all false
set_option maxRecDepth 100000
set_option maxHeartbeats 4000000
set_option autoImplicit false
/-! Vm, part B: how data stand in the abstract heap. -/
namespace Vm
open PySem L2 PyProof.Rows

/-! ### data in a heap that stays -/
mutual
inductive Rep (K : PySem.W.Frag) (ca : Str → Addr) (G : Hp) : D → V → Prop
  | non : Rep K ca G .non .non
  | bl (b : Bool) : Rep K ca G (.bl b) (.bl b)
  | int (i : Int) : Rep K ca G (.int i) (.int i)
  | str (x : Str) : Rep K ca G (.str x) (.str x)
  | tup {p : Addr} {vs : List V} {xs : List D} : SqT K G p vs → RepL K ca G xs vs → Rep K ca G (.tup xs) (.ref p)
  | lst {p : Addr} {vs : List V} {xs : List D} : Rd G p (.lst vs) → RepL K ca G xs vs → Rep K ca G (.lst xs) (.ref p)
  | ro {p : Addr} {vs : List V} {xs : List D} : SqL K G p vs → RepL K ca G xs vs → Rep K ca G (.ro xs) (.ref p)
  | dct {p : Addr} {kvs : List (Key × V)} {xs : List (Key × D)} : G p = some (.dK kvs) → RepK K ca G xs kvs → Rep K ca G (.dct xs) (.ref p)
  | ins {p dx : Addr} {C : Str} {fvs : List (Str × V)} {fs : List (Str × D)} : G p = some (.ins (ca C) dx fvs) → RepA K ca G fs fvs → Rep K ca G (.ins C fs) (.ref p)
inductive RepL (K : PySem.W.Frag) (ca : Str → Addr) (G : Hp) : List D → List V → Prop
  | nil : RepL K ca G [] []
  | cons {x : D} {v : V} {xs : List D} {vs : List V} : Rep K ca G x v → RepL K ca G xs vs → RepL K ca G (x :: xs) (v :: vs)
inductive RepK (K : PySem.W.Frag) (ca : Str → Addr) (G : Hp) : List (Key × D) → List (Key × V) → Prop
  | nil : RepK K ca G [] []
  | cons {k : Key} {x : D} {v : V} {xs : List (Key × D)} {vs : List (Key × V)} : Rep K ca G x v → RepK K ca G xs vs → RepK K ca G ((k, x) :: xs) ((k, v) :: vs)
inductive RepA (K : PySem.W.Frag) (ca : Str → Addr) (G : Hp) : List (Str × D) → List (Str × V) → Prop
  | nil : RepA K ca G [] []
  | cons {f : Str} {x : D} {v : V} {xs : List (Str × D)} {vs : List (Str × V)} : Rep K ca G x v → RepA K ca G xs vs → RepA K ca G ((f, x) :: xs) ((f, v) :: vs)
end
section
variable {K : PySem.W.Frag} {ca : Str → Addr} {G G' : Hp}
theorem rd_mono {H H' : Hp} {a : Addr} {u : HO} (e : Same H H') (h : Rd H a u) : Rd H' a u := by
  rcases h with h | ⟨o, h⟩
  · exact .inl (e a _ h)
  · exact .inr ⟨o, e a _ h⟩
theorem sqT_mono {H H' : Hp} {a : Addr} {xs : List V} (e : Same H H') (h : SqT K H a xs) : SqT K H' a xs := by
  rcases h with h | h
  · exact .inl (rd_mono e h)
  · exact .inr h
theorem sqL_mono {H H' : Hp} {a : Addr} {xs : List V} (e : Same H H') (h : SqL K H a xs) : SqL K H' a xs := by
  rcases h with h | h
  · exact .inl (rd_mono e h)
  · exact .inr h
mutual
theorem Rep.mono (e : Same G G') : ∀ {x : D} {v : V}, Rep K ca G x v → Rep K ca G' x v
  | _, _, .non => .non
  | _, _, .bl b => .bl b
  | _, _, .int i => .int i
  | _, _, .str x => .str x
  | _, _, .tup a b => .tup (sqT_mono e a) (RepL.mono e b)
  | _, _, .lst a b => .lst (rd_mono e a) (RepL.mono e b)
  | _, _, .ro a b => .ro (sqL_mono e a) (RepL.mono e b)
  | _, _, .dct a b => .dct (e _ _ a) (RepK.mono e b)
  | _, _, .ins a b => .ins (e _ _ a) (RepA.mono e b)
theorem RepL.mono (e : Same G G') : ∀ {x : List D} {v : List V}, RepL K ca G x v → RepL K ca G' x v
  | _, _, .nil => .nil
  | _, _, .cons a b => .cons (Rep.mono e a) (RepL.mono e b)
theorem RepK.mono (e : Same G G') : ∀ {x : List (Key × D)} {v : List (Key × V)}, RepK K ca G x v → RepK K ca G' x v
  | _, _, .nil => .nil
  | _, _, .cons a b => .cons (Rep.mono e a) (RepK.mono e b)
theorem RepA.mono (e : Same G G') : ∀ {x : List (Str × D)} {v : List (Str × V)}, RepA K ca G x v → RepA K ca G' x v
  | _, _, .nil => .nil
  | _, _, .cons a b => .cons (Rep.mono e a) (RepA.mono e b)
end
theorem RepL.length : ∀ {x : List D} {v : List V}, RepL K ca G x v → x.length = v.length
  | _, _, .nil => rfl
  | _, _, .cons _ b => congrArg (· + 1) (RepL.length b)
theorem RepL.at_ : ∀ {x : List D} {v : List V} {i : Nat} {d : D}, RepL K ca G x v → x[i]? = some d → ∃ u, v[i]? = some u ∧ Rep K ca G d u
  | _, _, _, _, .nil, h => by simp at h
  | _, _, 0, _, .cons a _, h => by simp at h; subst h; exact ⟨_, rfl, a⟩
  | _, _, i + 1, _, .cons _ b, h => by
    obtain ⟨u, e, r⟩ := RepL.at_ (i := i) b (by simpa using h)
    exact ⟨u, by simpa using e, r⟩
theorem RepL.append : ∀ {x y : List D} {v u : List V}, RepL K ca G x v → RepL K ca G y u → RepL K ca G (x ++ y) (v ++ u)
  | _, _, _, _, .nil, h => h
  | _, _, _, _, .cons a b, h => .cons a (RepL.append b h)
theorem RepL.take : ∀ {x : List D} {v : List V} (n : Nat), RepL K ca G x v → RepL K ca G (x.take n) (v.take n)
  | _, _, 0, _ => by simpa using RepL.nil
  | _, _, n + 1, .nil => by simpa using RepL.nil
  | _, _, n + 1, .cons a b => by simpa using RepL.cons a (RepL.take n b)
theorem RepL.drop : ∀ {x : List D} {v : List V} (n : Nat), RepL K ca G x v → RepL K ca G (x.drop n) (v.drop n)
  | _, _, 0, h => by simpa using h
  | _, _, n + 1, .nil => by simpa using RepL.nil
  | _, _, n + 1, .cons a b => by simpa using RepL.drop n b
theorem RepL.set : ∀ {x : List D} {v : List V} (n : Nat) {d : D} {u : V}, RepL K ca G x v → Rep K ca G d u → RepL K ca G (x.set n d) (v.set n u)
  | _, _, _, _, _, .nil, _ => .nil
  | _, _, 0, _, _, .cons a b, r => by simpa using RepL.cons r b
  | _, _, n + 1, _, _, .cons a b, r => by simpa using RepL.cons a (RepL.set n b r)
theorem RepL.rep {x : List D} {v : List V} (r : RepL K ca G x v) : ∀ n : Nat, RepL K ca G (List.replicate n x).flatten (List.replicate n v).flatten
  | 0 => by simpa using RepL.nil
  | n + 1 => by
    simp only [List.replicate_succ, List.flatten_cons]
    exact r.append (RepL.rep r n)
theorem cutD_rep {x : List D} {v : List V} (lo hi : Option Int) (r : RepL K ca G x v) : RepL K ca G (cutD x lo hi) (cutV v lo hi) := by
  unfold cutD cutV
  rw [r.length]
  exact (r.drop _).take _
theorem atI_rep {x : List D} {v : List V} {i : Int} {d : D} (r : RepL K ca G x v) (h : atI x i = some d) : ∃ u, atI v i = some u ∧ Rep K ca G d u := by
  unfold atI at h ⊢
  rw [← r.length]
  cases q : ixN x.length i with
  | none => rw [q] at h; cases h
  | some j => rw [q] at h; exact r.at_ h
theorem RepL.isEmpty {x : List D} {v : List V} (r : RepL K ca G x v) : v.isEmpty = x.isEmpty := by
  cases r <;> rfl
theorem RepL.ints : ∀ {x : List D} {v : List V} {ns : List Int}, RepL K ca G x v → ints? x = some ns → v = ns.map V.int
  | _, _, _, .nil, h => by cases h; rfl
  | d :: xs, _, ns, .cons a b, h => by
    cases d with
    | int i =>
      cases q : ints? xs with
      | none => simp [ints?, q] at h
      | some ms =>
        simp [ints?, q] at h
        subst h
        cases a
        rw [RepL.ints b q]
        rfl
    | _ => simp [ints?] at h
theorem RepL.bls : ∀ {x : List D} {v : List V} {ns : List Bool}, RepL K ca G x v → bls? x = some ns → v = ns.map V.bl
  | _, _, _, .nil, h => by cases h; rfl
  | d :: xs, _, ns, .cons a b, h => by
    cases d with
    | bl i =>
      cases q : bls? xs with
      | none => simp [bls?, q] at h
      | some ms =>
        simp [bls?, q] at h
        subst h
        cases a
        rw [RepL.bls b q]
        rfl
    | _ => simp [bls?] at h
theorem RepA.look : ∀ {fs : List (Str × D)} {fvs : List (Str × V)} {f : Str} {x : D}, RepA K ca G fs fvs → fs.lookup f = some x → ∃ v, fvs.lookup f = some v ∧ Rep K ca G x v
  | _, _, _, _, .nil, h => by simp at h
  | (g, y) :: fs, (_, v) :: fvs, f, x, .cons a b, h => by
    rw [List.lookup_cons] at h
    cases q : f == g with
    | true => rw [q] at h; cases h; exact ⟨v, by rw [List.lookup_cons, q], a⟩
    | false =>
      rw [q] at h
      obtain ⟨u, e, r⟩ := RepA.look b h
      exact ⟨u, by rw [List.lookup_cons, q]; exact e, r⟩
theorem RepA.none : ∀ {fs : List (Str × D)} {fvs : List (Str × V)} {f : Str}, RepA K ca G fs fvs → fs.lookup f = .none → fvs.lookup f = .none
  | _, _, _, .nil, _ => rfl
  | (g, y) :: fs, (_, v) :: fvs, f, .cons a b, h => by
    rw [List.lookup_cons] at h ⊢
    cases q : f == g with
    | true => rw [q] at h; cases h
    | false => rw [q] at h; exact RepA.none b h
/-- as the library's deep data -/
theorem py_tup {xs : List D} {d : PyData} (h : (D.tup xs).py = some d) : ∃ ds, D.py.pys xs = some ds ∧ d = .tuple ds := by
  unfold D.py at h
  cases q : D.py.pys xs with
  | none => rw [q] at h; cases h
  | some ds => rw [q] at h; cases h; exact ⟨ds, rfl, rfl⟩
theorem py_lst {xs : List D} {d : PyData} (h : (D.lst xs).py = some d) : ∃ ds, D.py.pys xs = some ds ∧ d = .list ds := by
  unfold D.py at h
  cases q : D.py.pys xs with
  | none => rw [q] at h; cases h
  | some ds => rw [q] at h; cases h; exact ⟨ds, rfl, rfl⟩
theorem pys_cons {x : D} {xs : List D} {ds : List PyData} (h : D.py.pys (x :: xs) = some ds) : ∃ y ys, x.py = some y ∧ D.py.pys xs = some ys ∧ ds = y :: ys := by
  unfold D.py.pys at h
  cases q : x.py with
  | none => rw [q] at h; cases h
  | some y =>
    rw [q] at h
    cases r : D.py.pys xs with
    | none => simp [r] at h
    | some ys => simp [r] at h; exact ⟨y, ys, rfl, rfl, h.symm⟩
mutual
theorem Rep.dp : ∀ {x : D} {v : V} {d : PyData}, Rep K ca G x v → x.py = some d → Dp K G v d
  | _, _, _, .non, h => by cases h; exact .non
  | _, _, _, .bl b, h => by cases h; exact .bl b
  | _, _, _, .int b, h => by cases h; exact .int b
  | _, _, _, .str b, h => by cases h; exact .str b
  | _, _, _, .tup a b, h => by
    obtain ⟨ds, e, rfl⟩ := py_tup h
    exact .tup a (RepL.dp b e)
  | _, _, _, .lst a b, h => by
    obtain ⟨ds, e, rfl⟩ := py_lst h
    exact .lst (.inl a) (RepL.dp b e)
  | _, _, _, .dct a b, h => by cases h
  | _, _, _, .ins a b, h => by cases h
  | _, _, _, .ro a b, h => by cases h
theorem RepL.dp : ∀ {x : List D} {v : List V} {d : List PyData}, RepL K ca G x v → D.py.pys x = some d → DpAll K G v d
  | _, _, _, .nil, h => by cases h; exact .nil
  | _, _, _, .cons a b, h => by
    obtain ⟨y, ys, e1, e2, rfl⟩ := pys_cons h
    exact .cons (Rep.dp a e1) (RepL.dp b e2)
end
mutual
theorem dp_mono {H H' : Hp} (e : Same H H') : ∀ {v : V} {d : PyData}, Dp K H v d → Dp K H' v d
  | _, _, .non => .non
  | _, _, .bl b => .bl b
  | _, _, .int b => .int b
  | _, _, .str b => .str b
  | _, _, .lst a b => .lst (sqL_mono e a) (dpAll_mono e b)
  | _, _, .tup a b => .tup (sqT_mono e a) (dpAll_mono e b)
theorem dpAll_mono {H H' : Hp} (e : Same H H') : ∀ {v : List V} {d : List PyData}, DpAll K H v d → DpAll K H' v d
  | _, _, .nil => .nil
  | _, _, .cons a b => .cons (dp_mono e a) (dpAll_mono e b)
end
/-- flat data -/
theorem Rep.flat {x : D} {v : V} (r : Rep K ca G x v) (h : x.flat = true) : flatV v = true := by
  cases r <;> first | rfl | cases h
theorem RepL.flat : ∀ {x : List D} {v : List V}, RepL K ca G x v → x.all D.flat = true → v.all flatV = true
  | _, _, .nil, _ => rfl
  | _, _, .cons a b, h => by
    simp only [List.all_cons, Bool.and_eq_true] at h ⊢
    exact ⟨a.flat h.1, RepL.flat b h.2⟩
theorem Rep.eqV {x y : D} {v u : V} (r : Rep K ca G x v) (q : Rep K ca G y u) (hx : x.flat = true) (hy : y.flat = true) : L2.eqV v u = x.eqFlat y := by
  cases r <;> first | (cases hx; done) | (cases q <;> first | (cases hy; done) | rfl)
theorem RepL.inV {x : D} {v : V} (r : Rep K ca G x v) (hx : x.flat = true) : ∀ {xs : List D} {vs : List V}, RepL K ca G xs vs → xs.all D.flat = true → L2.inV v vs = xs.any fun y => y.eqFlat x
  | _, _, .nil, _ => rfl
  | _, _, .cons a b, h => by
    simp only [List.all_cons, Bool.and_eq_true] at h
    have e := RepL.inV r hx b h.2
    unfold L2.inV at e ⊢
    simp only [List.any_cons]
    rw [a.eqV r h.1 hx, e]
end

/-! ### worlds: what stays, what stands behind, what is owned -/
abbrev Lb := Option Nat × Nat
structure Wd where
  G : Hp
  B : Hp
  Ow : Addr → Option Lb
structure Wok (W : Wd) (H : Hp) : Prop where
  g : Same W.G H
  b : Same W.B H
  gb : ∀ p o, W.B p = some o → W.G p = none
  own : ∀ p l, W.Ow p = some l → W.G p = none ∧ W.B p = none ∧ ∃ o, H p = some o
structure Ext (W W' : Wd) : Prop where
  g : Same W.G W'.G
  b : W'.B = W.B
theorem Ext.refl (W : Wd) : Ext W W := ⟨Same.refl _, rfl⟩
theorem Ext.trans {W W1 W2 : Wd} (a : Ext W W1) (b : Ext W1 W2) : Ext W W2 := ⟨a.g.trans b.g, b.b.trans a.b⟩
section
variable (K : PySem.W.Frag) (ca : Str → Addr)
def RepF (W : Wd) (H : Hp) (l : Lb) (x : F) (v : V) : Prop :=
  match x with
  | .d x => Rep K ca W.G x v
  | .lst xs => ∃ p vs, v = .ref p ∧ W.Ow p = some l ∧ H p = some (.lst vs) ∧ RepL K ca W.G xs vs
  | .dct xs => ∃ p vs, v = .ref p ∧ W.Ow p = some l ∧ H p = some (.dK vs) ∧ RepK K ca W.G xs vs
/-- the fields of an instance that is owned by a: the j-th under the label (a, j) -/
def RepFs (W : Wd) (H : Hp) (a : Option Nat) : Nat → List (Str × F) → List (Str × V) → Prop
  | _, [], [] => True
  | j, (f, x) :: fs, (g, v) :: fvs => f = g ∧ RepF K ca W H (a, j) x v ∧ RepFs W H a (j + 1) fs fvs
  | _, _, _ => False
def RepO (W : Wd) (H : Hp) (a : Option Nat) (x : O) (v : V) : Prop :=
  match x with
  | .f x => RepF K ca W H (a, 0) x v
  | .ins C fs => ∃ p dx fvs, v = .ref p ∧ W.Ow p = some (a, 0) ∧ H p = some (.ins (ca C) dx fvs) ∧ RepFs K ca W H a 1 fs fvs
end
section
variable {K : PySem.W.Frag} {ca : Str → Addr} {W W' : Wd} {H H' : Hp} {l l' : Lb} {a a' : Option Nat}
theorem RepF.mono {x : F} {v : V} (r : RepF K ca W H l x v) (e : Same W.G W'.G) (k : ∀ p, W.Ow p = some l → W'.Ow p = some l' ∧ H' p = H p) : RepF K ca W' H' l' x v := by
  cases x with
  | d x => exact Rep.mono e r
  | lst xs =>
    obtain ⟨p, vs, rfl, o, h, q⟩ := r
    exact ⟨p, vs, rfl, (k p o).1, (k p o).2.trans h, q.mono e⟩
  | dct xs =>
    obtain ⟨p, vs, rfl, o, h, q⟩ := r
    exact ⟨p, vs, rfl, (k p o).1, (k p o).2.trans h, q.mono e⟩
theorem RepFs.mono (e : Same W.G W'.G) : ∀ {j : Nat} {fs : List (Str × F)} {fvs : List (Str × V)}, RepFs K ca W H a j fs fvs → (∀ p i, j ≤ i → W.Ow p = some (a, i) → W'.Ow p = some (a', i) ∧ H' p = H p) → RepFs K ca W' H' a' j fs fvs
  | _, [], [], _, _ => trivial
  | j, (f, x) :: fs, (g, v) :: fvs, h, k => ⟨h.1, RepF.mono h.2.1 e fun p o => k p j (Nat.le_refl _) o, RepFs.mono e h.2.2 fun p i l o => k p i (by omega) o⟩
  | _, [], _ :: _, h, _ => h.elim
  | _, _ :: _, [], h, _ => h.elim
theorem RepO.mono {x : O} {v : V} (r : RepO K ca W H a x v) (e : Same W.G W'.G) (k : ∀ p j, W.Ow p = some (a, j) → W'.Ow p = some (a', j) ∧ H' p = H p) : RepO K ca W' H' a' x v := by
  cases x with
  | f x => exact RepF.mono r e fun p o => k p 0 o
  | ins C fs =>
    obtain ⟨p, dx, fvs, rfl, o, h, q⟩ := r
    exact ⟨p, dx, fvs, rfl, (k p 0 o).1, (k p 0 o).2.trans h, RepFs.mono e q fun p i _ o => k p i o⟩
/-- what is owned under the labels of L is given up -/
def Wd.fz (W : Wd) (H : Hp) (L : Lb → Bool) : Wd where
  G := fun p => match W.Ow p with
    | some l => if L l = true then H p else W.G p
    | none => W.G p
  B := W.B
  Ow := fun p => match W.Ow p with
    | some l => if L l = true then none else some l
    | none => none
theorem fz_g {L : Lb → Bool} (ok : Wok W H) : Same W.G (W.fz H L).G := fun p o e => by
  show (match W.Ow p with | some l => if L l = true then H p else W.G p | none => W.G p) = some o
  cases q : W.Ow p with
  | none => exact e
  | some l =>
    have := (ok.own p l q).1
    rw [this] at e; cases e
theorem fz_ext {L : Lb → Bool} (ok : Wok W H) : Ext W (W.fz H L) := ⟨fz_g ok, rfl⟩
theorem fz_in {L : Lb → Bool} {p : Addr} (q : W.Ow p = some l) (hl : L l = true) : (W.fz H L).G p = H p ∧ (W.fz H L).Ow p = none := by
  constructor
  · show (match W.Ow p with | some l => if L l = true then H p else W.G p | none => W.G p) = H p
    rw [q]; simp [hl]
  · show (match W.Ow p with | some l => if L l = true then none else some l | none => none) = none
    rw [q]; simp [hl]
theorem fz_out {L : Lb → Bool} {p : Addr} (q : W.Ow p = some l) (hl : L l = false) : (W.fz H L).G p = W.G p ∧ (W.fz H L).Ow p = some l := by
  constructor
  · show (match W.Ow p with | some l => if L l = true then H p else W.G p | none => W.G p) = W.G p
    rw [q]; simp [hl]
  · show (match W.Ow p with | some l => if L l = true then none else some l | none => none) = some l
    rw [q]; simp [hl]
theorem fz_ok {L : Lb → Bool} (ok : Wok W H) : Wok (W.fz H L) H where
  g := fun p o e => by
    cases q : W.Ow p with
    | none =>
      have e' : (match W.Ow p with | some l => if L l = true then H p else W.G p | none => W.G p) = some o := e
      rw [q] at e'
      exact ok.g p o e'
    | some l =>
      cases hl : L l with
      | true => rw [(fz_in q hl).1] at e; exact e
      | false => rw [(fz_out q hl).1] at e; exact ok.g p o e
  b := ok.b
  gb := fun p o e => by
    cases q : W.Ow p with
    | none =>
      show (match W.Ow p with | some l => if L l = true then H p else W.G p | none => W.G p) = none
      rw [q]
      exact ok.gb p o e
    | some l =>
      have h := (ok.own p l q).2.1
      have e' : W.B p = some o := e
      rw [h] at e'; cases e'
  own := fun p l e => by
    cases q : W.Ow p with
    | none =>
      have e' : (match W.Ow p with | some l => if L l = true then none else some l | none => none) = some l := e
      rw [q] at e'; cases e'
    | some l0 =>
      cases hl : L l0 with
      | true => rw [(fz_in (H := H) q hl).2] at e; cases e
      | false =>
        rw [(fz_out (H := H) q hl).1]
        exact ok.own p l0 q
theorem RepF.fz {x : F} {v : V} {L : Lb → Bool} (ok : Wok W H) (r : RepF K ca W H l x v) (hl : L l = true) : Rep K ca (W.fz H L).G x.fz v := by
  cases x with
  | d x => exact Rep.mono (fz_g ok) r
  | lst xs =>
    obtain ⟨p, vs, rfl, o, h, q⟩ := r
    exact .lst (Rd.of ((fz_in o hl).1.trans h)) (q.mono (fz_g ok))
  | dct xs =>
    obtain ⟨p, vs, rfl, o, h, q⟩ := r
    exact .dct ((fz_in o hl).1.trans h) (q.mono (fz_g ok))
theorem RepFs.fz {L : Lb → Bool} (ok : Wok W H) : ∀ {j : Nat} {fs : List (Str × F)} {fvs : List (Str × V)}, RepFs K ca W H a j fs fvs → (∀ i, j ≤ i → L (a, i) = true) → RepA K ca (W.fz H L).G (fs.map fun p => (p.1, p.2.fz)) fvs
  | _, [], [], _, _ => .nil
  | j, (f, x) :: fs, (g, v) :: fvs, h, k => by
    obtain ⟨rfl, h1, h2⟩ := h
    exact .cons (RepF.fz ok h1 (k j (Nat.le_refl _))) (RepFs.fz ok h2 fun i l => k i (by omega))
  | _, [], _ :: _, h, _ => h.elim
  | _, _ :: _, [], h, _ => h.elim
theorem RepO.fz {x : O} {v : V} {L : Lb → Bool} (ok : Wok W H) (r : RepO K ca W H a x v) (hl : ∀ i, L (a, i) = true) : Rep K ca (W.fz H L).G x.fz v := by
  cases x with
  | f x => exact RepF.fz ok r (hl 0)
  | ins C fs =>
    obtain ⟨p, dx, fvs, rfl, o, h, q⟩ := r
    exact .ins ((fz_in o (hl 0)).1.trans h) (RepFs.fz ok q fun i _ => hl i)
theorem RepO.fz_out {x : O} {v : V} {L : Lb → Bool} (ok : Wok W H) (r : RepO K ca W H a x v) (hl : ∀ i, L (a, i) = false) : RepO K ca (W.fz H L) H a x v :=
  RepO.mono r (fz_g ok) fun p j o => ⟨(Vm.fz_out o (hl j)).2, rfl⟩
end
end Vm

set_option Elab.async false
set_option linter.all false
set_option maxRecDepth 100000
set_option maxHeartbeats 4000000
set_option autoImplicit false
/-! Vm, part C: states and what is wanted behind an evaluation. -/
namespace Vm
open PySem L2 PyProof.Rows

structure Cy where
  K : PySem.W.Frag
  ca : Str → Addr
  pins : List (Nat × V)
  Wx : WX
def RepX (K : PySem.W.Frag) (ca : Str → Addr) (W : Wd) (H : Hp) (x : Exn) (cls : Value) (d : Option Addr) : Prop :=
  cls = .ref (ca x.cls) ∧ match d with
    | none => x.fs = []
    | some dx => ∃ fvs, H dx = some (.xd fvs) ∧ RepA K ca W.G x.fs fvs
structure Rel (Y : Cy) (W : Wd) (ρ : Env) (σ : L2.St) (H : Hp) : Prop where
  ok : Wok W H
  len : ρ.length = σ.length
  slot : ∀ i o, ρ[i]? = some (some o) → ∃ v, σ[i]? = some (some v) ∧ RepO Y.K Y.ca W H (some i) o v
  pin : ∀ i v, (i, v) ∈ Y.pins → σ[i]? = some (some v)
/-- what is wanted behind an evaluation -/
def Post {α β : Type} (Y : Cy) (W : Wd) (σ : L2.St) (R : Wd → Hp → α → β → Prop) (Q : β → Hp → Prop) : M α → Prop
  | none => False
  | some (.ok a ρ') => ∀ b W' H', Ext W W' → Rel Y W' ρ' σ H' → R W' H' a b → Q b H'
  | some (.exc x ρ') => ∀ cls d W' H', Ext W W' → Rel Y W' ρ' σ H' → RepX Y.K Y.ca W' H' x cls d → Y.Wx cls d σ H'
section
variable {α β γ δ : Type} {Y : Cy} {W W1 : Wd} {σ : L2.St} {R1 : Wd → Hp → α → β → Prop} {R2 : Wd → Hp → γ → δ → Prop} {Q1 : β → Hp → Prop} {Q2 : δ → Hp → Prop}
theorem Post.ext {m : M γ} (h : Post Y W σ R2 Q2 m) (e : Ext W W1) : Post Y W1 σ R2 Q2 m := by
  cases m with
  | none => exact h
  | some r =>
    cases r with
    | ok a ρ' => exact fun b W' H' e' r' => h b W' H' (e.trans e') r'
    | exc x ρ' => exact fun c d W' H' e' r' => h c d W' H' (e.trans e') r'
theorem Post.bind {m : M α} {f : α → Env → M γ} (h : Post Y W σ R2 Q2 (m.bind f))
    (k : ∀ a ρ' b W' H', Ext W W' → Rel Y W' ρ' σ H' → R1 W' H' a b → Post Y W' σ R2 Q2 (f a ρ') → Q1 b H') : Post Y W σ R1 Q1 m := by
  cases m with
  | none => exact h
  | some r =>
    cases r with
    | ok a ρ' => exact fun b W' H' e r' q => k a ρ' b W' H' e r' q (Post.ext (m := f a ρ') h e)
    | exc x ρ' => exact h
theorem Post.imp {m : M α} {R1' : Wd → Hp → α → β → Prop} {Q1' : β → Hp → Prop} (h : Post Y W σ R1 Q1 m) (hr : ∀ W H a b, R1' W H a b → R1 W H a b) (hq : ∀ b H, Q1 b H → Q1' b H) : Post Y W σ R1' Q1' m := by
  cases m with
  | none => exact h
  | some r =>
    cases r with
    | ok a ρ' => exact fun b W' H' e r' q => hq _ _ (h b W' H' e r' (hr _ _ _ _ q))
    | exc x ρ' => exact h
theorem Post.now {a : α} {ρ : Env} {b : β} {H : Hp} (h : Post Y W σ R1 Q1 (ok a ρ)) (r : Rel Y W ρ σ H) (q : R1 W H a b) : Q1 b H := h b W H (Ext.refl W) r q
end

/-! ### changes of a state -/
section
variable {Y : Cy} {W W' : Wd} {ρ : Env} {σ : L2.St} {H H' : Hp} {i : Nat} {o : O} {v : V} {p : Addr}
theorem Wok.write {ho : HO} (ok : Wok W H) {l : Lb} (hl : W.Ow p = some l) : Wok W (upd H p ho) where
  g := fun b u e => by
    have h := (ok.own p l hl).1
    rw [upd_ne (by rintro rfl; rw [h] at e; cases e)]
    exact ok.g b u e
  b := fun b u e => by
    have h := (ok.own p l hl).2.1
    rw [upd_ne (by rintro rfl; rw [h] at e; cases e)]
    exact ok.b b u e
  gb := ok.gb
  own := fun b l' e => by
    refine ⟨(ok.own b l' e).1, (ok.own b l' e).2.1, ?_⟩
    by_cases hb : b = p
    · exact ⟨ho, by rw [hb, upd_same]⟩
    · rw [upd_ne hb]; exact (ok.own b l' e).2.2
/-- a new object that stays -/
def Wd.addG (W : Wd) (p : Addr) (ho : HO) : Wd := { W with G := upd W.G p ho }
theorem Wok.addG {ho : HO} (ok : Wok W H) (hp : H p = none) : Wok (W.addG p ho) (upd H p ho) := by
  have nW : ∀ b l, W.Ow b = some l → b ≠ p := fun b l e z => by
    obtain ⟨_, _, u, hu⟩ := ok.own b l e
    rw [z, hp] at hu; cases hu
  have nB : ∀ b u, W.B b = some u → b ≠ p := fun b u e z => by
    have := ok.b b u e
    rw [z, hp] at this; cases this
  refine ⟨fun b u e => ?_, fun b u e => ?_, fun b u e => ?_, fun b l e => ?_⟩
  · by_cases hb : b = p
    · subst hb
      have e' : upd W.G b ho b = some u := e
      rw [upd_same] at e'
      rw [upd_same]; exact e'
    · have e' : upd W.G p ho b = some u := e
      rw [upd_ne hb] at e'
      rw [upd_ne hb]; exact ok.g b u e'
  · rw [upd_ne (nB b u e)]; exact ok.b b u e
  · show upd W.G p ho b = none
    rw [upd_ne (nB b u e)]; exact ok.gb b u e
  · have hb := nW b l e
    refine ⟨?_, (ok.own b l e).2.1, ?_⟩
    · show upd W.G p ho b = none
      rw [upd_ne hb]; exact (ok.own b l e).1
    · rw [upd_ne hb]; exact (ok.own b l e).2.2
theorem ext_addG {ho : HO} (ok : Wok W H) (hp : H p = none) : Ext W (W.addG p ho) := by
  refine ⟨fun b u e => ?_, rfl⟩
  show upd W.G p ho b = some u
  rw [upd_ne (by rintro rfl; have := ok.g b u e; rw [hp] at this; cases this)]
  exact e
/-- a new object that is owned, under a label -/
def Wd.addO (W : Wd) (p : Addr) (l : Lb) : Wd := { W with Ow := fun b => if b = p then some l else W.Ow b }
theorem Wok.addO {ho : HO} {l : Lb} (ok : Wok W H) (hp : H p = none) : Wok (W.addO p l) (upd H p ho) := by
  have nG : ∀ b u, W.G b = some u → b ≠ p := fun b u e z => by
    have := ok.g b u e
    rw [z, hp] at this; cases this
  have nB : ∀ b u, W.B b = some u → b ≠ p := fun b u e z => by
    have := ok.b b u e
    rw [z, hp] at this; cases this
  refine ⟨fun b u e => ?_, fun b u e => ?_, ok.gb, fun b l' e => ?_⟩
  · rw [upd_ne (nG b u e)]; exact ok.g b u e
  · rw [upd_ne (nB b u e)]; exact ok.b b u e
  · by_cases hb : b = p
    · subst hb
      refine ⟨?_, ?_, ⟨ho, upd_same⟩⟩
      · show W.G b = none
        cases q : W.G b with
        | none => rfl
        | some u => exact absurd rfl (nG b u q)
      · show W.B b = none
        cases q : W.B b with
        | none => rfl
        | some u => exact absurd rfl (nB b u q)
    · have e' : (if b = p then some l else W.Ow b) = some l' := e
      rw [if_neg hb] at e'
      rw [upd_ne hb]
      exact ok.own b l' e'
theorem ext_addO {l : Lb} : Ext W (W.addO p l) := ⟨Same.refl _, rfl⟩
theorem ow_ne (ok : Wok W H) (hp : H p = none) {b : Addr} {l : Lb} (e : W.Ow b = some l) : b ≠ p := fun z => by
  obtain ⟨_, _, u, hu⟩ := ok.own b l e
  rw [z, hp] at hu; cases hu
/-- all slots stand as they stood -/
theorem Rel.same (r : Rel Y W ρ σ H) (ok : Wok W' H') (e : Same W.G W'.G) (k : ∀ p i j, W.Ow p = some (some i, j) → W'.Ow p = some (some i, j) ∧ H' p = H p) : Rel Y W' ρ σ H' :=
  ⟨ok, r.len, fun i o h => by
    obtain ⟨v, h1, h2⟩ := r.slot i o h
    exact ⟨v, h1, h2.mono e fun p j q => k p i j q⟩, r.pin⟩
/-- one slot's content changes, all others stand -/
theorem Rel.chg (r : Rel Y W ρ σ H) (ok : Wok W' H') (e : Same W.G W'.G) (k : ∀ p i' j, i' ≠ i → W.Ow p = some (some i', j) → W'.Ow p = some (some i', j) ∧ H' p = H p)
    (hv : σ[i]? = some (some v)) (ho : RepO Y.K Y.ca W' H' (some i) o v) : Rel Y W' (ρ.set i (some o)) σ H' := by
  refine ⟨ok, by rw [List.length_set]; exact r.len, fun j u h => ?_, r.pin⟩
  by_cases hj : j = i
  · subst hj
    have hl : j < ρ.length := by
      rw [r.len]; exact (List.getElem?_eq_some_iff.mp hv).1
    rw [List.getElem?_set_self hl] at h
    cases h
    exact ⟨v, hv, ho⟩
  · rw [List.getElem?_set_ne (Ne.symm hj)] at h
    obtain ⟨u', h1, h2⟩ := r.slot j u h
    exact ⟨u', h1, h2.mono e fun p j' q => k p j j' hj q⟩
/-- a slot forgotten -/
theorem Rel.drop (r : Rel Y W ρ σ H) (i : Nat) : Rel Y W (ρ.set i none) σ H := by
  refine ⟨r.ok, by rw [List.length_set]; exact r.len, fun j u h => ?_, r.pin⟩
  by_cases hj : j = i
  · subst hj
    by_cases hl : j < ρ.length
    · rw [List.getElem?_set_self hl] at h; cases h
    · rw [List.getElem?_eq_none (by rw [List.length_set]; omega)] at h; cases h
  · rw [List.getElem?_set_ne (Ne.symm hj)] at h
    exact r.slot j u h
theorem Rel.newG {ho : HO} (r : Rel Y W ρ σ H) (hp : H p = none) : Rel Y (W.addG p ho) ρ σ (upd H p ho) :=
  r.same (r.ok.addG hp) (ext_addG r.ok hp).g fun b i j q => ⟨q, upd_ne (ow_ne r.ok hp q)⟩
theorem Rel.newO {ho : HO} (r : Rel Y W ρ σ H) (hp : H p = none) {j : Nat} : Rel Y (W.addO p (none, j)) ρ σ (upd H p ho) :=
  r.same (r.ok.addO hp) (Same.refl _) fun b i j q => ⟨by
    show (if b = p then some _ else W.Ow b) = _
    rw [if_neg (ow_ne r.ok hp q)]; exact q, upd_ne (ow_ne r.ok hp q)⟩
def isTemp (l : Lb) : Bool := match l.1 with
  | none => true
  | some _ => false
/-- what is new and owned is given up -/
theorem Rel.fzT (r : Rel Y W ρ σ H) : Rel Y (W.fz H isTemp) ρ σ H :=
  r.same (fz_ok r.ok) (fz_g r.ok) fun b i j q => ⟨(fz_out q rfl).2, rfl⟩
theorem Rel.frz (r : Rel Y W ρ σ H) (h : RepO Y.K Y.ca W H none o v) : ∃ W', Ext W W' ∧ Rel Y W' ρ σ H ∧ Rep Y.K Y.ca W'.G o.fz v :=
  ⟨W.fz H isTemp, fz_ext r.ok, r.fzT, RepO.fz r.ok h fun _ => rfl⟩
def isSlot (i : Nat) (l : Lb) : Bool := match l.1 with
  | none => false
  | some k => decide (k = i)
theorem isSlot_ne {i k j : Nat} (h : k ≠ i) : isSlot i (some k, j) = false := decide_eq_false h
theorem isSlot_eq {i j : Nat} : isSlot i (some i, j) = true := decide_eq_true rfl
/-- what a slot owns is given up -/
theorem Rel.fzS (r : Rel Y W ρ σ H) (h : ρ[i]? = some (some o)) : ∃ v W', σ[i]? = some (some v) ∧ Ext W W' ∧ Rel Y W' (ρ.set i (some (.f (.d o.fz)))) σ H ∧ Rep Y.K Y.ca W'.G o.fz v := by
  obtain ⟨v, hv, ho⟩ := r.slot i o h
  have hr : Rep Y.K Y.ca (W.fz H (isSlot i)).G o.fz v := RepO.fz r.ok ho fun _ => isSlot_eq
  exact ⟨v, W.fz H (isSlot i), hv, fz_ext r.ok, r.chg (fz_ok r.ok) (fz_g r.ok) (fun b i' j hn q => ⟨(fz_out q (isSlot_ne hn)).2, rfl⟩) hv hr, hr⟩
/-- a name is stored -/
def relab (i : Nat) (W : Wd) : Wd := { W with Ow := fun b => match W.Ow b with
  | some (none, j) => some (some i, j)
  | some (some k, j) => if k = i then none else some (some k, j)
  | none => none }
theorem relab_temp {i j : Nat} (h : W.Ow p = some (none, j)) : (relab i W).Ow p = some (some i, j) := by
  show (match W.Ow p with | some (none, j) => some (some i, j) | some (some k, j) => if k = i then none else some (some k, j) | none => none) = _
  rw [h]
theorem relab_other {i k j : Nat} (h : W.Ow p = some (some k, j)) (hn : k ≠ i) : (relab i W).Ow p = some (some k, j) := by
  show (match W.Ow p with | some (none, j) => some (some i, j) | some (some k, j) => if k = i then none else some (some k, j) | none => none) = _
  rw [h]; simp [hn]
theorem relab_some {i : Nat} {l : Lb} (h : (relab i W).Ow p = some l) : ∃ l', W.Ow p = some l' := by
  cases q : W.Ow p with
  | none =>
    have h' : (match W.Ow p with | some (none, j) => some (some i, j) | some (some k, j) => if k = i then none else some (some k, j) | none => none) = some l := h
    rw [q] at h'; cases h'
  | some l' => exact ⟨l', rfl⟩
theorem Wok.relab {i : Nat} (ok : Wok W H) : Wok (Vm.relab i W) H := ⟨ok.g, ok.b, ok.gb, fun p l e => let ⟨l', h⟩ := relab_some e; ok.own p l' h⟩
theorem Rel.store (r : Rel Y W ρ σ H) (h : RepO Y.K Y.ca W H none o v) (hp : ∀ u, (i, u) ∉ Y.pins) : Rel Y (relab i W) (ρ.set i (some o)) (σ.set i (some v)) H := by
  refine ⟨r.ok.relab, by rw [List.length_set, List.length_set]; exact r.len, fun j u e => ?_, fun j u e => ?_⟩
  · by_cases hj : j = i
    · subst hj
      have hl : j < ρ.length := by
        refine Decidable.byContradiction fun hn => ?_
        rw [List.getElem?_eq_none (by rw [List.length_set]; omega)] at e; cases e
      rw [List.getElem?_set_self hl] at e
      cases e
      exact ⟨v, List.getElem?_set_self (by rw [← r.len]; exact hl), h.mono (Same.refl _) fun p j' q => ⟨relab_temp q, rfl⟩⟩
    · rw [List.getElem?_set_ne (Ne.symm hj)] at e
      obtain ⟨u', h1, h2⟩ := r.slot j u e
      exact ⟨u', by rw [List.getElem?_set_ne (Ne.symm hj)]; exact h1, h2.mono (Same.refl _) fun p j' q => ⟨relab_other q hj, rfl⟩⟩
  · have hj : i ≠ j := by rintro rfl; exact hp u e
    rw [List.getElem?_set_ne hj]
    exact r.pin j u e
theorem ext_relab {i : Nat} : Ext W (relab i W) := ⟨Same.refl _, rfl⟩
/-- a datum is stored -/
theorem Rel.storeD {x : D} (r : Rel Y W ρ σ H) (h : Rep Y.K Y.ca W.G x v) (hp : ∀ u, (i, u) ∉ Y.pins) : Rel Y (relab i W) (ρ.set i (some (.f (.d x)))) (σ.set i (some v)) H :=
  r.store (o := .f (.d x)) h hp
end

/-! ### readings by the evaluator -/
abbrev RO (Y : Cy) : Wd → Hp → O → V → Prop := fun W H o v => RepO Y.K Y.ca W H none o v
abbrev RD (Y : Cy) : Wd → Hp → O → V → Prop := fun W H o v => Rep Y.K Y.ca W.G o.fz v
/-- looked at: the operand stands under some label -/
def RepP (Y : Cy) (W : Wd) (H : Hp) (o : O) (v : V) : Prop := (∃ a, RepO Y.K Y.ca W H a o v) ∨ ∃ l y, o = .f y ∧ RepF Y.K Y.ca W H l y v
abbrev RP (Y : Cy) : Wd → Hp → O → V → Prop := fun W H o v => RepP Y W H o v
abbrev RL (Y : Cy) : Wd → Hp → List D → List V → Prop := fun W _ xs vs => RepL Y.K Y.ca W.G xs vs
abbrev RT : Wd → Hp → Bool → Bool → Prop := fun _ _ a b => a = b
abbrev RI : Wd → Hp → Option Int → Option Int → Prop := fun _ _ a b => a = b
inductive ArgR (Y : Cy) (σ : L2.St) (W : Wd) : Arg → V → Prop
  | v {x : D} {v : V} : Rep Y.K Y.ca W.G x v → ArgR Y σ W (.v x) v
  | io {i : Nat} {v : V} : σ[i]? = some (some v) → ArgR Y σ W (.io i) v
abbrev RAs (Y : Cy) (σ : L2.St) : Wd → Hp → List Arg → List V → Prop := fun W _ as vs => Paired (ArgR Y σ W) as vs
def tEv (Y : Cy) (m : Env → M O) : TE := fun σ H Q => ∃ W ρ, Rel Y W ρ σ H ∧ Post Y W σ (RO Y) Q (m ρ)
def tEvP (Y : Cy) (m : Env → M O) : TE := fun σ H Q => ∃ W ρ, Rel Y W ρ σ H ∧ Post Y W σ (RP Y) Q (m ρ)
def tEvs (Y : Cy) (m : Env → M (List D)) : TA := fun σ H Q => ∃ W ρ, Rel Y W ρ σ H ∧ Post Y W σ (RL Y) Q (m ρ)
def tEvA (Y : Cy) (m : Env → M (List Arg)) : TA := fun σ H Q => ∃ W ρ, Rel Y W ρ σ H ∧ Post Y W σ (RAs Y σ) Q (m ρ)
def tEvT (Y : Cy) (m : Env → M Bool) : TT := fun σ H Q => ∃ W ρ, Rel Y W ρ σ H ∧ Post Y W σ RT Q (m ρ)
def tEvO (Y : Cy) (m : Env → M (Option Int)) : TO := fun σ H Q => ∃ W ρ, Rel Y W ρ σ H ∧ Post Y W σ RI Q (m ρ)
section
variable {X : Cx} {e : Expr} {t t' : TE} {tt tt' : TT} {ta ta' : TA} {es : List Expr}
theorem _root_.L2.PE.imp (h : PE X e t) (i : ∀ σ H Q, t' σ H Q → t σ H Q) : PE X e t' := ⟨fun pins s σ H Q I w => h.run pins s σ H Q I (i σ H Q w)⟩
theorem _root_.L2.PT.imp (h : PT X e tt) (i : ∀ σ H Q, tt' σ H Q → tt σ H Q) : PT X e tt' := ⟨fun pins s σ H Q I w => h.run pins s σ H Q I (i σ H Q w)⟩
theorem _root_.L2.PW.imp (h : PW X e tt) (i : ∀ σ H Q, tt' σ H Q → tt σ H Q) : PW X e tt' := ⟨fun wh pins s σ H Q I w => h.run wh pins s σ H Q I (i σ H Q w)⟩
theorem _root_.L2.PA.imp (h : PA X es ta) (i : ∀ σ H Q, ta' σ H Q → ta σ H Q) : PA X es ta' := ⟨fun pos pins s σ H Q I w => h.run pos pins s σ H Q I (i σ H Q w)⟩
theorem _root_.L2.PO.imp {e : Option Expr} {to to' : TO} (h : PO X e to) (i : ∀ σ H Q, to' σ H Q → to σ H Q) : PO X e to' := ⟨fun pins s σ H Q I w => h.run pins s σ H Q I (i σ H Q w)⟩
end
section
variable {Y : Cy} {W : Wd} {ρ : Env} {σ : L2.St} {H : Hp} {m : Env → M O} {γ δ : Type} {R2 : Wd → Hp → γ → δ → Prop} {Q2 : δ → Hp → Prop} {f : O → Env → M γ} {Q : VK}
/-- go on behind an operand that is kept -/
theorem goE (r : Rel Y W ρ σ H) (h : Post Y W σ R2 Q2 ((m ρ).bind f)) (k : ∀ o ρ' v W' H', Ext W W' → Rel Y W' ρ' σ H' → Rep Y.K Y.ca W'.G o.fz v → Post Y W' σ R2 Q2 (f o ρ') → Q v H') : tEv Y m σ H Q :=
  ⟨W, ρ, r, Post.bind h fun o ρ' v W' H' e r' q p => by
    obtain ⟨W1, e1, r1, q1⟩ := r'.frz q
    exact k o ρ' v W1 H' (e.trans e1) r1 q1 (p.ext e1)⟩
/-- .. that is as it is -/
theorem goO (r : Rel Y W ρ σ H) (h : Post Y W σ R2 Q2 ((m ρ).bind f)) (k : ∀ o ρ' v W' H', Ext W W' → Rel Y W' ρ' σ H' → RepO Y.K Y.ca W' H' none o v → Post Y W' σ R2 Q2 (f o ρ') → Q v H') : tEv Y m σ H Q :=
  ⟨W, ρ, r, Post.bind h k⟩
/-- .. that is looked at -/
theorem goP (r : Rel Y W ρ σ H) (h : Post Y W σ R2 Q2 ((m ρ).bind f)) (k : ∀ o ρ' v W' H', Ext W W' → Rel Y W' ρ' σ H' → RepP Y W' H' o v → Post Y W' σ R2 Q2 (f o ρ') → Q v H') : tEvP Y m σ H Q :=
  ⟨W, ρ, r, Post.bind h k⟩
end
section
variable {Y : Cy} {W : Wd} {ρ : Env} {σ : L2.St} {H : Hp} {a : Option Nat} {o : O} {v : V}
/-- the datum of an owned part as it stands now -/
theorem RepF.now {l : Lb} {x : F} (ok : Wok W H) (r : RepF Y.K Y.ca W H l x v) : Rep Y.K Y.ca H x.fz v := by
  cases x with
  | d x => exact Rep.mono ok.g r
  | lst xs =>
    obtain ⟨p, vs, rfl, o, h, q⟩ := r
    exact .lst (Rd.of h) (q.mono ok.g)
  | dct xs =>
    obtain ⟨p, vs, rfl, o, h, q⟩ := r
    exact .dct h (q.mono ok.g)
theorem RepFs.now (ok : Wok W H) : ∀ {j : Nat} {fs : List (Str × F)} {fvs : List (Str × V)}, RepFs Y.K Y.ca W H a j fs fvs → RepA Y.K Y.ca H (fs.map fun p => (p.1, p.2.fz)) fvs
  | _, [], [], _ => .nil
  | j, (f, x) :: fs, (g, v) :: fvs, h => by
    obtain ⟨rfl, h1, h2⟩ := h
    exact .cons (RepF.now ok h1) (RepFs.now ok h2)
  | _, [], _ :: _, h => h.elim
  | _, _ :: _, [], h => h.elim
theorem RepO.now (ok : Wok W H) (r : RepO Y.K Y.ca W H a o v) : Rep Y.K Y.ca H o.fz v := by
  cases o with
  | f x => exact RepF.now ok r
  | ins C fs =>
    obtain ⟨p, dx, fvs, rfl, o, h, q⟩ := r
    exact .ins h (RepFs.now ok q)
theorem RepP.now (ok : Wok W H) (r : RepP Y W H o v) : Rep Y.K Y.ca H o.fz v := by
  rcases r with ⟨a, r⟩ | ⟨l, y, rfl, r⟩
  · exact RepO.now ok r
  · exact RepF.now ok r
end
end Vm

set_option Elab.async false
set_option linter.all false
set_option maxRecDepth 100000
set_option maxHeartbeats 4000000
set_option autoImplicit false
/-! Vm, part D: what a def promises; calls. -/
namespace Vm
open PySem L2 PyProof.Rows

section
variable (K : PySem.W.Frag) (ca : Str → Addr)
def RepAs (W : Wd) (H : Hp) : Nat → List Bool → List O → List V → Prop
  | _, [], [], [] => True
  | k, b :: bs, o :: os, v :: vs => (if b = true then RepO K ca W H (some k) o v else ∃ x, o = .f (.d x) ∧ Rep K ca W.G x v) ∧ RepAs W H (k + 1) bs os vs
  | _, _, _, _ => False
def RepIs (W : Wd) (H : Hp) : Nat → List Bool → List O → List V → Prop
  | _, [], ios, _ => ios = []
  | k, false :: bs, ios, _ :: vs => RepIs W H (k + 1) bs ios vs
  | k, true :: bs, o :: ios, v :: vs => RepO K ca W H (some k) o v ∧ RepIs W H (k + 1) bs ios vs
  | _, _, _, _ => False
/-- the promise of a function of the evaluator -/
def spD (fn : Fn) : Sp := fun vs H Q E => ∃ (W : Wd) (os : List O), Wok W H ∧ RepAs K ca W H 0 fn.io os vs ∧
  match fn.run os with
  | none => False
  | some (.ret r ios) => ∀ v' W' H', Ext W W' → Wok W' H' → RepIs K ca W' H' 0 fn.io ios vs → RepO K ca W' H' none r v' → Q v' H'
  | some (.exc x ios) => ∀ cls d W' H', Ext W W' → Wok W' H' → RepIs K ca W' H' 0 fn.io ios vs → RepX K ca W' H' x cls d → E cls d H'
end

/-! ### a world for a callee, and back -/
def wIn (W : Wd) (H : Hp) (hand : Lb → Option Lb) : Wd where
  G := W.G
  B := fun p => if W.G p = none ∧ (W.Ow p).bind hand = none then H p else none
  Ow := fun p => (W.Ow p).bind hand
def wOut (W W' : Wd) (hand back : Lb → Option Lb) : Wd where
  G := W'.G
  B := W.B
  Ow := fun p => match W.Ow p with
    | some (some i, j) => if hand (some i, j) = none then some (some i, j) else (W'.Ow p).bind back
    | _ => (W'.Ow p).bind back
section
variable {W W' : Wd} {H H' : Hp} {hand back : Lb → Option Lb} {p : Addr}
theorem wIn_B (hg : W.G p = none) (ho : (W.Ow p).bind hand = none) : (wIn W H hand).B p = H p := by
  show (if _ then _ else _) = _
  rw [if_pos ⟨hg, ho⟩]
theorem wIn_B_some {o : HO} (h : (wIn W H hand).B p = some o) : W.G p = none ∧ (W.Ow p).bind hand = none ∧ H p = some o := by
  have h' : (if W.G p = none ∧ (W.Ow p).bind hand = none then H p else none) = some o := h
  by_cases c : W.G p = none ∧ (W.Ow p).bind hand = none
  · rw [if_pos c] at h'; exact ⟨c.1, c.2, h'⟩
  · rw [if_neg c] at h'; cases h'
theorem wIn_ok (ok : Wok W H) : Wok (wIn W H hand) H where
  g := ok.g
  b := fun q o e => (wIn_B_some e).2.2
  gb := fun q o e => (wIn_B_some e).1
  own := fun q l e => by
    have e' : (W.Ow q).bind hand = some l := e
    cases z : W.Ow q with
    | none => rw [z] at e'; cases e'
    | some l0 =>
      refine ⟨(ok.own q l0 z).1, ?_, (ok.own q l0 z).2.2⟩
      cases r : (wIn W H hand).B q with
      | none => rfl
      | some o =>
        have := (wIn_B_some r).2.1
        rw [e'] at this; cases this
/-- what the callee must keep -/
theorem kept_B (ok : Wok W H) {i j : Nat} (h : W.Ow p = some (some i, j)) (hn : hand (some i, j) = none) : ∃ o, H p = some o ∧ (wIn W H hand).B p = some o := by
  obtain ⟨h1, h2, o, h3⟩ := ok.own p _ h
  exact ⟨o, h3, by rw [wIn_B h1 (by rw [h]; exact hn)]; exact h3⟩
theorem B_B (ok : Wok W H) {o : HO} (h : W.B p = some o) : (wIn W H hand).B p = some o := by
  have h1 := ok.gb p o h
  have h2 : W.Ow p = none := by
    cases q : W.Ow p with
    | none => rfl
    | some l => have := (ok.own p l q).2.1; rw [this] at h; cases h
  rw [wIn_B h1 (by rw [h2]; rfl)]
  exact ok.b p o h
theorem wOut_own {i j : Nat} (h : W.Ow p = some (some i, j)) (hn : hand (some i, j) = none) : (wOut W W' hand back).Ow p = some (some i, j) := by
  show (match W.Ow p with | some (some i, j) => if hand (some i, j) = none then some (some i, j) else (W'.Ow p).bind back | _ => (W'.Ow p).bind back) = _
  rw [h]; simp [hn]
theorem wOut_back (ok : Wok W H) (e : Ext (wIn W H hand) W') (ok' : Wok W' H') {l : Lb} (h : W'.Ow p = some l) : (wOut W W' hand back).Ow p = back l := by
  show (match W.Ow p with | some (some i, j) => if hand (some i, j) = none then some (some i, j) else (W'.Ow p).bind back | _ => (W'.Ow p).bind back) = _
  cases q : W.Ow p with
  | none => rw [h]; rfl
  | some l0 =>
    obtain ⟨a, j⟩ := l0
    cases a with
    | none => rw [h]; rfl
    | some i =>
      by_cases c : hand (some i, j) = none
      · obtain ⟨o, _, hb⟩ := kept_B ok q c
        have := (ok'.own p l h).2.1
        rw [e.b, hb] at this; cases this
      · show (if hand (some i, j) = none then some (some i, j) else (W'.Ow p).bind back) = _
        rw [if_neg c, h]; rfl
theorem wOut_cases {l : Lb} (h : (wOut W W' hand back).Ow p = some l) : (∃ i j, W.Ow p = some (some i, j) ∧ hand (some i, j) = none) ∨ ∃ l', W'.Ow p = some l' := by
  have h' : (match W.Ow p with | some (some i, j) => if hand (some i, j) = none then some (some i, j) else (W'.Ow p).bind back | _ => (W'.Ow p).bind back) = some l := h
  have fin : (W'.Ow p).bind back = some l → ∃ l', W'.Ow p = some l' := fun z => by
    cases q : W'.Ow p with
    | none => rw [q] at z; cases z
    | some l' => exact ⟨l', rfl⟩
  cases q : W.Ow p with
  | none => rw [q] at h'; exact .inr (fin h')
  | some l0 =>
    obtain ⟨a, j⟩ := l0
    cases a with
    | none => rw [q] at h'; exact .inr (fin h')
    | some i =>
      by_cases c : hand (some i, j) = none
      · exact .inl ⟨i, j, rfl, c⟩
      · rw [q] at h'
        have h2 : (if hand (some i, j) = none then some (some i, j) else (W'.Ow p).bind back) = some l := h'
        rw [if_neg c] at h2
        exact .inr (fin h2)
theorem wOut_ok (ok : Wok W H) (e : Ext (wIn W H hand) W') (ok' : Wok W' H') : Wok (wOut W W' hand back) H' where
  g := ok'.g
  b := fun q o h => ok'.b q o (by rw [e.b]; exact B_B ok h)
  gb := fun q o h => ok'.gb q o (by rw [e.b]; exact B_B ok h)
  own := fun q l h => by
    rcases wOut_cases h with ⟨i, j, h1, h2⟩ | ⟨l', h1⟩
    · obtain ⟨o, ho, hb⟩ := kept_B ok h1 h2
      have hb' : W'.B q = some o := by rw [e.b]; exact hb
      exact ⟨ok'.gb q o hb', (ok.own q _ h1).2.1, o, ok'.b q o hb'⟩
    · refine ⟨(ok'.own q l' h1).1, ?_, (ok'.own q l' h1).2.2⟩
      cases z : W.B q with
      | none => exact z
      | some o =>
        have := (ok'.own q l' h1).2.1
        rw [e.b, B_B ok z] at this; cases this
theorem wOut_ext (e : Ext (wIn W H hand) W') : Ext W (wOut W W' hand back) := ⟨e.g, rfl⟩
/-- what is not handed over stands as it stood -/
theorem wOut_kept (ok : Wok W H) (e : Ext (wIn W H hand) W') (ok' : Wok W' H') {i j : Nat} (h : W.Ow p = some (some i, j)) (hn : hand (some i, j) = none) : (wOut W W' hand back).Ow p = some (some i, j) ∧ H' p = H p := by
  obtain ⟨o, h1, h2⟩ := kept_B ok h hn
  exact ⟨wOut_own h hn, (ok'.b p o (by rw [e.b]; exact h2)).trans h1.symm⟩
end

/-! ### arguments -/
def posOf (i : Nat) : Nat → List Arg → Option Nat
  | _, [] => none
  | k, .io j :: as => if j = i then some k else posOf i (k + 1) as
  | k, .v _ :: as => posOf i (k + 1) as
def ioAt : List Arg → Nat → Option Nat
  | [], _ => none
  | .io i :: _, 0 => some i
  | .v _ :: _, 0 => none
  | _ :: as, k + 1 => ioAt as k
def handA (as : List Arg) : Lb → Option Lb
  | (some i, j) => (posOf i 0 as).map fun k => (some k, j)
  | (none, _) => none
def backA (as : List Arg) : Lb → Option Lb
  | (some k, j) => (ioAt as k).map fun i => (some i, j)
  | (none, j) => some (none, j)
theorem posOf_none {i : Nat} : ∀ {k : Nat} {as : List Arg}, i ∉ ioOf as → posOf i k as = none
  | _, [], _ => rfl
  | k, .io j :: as, h => by
    have h1 : ¬ j = i := fun z => h (by simp [ioOf, z])
    have h2 : i ∉ ioOf as := fun z => h (by simp [ioOf, z])
    show (if j = i then some k else posOf i (k + 1) as) = none
    rw [if_neg h1]; exact posOf_none h2
  | k, .v x :: as, h => posOf_none (k := k + 1) (as := as) h
theorem ioAt_mem : ∀ {as : List Arg} {k i : Nat}, ioAt as k = some i → i ∈ ioOf as
  | [], _, _, h => by cases h
  | .io j :: _, 0, i, h => by cases h; simp [ioOf]
  | .v _ :: _, 0, i, h => by cases h
  | .io j :: as, k + 1, i, h => by simp only [ioOf, List.mem_cons]; exact .inr (ioAt_mem (as := as) (k := k) h)
  | .v x :: as, k + 1, i, h => ioAt_mem (as := as) (k := k) h
theorem posOf_at : ∀ {as : List Arg} {k n i : Nat}, (ioOf as).Nodup → ioAt as k = some i → posOf i n as = some (n + k)
  | [], _, _, _, _, h => by cases h
  | .io j :: as, 0, n, i, nd, h => by
    cases h
    show (if j = j then some n else _) = _
    rw [if_pos rfl]; rfl
  | .v _ :: _, 0, _, _, _, h => by cases h
  | .io j :: as, k + 1, n, i, nd, h => by
    have nd' := List.nodup_cons.mp nd
    have hm := ioAt_mem (as := as) (k := k) h
    have hj : ¬ j = i := fun z => nd'.1 (z ▸ hm)
    show (if j = i then some n else posOf i (n + 1) as) = _
    rw [if_neg hj, posOf_at nd'.2 h]
    congr 1; omega
  | .v x :: as, k + 1, n, i, nd, h => by
    show posOf i (n + 1) as = _
    rw [posOf_at (as := as) nd h]
    congr 1; omega
theorem handA_none {as : List Arg} {i j : Nat} (h : i ∉ ioOf as) : handA as (some i, j) = none := by
  show (posOf i 0 as).map _ = none
  rw [posOf_none h]; rfl
section
variable {Y : Cy} {W W' : Wd} {ρ : Env} {σ : L2.St} {H H' : Hp} {as : List Arg}
theorem args_in (r : Rel Y W ρ σ H) (Wc : Wd) (hg : Wc.G = W.G) : ∀ {bs : List Bool} {rs : List Arg} {os : List O} {vs : List V} {k : Nat}, fits bs rs = true → argsO ρ rs = some os → Paired (ArgR Y σ W) rs vs →
    (∀ n i, ioAt rs n = some i → ∀ p j, W.Ow p = some (some i, j) → Wc.Ow p = some (some (k + n), j)) → RepAs Y.K Y.ca Wc H k bs os vs
  | [], [], os, vs, k, _, h, q, _ => by
    cases q
    cases h
    trivial
  | [], _ :: _, _, _, _, h, _, _, _ => by cases h
  | _ :: _, [], _, _, _, h, _, _, _ => by cases h
  | b :: bs, .v x :: rs, os, vs, k, hf, h, q, hl => by
    cases q with
    | cons q1 q2 =>
      cases q1 with
      | v q1 =>
        have h' : (argsO ρ rs).map (O.f (F.d x) :: ·) = some os := h
        cases z : argsO ρ rs with
        | none => rw [z] at h'; cases h'
        | some os' =>
          rw [z] at h'; cases h'
          refine ⟨?_, args_in r Wc hg (bs := bs) hf z q2 fun n i e p j o => by rw [hl (n + 1) i e p j o]; congr 3; omega⟩
          cases b with
          | true =>
            show Rep Y.K Y.ca Wc.G x _
            rw [hg]; exact q1
          | false => exact ⟨x, rfl, by rw [hg]; exact q1⟩
  | b :: bs, .io i :: rs, os, vs, k, hf, h, q, hl => by
    have hf' : (b && fits bs rs) = true := hf
    rw [Bool.and_eq_true] at hf'
    obtain ⟨rfl, hf'⟩ := hf'
    cases q with
    | cons q1 q2 =>
      cases q1 with
      | io q1 =>
        have h' : (match ρ[i]? with | some (some o) => (argsO ρ rs).map (o :: ·) | _ => none) = some os := h
        cases y : ρ[i]? with
        | none => rw [y] at h'; cases h'
        | some oo =>
          cases oo with
          | none => rw [y] at h'; cases h'
          | some o =>
            rw [y] at h'
            cases z : argsO ρ rs with
            | none => simp [z] at h'
            | some os' =>
              simp [z] at h'
              subst h'
              obtain ⟨v, hv, ho⟩ := r.slot i o y
              rw [q1] at hv; cases hv
              refine ⟨?_, args_in r Wc hg (bs := bs) hf' z q2 fun n i e p j o => by rw [hl (n + 1) i e p j o]; congr 3; omega⟩
              show RepO Y.K Y.ca Wc H (some k) o _
              exact ho.mono (by rw [hg]; exact Same.refl _) fun p j e => ⟨by have := hl 0 i rfl p j e; simpa using this, rfl⟩
/-- the slots that were handed over have what came back; the others stand -/
theorem args_out (W2 : Wd) (ok : Wok W2 H') (hp : ∀ i v, (i, v) ∈ Y.pins → σ[i]? = some (some v)) : ∀ {bs : List Bool} {rs : List Arg} {ios : List O} {vs : List V} {k : Nat} {ρ : Env}, fits bs rs = true → (ioOf rs).Nodup → Paired (ArgR Y σ W) rs vs → RepIs Y.K Y.ca W' H' k bs ios vs →
    (∀ i v o n, ioAt rs n = some i → RepO Y.K Y.ca W' H' (some (k + n)) o v → RepO Y.K Y.ca W2 H' (some i) o v) →
    ρ.length = σ.length → (∀ i o, i ∉ ioOf rs → ρ[i]? = some (some o) → ∃ v, σ[i]? = some (some v) ∧ RepO Y.K Y.ca W2 H' (some i) o v) → Rel Y W2 (putAll bs rs ios ρ) σ H'
  | [], [], ios, vs, k, ρ, hf, nd, q, hi, hb, hl, hs => ⟨ok, hl, fun i o e => hs i o (by simp [ioOf]) e, hp⟩
  | _ :: _, [], _, _, _, _, hf, _, _, _, _, _, _ => by cases hf
  | [], _ :: _, _, _, _, _, hf, _, _, _, _, _, _ => by cases hf
  | b :: bs, .v x :: rs, ios, vs, k, ρ, hf, nd, q, hi, hb, hl, hs => by
    have hf' : fits bs rs = true := hf
    have hb' : ∀ i v o n, ioAt rs n = some i → RepO Y.K Y.ca W' H' (some (k + 1 + n)) o v → RepO Y.K Y.ca W2 H' (some i) o v := fun i v o n e r => hb i v o (n + 1) e (by rw [show k + (n + 1) = k + 1 + n by omega]; exact r)
    cases q with
    | cons q1 q2 =>
      cases b with
      | false => exact args_out W2 ok hp (bs := bs) (rs := rs) (ios := ios) hf' nd q2 hi hb' hl hs
      | true =>
        cases ios with
        | nil => cases hi
        | cons o ios => exact args_out W2 ok hp (bs := bs) (rs := rs) (ios := ios) hf' nd q2 hi.2 hb' hl hs
  | b :: bs, .io i :: rs, ios, vs, k, ρ, hf, nd, q, hi, hb, hl, hs => by
    have hf' : (b && fits bs rs) = true := hf
    rw [Bool.and_eq_true] at hf'
    obtain ⟨rfl, hf'⟩ := hf'
    have hb' : ∀ i v o n, ioAt rs n = some i → RepO Y.K Y.ca W' H' (some (k + 1 + n)) o v → RepO Y.K Y.ca W2 H' (some i) o v := fun i v o n e r => hb i v o (n + 1) e (by rw [show k + (n + 1) = k + 1 + n by omega]; exact r)
    have nd' := List.nodup_cons.mp (show (i :: ioOf rs).Nodup from nd)
    cases q with
    | cons q1 q2 =>
      cases q1 with
      | io q1 =>
        cases ios with
        | nil => cases hi
        | cons o ios =>
          refine args_out W2 ok hp (bs := bs) (rs := rs) (ios := ios) hf' nd'.2 q2 hi.2 hb' (by rw [List.length_set]; exact hl) fun j u hj e => ?_
          by_cases hji : j = i
          · subst hji
            have hl2 : j < ρ.length := by
              rw [hl]; exact (List.getElem?_eq_some_iff.mp q1).1
            rw [List.getElem?_set_self hl2] at e
            cases e
            exact ⟨_, q1, hb j _ o 0 rfl hi.1⟩
          · rw [List.getElem?_set_ne (Ne.symm hji)] at e
            exact hs j u (by simp [ioOf, hji, hj]) e
/-- a call: from what the evaluator says to the callee's promise -/
theorem call_ok {fn : Fn} {vs : List V} {Q : VK} (r : Rel Y W ρ σ H) (q : Paired (ArgR Y σ W) as vs) (h : Post Y W σ (RO Y) Q (callF fn as ρ)) : spD Y.K Y.ca fn vs H Q (WE Y.Wx σ) := by
  unfold callF at h
  by_cases c : (ioOf as).Nodup ∧ fits fn.io as = true
  · rw [if_pos c] at h
    cases z : argsO ρ as with
    | none => rw [z] at h; exact h.elim
    | some os =>
      rw [z] at h
      dsimp only at h
      have hin : RepAs Y.K Y.ca (wIn W H (handA as)) H 0 fn.io os vs := args_in r (wIn W H (handA as)) rfl c.2 z q fun n i e p j o => by
        show (W.Ow p).bind (handA as) = _
        rw [o]
        show (posOf i 0 as).map _ = _
        rw [posOf_at c.1 e]; rfl
      refine ⟨wIn W H (handA as), os, wIn_ok r.ok, hin, ?_⟩
      have back : ∀ W' H', Ext (wIn W H (handA as)) W' → Wok W' H' → ∀ ios, RepIs Y.K Y.ca W' H' 0 fn.io ios vs → Rel Y (wOut W W' (handA as) (backA as)) (putAll fn.io as ios ρ) σ H' := fun W' H' e ok' ios hi => by
        refine args_out _ (wOut_ok r.ok e ok') r.pin c.2 c.1 q hi (fun i v o n en ro => ?_) r.len fun i o hn eo => ?_
        · refine ro.mono (Same.refl _) fun p j ow => ⟨?_, rfl⟩
          rw [wOut_back r.ok e ok' ow]
          show (ioAt as (0 + n)).map _ = _
          rw [Nat.zero_add, en]; rfl
        · obtain ⟨v, hv, ho⟩ := r.slot i o eo
          exact ⟨v, hv, ho.mono e.g fun p j ow => wOut_kept r.ok e ok' ow (handA_none hn)⟩
      cases y : fn.run os with
      | none => rw [y] at h; exact h.elim
      | some rf =>
        rw [y] at h
        cases rf with
        | ret rr ios =>
          intro v' W' H' e ok' hi hr
          refine h v' _ H' (wOut_ext e) (back W' H' e ok' ios hi) ?_
          exact hr.mono (Same.refl _) fun p j ow => ⟨by rw [wOut_back r.ok e ok' ow]; rfl, rfl⟩
        | exc x ios =>
          intro cls d W' H' e ok' hi hx
          refine h cls d _ H' (wOut_ext e) (back W' H' e ok' ios hi) ?_
          exact hx
  · rw [if_neg c] at h; exact h.elim
end
end Vm

set_option Elab.async false
set_option linter.all false
set_option maxRecDepth 100000
set_option maxHeartbeats 4000000
set_option autoImplicit false
/-! Vm, part E: operators, by values. -/
namespace Vm
open PySem L2 PyProof.Rows

def BOp.op : BOp → Operator
  | .add => .Add
  | .sub => .Sub
  | .mul => .Mult
  | .fdiv => .FloorDiv
  | .mod => .Mod
  | .pow => .Pow
def COp.op : COp → CmpOp
  | .eq => .Eq
  | .ne => .NotEq
  | .lt => .Lt
  | .le => .LtE
  | .gt => .Gt
  | .ge => .GtE
  | .is_ => .Is
  | .isNot => .IsNot
  | .in_ => .In
  | .notIn => .NotIn
/-- what is wanted of a result, where it stands anew or as it stood -/
def NewQ (Y : Cy) (W : Wd) (ρ : Env) (σ : L2.St) (z : F) (Q : VK) : Prop := ∀ v W' H', Ext W W' → Rel Y W' ρ σ H' → RepF Y.K Y.ca W' H' (none, 0) z v → Q v H'
section
variable {Y : Cy} {W : Wd} {ρ : Env} {σ : L2.St} {H : Hp} {Q : VK}
theorem NewQ.flat {x : D} {v : V} (h : NewQ Y W ρ σ (.d x) Q) (r : Rel Y W ρ σ H) (q : Rep Y.K Y.ca W.G x v) : Q v H := h v W H (Ext.refl W) r q
theorem NewQ.lst {xs : List D} {vs : List V} (h : NewQ Y W ρ σ (.lst xs) Q) (r : Rel Y W ρ σ H) (q : RepL Y.K Y.ca W.G xs vs) : ∀ p, H p = none → Q (.ref p) (upd H p (.lst vs)) := fun p hp =>
  h (.ref p) (W.addO p (none, 0)) _ ext_addO (r.newO hp) ⟨p, vs, rfl, by show (if p = p then _ else _) = _; rw [if_pos rfl], upd_same, q⟩
theorem NewQ.tup {xs : List D} {vs : List V} (h : NewQ Y W ρ σ (.d (.tup xs)) Q) (r : Rel Y W ρ σ H) (q : RepL Y.K Y.ca W.G xs vs) : ∀ p, H p = none → Q (.ref p) (upd H p (.tup vs)) := fun p hp => by
  have e := ext_addG (ho := .tup vs) r.ok hp
  exact h (.ref p) _ _ e (r.newG hp) (.tup (SqT.of (by show upd W.G p (.tup vs) p = _; exact upd_same)) (q.mono e.g))
end
def rBop (Y : Cy) (op : BOp) : R2 := fun x y H Q => ∃ W ρ σ a b z, Rel Y W ρ σ H ∧ Rep Y.K Y.ca W.G a x ∧ Rep Y.K Y.ca W.G b y ∧ op.ap a b = some z ∧ NewQ Y W ρ σ z Q
theorem mulOk_of {i j : Int} (h : mulOk i j = true) : CMul i j ∨ CMulX i j := by
  unfold mulOk at h
  simp only [Bool.or_eq_true, Bool.and_eq_true, decide_eq_true_eq] at h
  rcases h with (h | h) | h
  · exact .inl (.inl h)
  · exact .inl (.inr h)
  · exact .inr h
theorem Rep.lstD {K : PySem.W.Frag} {ca : Str → Addr} {G : Hp} {xs : List D} {v : V} (r : Rep K ca G (.lst xs) v) : ∃ p vs, v = .ref p ∧ Rd G p (.lst vs) ∧ RepL K ca G xs vs := by
  cases r with
  | lst a b => exact ⟨_, _, rfl, a, b⟩
theorem Rep.tupD {K : PySem.W.Frag} {ca : Str → Addr} {G : Hp} {xs : List D} {v : V} (r : Rep K ca G (.tup xs) v) : ∃ p vs, v = .ref p ∧ SqT K G p vs ∧ RepL K ca G xs vs := by
  cases r with
  | tup a b => exact ⟨_, _, rfl, a, b⟩
section
variable {X : Cx} {Y : Cy} {pins : List (Addr × Obj)} {σ : L2.St} {H : Hp} {s : Shared} {l : Addr} {xs : List V}
theorem rd_lst (I : L2.Inv X pins σ H s) (h : Rd H l (.lst xs)) : xs.length ≤ sizeLine ∧ ∃ (its : List Value) (n : Nat), Vals xs its ∧ xs.length = its.length ∧ s.heap.get? l = some { cls := .type "list", data := .seq its.toArray n } := by
  obtain ⟨z, its, n, r, e⟩ := h.ok I.hok
  exact ⟨z, its, n, r, r.length, e⟩
/-- + of two lists, wherever they stand -/
theorem op_catR : OpR X (binaryOp .Add) (fun x y H Q => ∃ a b xs ys, x = .ref a ∧ y = .ref b ∧ Rd H a (.lst xs) ∧ Rd H b (.lst ys) ∧ xs.length + ys.length ≤ sizeLine ∧ ∀ p, H p = none → Q (.ref p) (upd H p (.lst (xs ++ ys)))) := by
  intro pins s σ H x y v u Q I rx ry h
  obtain ⟨l, b, xs, zs, rfl, rfl, hH, hB, hz, q⟩ := h
  cases rx
  cases ry
  obtain ⟨z, its, n, r, hl, e⟩ := rd_lst I hH
  obtain ⟨z2, its2, n2, r2, hl2, e2⟩ := rd_lst I hB
  refine PySem.P.add_list e e2 ?_ (by rw [List.size_toArray, List.size_toArray]; omega)
  have ea : its.toArray ++ its2.toArray = (its ++ its2).toArray := by simp
  rw [ea]
  exact ⟨.ref _, _, I.lnew (t' := s.toks) (r.append r2) (by rw [List.length_append]; omega), rfl, q _ I.fresh⟩
/-- a list times an int, wherever it stands -/
theorem op_repR : OpR X (binaryOp .Mult) (fun x y H Q => ∃ a k xs, x = .ref a ∧ y = .int k ∧ Rd H a (.lst xs) ∧ -(2 ^ 63) ≤ k ∧ k < 2 ^ 63 ∧ xs.length * k.toNat ≤ sizeLine ∧ ∀ p, H p = none → Q (.ref p) (upd H p (.lst (List.replicate k.toNat xs).flatten))) := by
  intro pins s σ H x y v u Q I rx ry h
  obtain ⟨a, k, xs, rfl, rfl, hH, lo, hi, hz, q⟩ := h
  cases rx
  obtain ⟨tk, rfl⟩ := ry
  obtain ⟨_, its, n, rv, hl, e⟩ := rd_lst I hH
  have small : its.toArray.size * k.toNat ≤ sizeLine := by rw [List.size_toArray, ← hl]; exact hz
  have big : (sizeLine : Nat) ≤ (2 ^ 63 - 1) / 8 := by decide
  have fit : ¬ (!Builtin.List.listFitsIndex k) = true := by rw [fitsIndex_both lo hi]; decide
  have long : ¬ Builtin.List.listTooLong (its.toArray.size * k.toNat) = true := by rw [notLongL small]; decide
  have fold : ∀ m : Nat, List.foldl (fun p q => p ++ q) #[] (List.replicate m its.toArray) = (List.replicate m its).flatten.toArray := fun m => by
    simpa using foldl_rep its m []
  have made : List.foldl (fun p q => p ++ q) #[] (List.replicate (if its.toArray.isEmpty = true then 0 else k.toNat) its.toArray) = (List.replicate k.toNat its).flatten.toArray := by
    rw [fold]
    cases its with
    | nil => simp
    | cons _ _ => simp
  have mul := AutoListH.list___mul___list_int_3 a its.toArray n k tk fit (by omega) long
  have ty : s.TypeIs (.ref a) "list" := ⟨_, e, rfl⟩
  refine wpAny_binaryOp_repeat_ref (T := "list") (U := "int") (by decide) ty (fun s' => typeIs_int s' k tk) noFill_list_mul F.fills_int_mul F.slot_int_rmul repeat_list F.slot_int_index.lookup ?_
  refine call_meets F.slot_int_rmul (typeIs_int s k tk) F.entry_int_rmul (F.args_int_rmul_2 _ _) (int___rmul___int_list k tk a its.toArray n) ⟨e, rfl, ty, ?_⟩
  refine call_meets F.slot_list_mul ty F.entry_list_mul (F.args_list_mul_2 _ _) mul ⟨e, ?_⟩
  rw [made]
  exact ⟨.ref _, _, I.lnew (t' := s.toks) (rv.rep k.toNat) (by rw [PyProof.Rows.lm_len_rep_flat, Nat.mul_comm]; exact hz), rfl, q _ I.fresh⟩
theorem bop_ok (hK : X.K = Y.K) (op : BOp) : OpR X (binaryOp op.op) (rBop Y op) := by
  intro pins s σ H x y v u Q I rx ry h
  obtain ⟨W, ρ, σ', a, b, z, r, ra, rb, e, nq⟩ := h
  have g := r.ok.g
  cases op with
  | add =>
    cases a with
    | int i =>
      cases b with
      | int j =>
        cases e; cases ra; cases rb
        exact op_add pins s σ H _ _ v u Q I rx ry ⟨i, j, rfl, rfl, nq.flat r (.int _)⟩
      | bl k =>
        cases e; cases ra; cases rb
        exact op_add_ib pins s σ H _ _ v u Q I rx ry ⟨i, k, rfl, rfl, nq.flat r (.int _)⟩
      | _ => cases e
    | str i =>
      cases b with
      | str j =>
        simp only [BOp.ap] at e
        split at e
        · rename_i hz
          cases e; cases ra; cases rb
          exact op_add_str pins s σ H _ _ v u Q I rx ry ⟨i, j, rfl, rfl, hz, nq.flat r (.str _)⟩
        · cases e
      | _ => cases e
    | tup xs =>
      cases b with
      | tup ys =>
        simp only [BOp.ap] at e
        split at e
        · rename_i hz
          obtain ⟨h1, h2⟩ := hz
          obtain ⟨pa, va, rfl, sa, la⟩ := ra.tupD
          obtain ⟨pb, vb, rfl, sb, lb⟩ := rb.tupD
          cases e
          refine op_catT pins s σ H _ _ v u Q I rx ry ⟨pa, pb, va, vb, rfl, rfl, by rw [hK]; exact sqT_mono g sa, by rw [hK]; exact sqT_mono g sb, ?_, ?_, ?_, ?_⟩
          · rintro rfl
            cases la
            simp at h1
          · rw [← la.length, ← lb.length]; exact h2
          · intro z
            subst z
            cases lb
            refine nq.flat r ?_
            rw [List.append_nil]
            exact .tup sa la
          · intro _
            exact nq.tup r (la.append lb)
        · cases e
      | _ => cases e
    | lst xs =>
      cases b with
      | lst ys =>
        simp only [BOp.ap] at e
        split at e
        · rename_i hz
          obtain ⟨pa, va, rfl, sa, la⟩ := ra.lstD
          obtain ⟨pb, vb, rfl, sb, lb⟩ := rb.lstD
          cases e
          exact op_catR pins s σ H _ _ v u Q I rx ry ⟨pa, pb, va, vb, rfl, rfl, rd_mono g sa, rd_mono g sb, by rw [← la.length, ← lb.length]; exact hz, nq.lst r (la.append lb)⟩
        · cases e
      | _ => cases e
    | _ => cases e
  | sub =>
    cases a with
    | int i =>
      cases b with
      | int j =>
        cases e; cases ra; cases rb
        exact op_sub pins s σ H _ _ v u Q I rx ry ⟨i, j, rfl, rfl, nq.flat r (.int _)⟩
      | _ => cases e
    | _ => cases e
  | mul =>
    cases a with
    | int i =>
      cases b with
      | int j =>
        simp only [BOp.ap] at e
        split at e
        · rename_i hz
          cases e; cases ra; cases rb
          rcases mulOk_of hz with c | c
          · exact op_mul pins s σ H _ _ v u Q I rx ry ⟨i, j, rfl, rfl, c, nq.flat r (.int _)⟩
          · exact op_mulX pins s σ H _ _ v u Q I rx ry ⟨i, j, rfl, rfl, c, nq.flat r (.int _)⟩
        · cases e
      | _ => cases e
    | lst xs =>
      cases b with
      | int k =>
        simp only [BOp.ap] at e
        split at e
        · rename_i hz
          obtain ⟨h1, h2, h3⟩ := hz
          obtain ⟨pa, va, rfl, sa, la⟩ := ra.lstD
          cases e; cases rb
          exact op_repR pins s σ H _ _ v u Q I rx ry ⟨pa, k, va, rfl, rfl, rd_mono g sa, h1, h2, by rw [← la.length]; exact h3, nq.lst r (la.rep _)⟩
        · cases e
      | _ => cases e
    | _ => cases e
  | fdiv =>
    cases a with
    | int i =>
      cases b with
      | int j =>
        simp only [BOp.ap] at e
        split at e
        · rename_i hz
          cases e; cases ra; cases rb
          simp only [divOk, Bool.and_eq_true, decide_eq_true_eq] at hz
          exact op_fdivW pins s σ H _ _ v u Q I rx ry ⟨i, j, rfl, rfl, hz, nq.flat r (.int _)⟩
        · cases e
      | _ => cases e
    | _ => cases e
  | mod =>
    cases a with
    | int i =>
      cases b with
      | int j =>
        simp only [BOp.ap] at e
        split at e
        · rename_i hz
          cases e; cases ra; cases rb
          exact op_mod pins s σ H _ _ v u Q I rx ry ⟨i, j, rfl, rfl, hz, nq.flat r (.int _)⟩
        · cases e
      | _ => cases e
    | _ => cases e
  | pow =>
    cases a with
    | int i =>
      cases b with
      | int j =>
        simp only [BOp.ap] at e
        split at e
        · rename_i hz
          cases e; cases ra; cases rb
          simp only [powOk, Bool.and_eq_true, decide_eq_true_eq] at hz
          exact op_pow pins s σ H _ _ v u Q I rx ry ⟨i, j, rfl, rfl, ⟨hz.1.1, hz.1.2, hz.2⟩, nq.flat r (.int _)⟩
        · cases e
      | _ => cases e
    | _ => cases e

/-! ### comparisons -/
def rCop (Y : Cy) (op : COp) : R2 := fun x y H Q => ∃ a b k, Rep Y.K Y.ca H a x ∧ Rep Y.K Y.ca H b y ∧ op.ap a b = some k ∧ Q (.bl k) H
theorem eq_dp {a b : D} {k : Bool} {H : Hp} {x y : V} (ra : Rep Y.K Y.ca H a x) (rb : Rep Y.K Y.ca H b y) (e : a.eq? b = some k) : ∃ d d', Dp Y.K H x d ∧ Dp Y.K H y d' ∧ SeqAt.shaped d = true ∧ SeqAt.shaped d' = true ∧ PyData.eqv d d' = k := by
  unfold D.eq? at e
  cases p : a.py with
  | none => simp [p] at e
  | some d =>
    cases q : b.py with
    | none => simp [p, q] at e
    | some d' =>
      simp [p, q] at e
      exact ⟨d, d', ra.dp p, rb.dp q, e.1.1, e.1.2, e.2⟩
theorem in_rep {x : D} {xs : List D} {k : Bool} {H : Hp} {v : V} {vs : List V} (r : Rep Y.K Y.ca H x v) (l : RepL Y.K Y.ca H xs vs) (e : x.inSeq? xs = some k) : flatV v = true ∧ vs.all flatV = true ∧ inV v vs = k := by
  unfold D.inSeq? at e
  split at e
  · rename_i h
    cases e
    exact ⟨r.flat h.1, l.flat h.2, RepL.inV r h.1 l h.2⟩
  · cases e
theorem cop_ok (hK : X.K = Y.K) (hu : X.A.units + 64 < cLine) (op : COp) : OpR X (compareOp op.op) (rCop Y op) := by
  intro pins s σ H x y v u Q I rx ry h
  obtain ⟨a, b, k, ra, rb, e, q⟩ := h
  cases op with
  | eq =>
    obtain ⟨d, d', p1, p2, s1, s2, e⟩ := eq_dp ra rb e
    exact op_eqD hu pins s σ H x y v u Q I rx ry ⟨d, d', by rw [hK]; exact p1, by rw [hK]; exact p2, s1, s2, by rw [e]; exact q⟩
  | ne =>
    have e' : (a.eq? b).map not = some k := e
    cases z : a.eq? b with
    | none => rw [z] at e'; cases e'
    | some k' =>
      rw [z] at e'
      cases e'
      obtain ⟨d, d', p1, p2, s1, s2, e⟩ := eq_dp ra rb z
      exact op_neD hu pins s σ H x y v u Q I rx ry ⟨d, d', by rw [hK]; exact p1, by rw [hK]; exact p2, s1, s2, by rw [e]; exact q⟩
  | lt =>
    cases a <;> first | (cases e; done) | (cases b <;> first | (cases e; done) | (cases e; cases ra; cases rb; exact op_lt pins s σ H _ _ v u Q I rx ry ⟨_, _, rfl, rfl, q⟩))
  | le =>
    cases a <;> first | (cases e; done) | (cases b <;> first | (cases e; done) | (cases e; cases ra; cases rb; exact op_le pins s σ H _ _ v u Q I rx ry ⟨_, _, rfl, rfl, q⟩))
  | gt =>
    cases a <;> first | (cases e; done) | (cases b <;> first | (cases e; done) | (cases e; cases ra; cases rb; exact op_gt pins s σ H _ _ v u Q I rx ry ⟨_, _, rfl, rfl, q⟩))
  | ge =>
    cases a <;> first | (cases e; done) | (cases b <;> first | (cases e; done) | (cases e; cases ra; cases rb; exact op_ge pins s σ H _ _ v u Q I rx ry ⟨_, _, rfl, rfl, q⟩))
  | is_ =>
    cases b with
    | non =>
      cases rb
      refine op_isN pins s σ H x .non v u Q I rx ry ⟨rfl, ?_⟩
      cases a <;> (cases e; cases ra; exact q)
    | bl j =>
      cases a <;> first | (cases e; done) | (cases e; cases ra; cases rb; exact op_isBl pins s σ H _ _ v u Q I rx ry ⟨_, _, rfl, rfl, q⟩)
    | _ => cases a <;> cases e
  | isNot =>
    cases b with
    | non =>
      cases rb
      refine op_notN pins s σ H x .non v u Q I rx ry ⟨rfl, ?_⟩
      cases a <;> (cases e; cases ra; exact q)
    | bl j =>
      cases a <;> first | (cases e; done) | (cases e; cases ra; cases rb; exact op_notBl pins s σ H _ _ v u Q I rx ry ⟨_, _, rfl, rfl, q⟩)
    | _ => cases a <;> cases e
  | in_ =>
    cases b with
    | lst xs =>
      have e' : a.inSeq? xs = some k := by cases a <;> exact e
      obtain ⟨p, vs, rfl, sa, la⟩ := rb.lstD
      obtain ⟨h1, h2, h3⟩ := in_rep ra la e'
      exact op_in_seq pins s σ H x _ v u Q I rx ry ⟨p, vs, rfl, .inl (.inl sa), h1, h2, by rw [h3]; exact q⟩
    | tup xs =>
      have e' : a.inSeq? xs = some k := by cases a <;> exact e
      obtain ⟨p, vs, rfl, sa, la⟩ := rb.tupD
      obtain ⟨h1, h2, h3⟩ := in_rep ra la e'
      exact op_in_seq pins s σ H x _ v u Q I rx ry ⟨p, vs, rfl, .inr (by rw [hK]; exact sa), h1, h2, by rw [h3]; exact q⟩
    | str y =>
      cases a <;> first | (cases e; done) | (cases e; cases ra; cases rb; exact op_in_str pins s σ H _ _ v u Q I rx ry ⟨_, _, rfl, rfl, q⟩)
    | _ => cases a <;> cases e
  | notIn =>
    cases b with
    | lst xs =>
      have e' : (a.inSeq? xs).map not = some k := by cases a <;> exact e
      cases z : a.inSeq? xs with
      | none => rw [z] at e'; cases e'
      | some k' =>
        rw [z] at e'
        cases e'
        obtain ⟨p, vs, rfl, sa, la⟩ := rb.lstD
        obtain ⟨h1, h2, h3⟩ := in_rep ra la z
        exact op_notIn_seq pins s σ H x _ v u Q I rx ry ⟨p, vs, rfl, .inl (.inl sa), h1, h2, by rw [h3]; exact q⟩
    | tup xs =>
      have e' : (a.inSeq? xs).map not = some k := by cases a <;> exact e
      cases z : a.inSeq? xs with
      | none => rw [z] at e'; cases e'
      | some k' =>
        rw [z] at e'
        cases e'
        obtain ⟨p, vs, rfl, sa, la⟩ := rb.tupD
        obtain ⟨h1, h2, h3⟩ := in_rep ra la z
        exact op_notIn_seq pins s σ H x _ v u Q I rx ry ⟨p, vs, rfl, .inr (by rw [hK]; exact sa), h1, h2, by rw [h3]; exact q⟩
    | str y =>
      cases a <;> first | (cases e; done) | (cases e; cases ra; cases rb; exact op_notIn_str pins s σ H _ _ v u Q I rx ry ⟨_, _, rfl, rfl, q⟩)
    | _ => cases a <;> cases e

/-! ### operands that are looked at -/
def RepN (Y : Cy) (W : Wd) (H : Hp) (d : D) (v : V) : Prop := ∃ o, o.fz = d ∧ RepP Y W H o v
theorem RepN.of {W : Wd} {H : Hp} {d : D} {v : V} (r : Rep Y.K Y.ca W.G d v) : RepN Y W H d v := ⟨.f (.d d), rfl, .inl ⟨none, r⟩⟩
theorem RepN.now {W : Wd} {H : Hp} {d : D} {v : V} (ok : Wok W H) (r : RepN Y W H d v) : Rep Y.K Y.ca H d v := by
  obtain ⟨o, rfl, r⟩ := r
  exact RepP.now ok r
theorem RepF.lstN {W : Wd} {H : Hp} {l : Lb} {x : F} {xs : List D} {v : V} (ok : Wok W H) (r : RepF Y.K Y.ca W H l x v) (e : x.fz = .lst xs) : ∃ p vs, v = .ref p ∧ Rd H p (.lst vs) ∧ RepL Y.K Y.ca W.G xs vs := by
  cases x with
  | d x =>
    have e' : x = .lst xs := e
    subst e'
    obtain ⟨p, vs, e1, e2, e3⟩ := Rep.lstD r
    exact ⟨p, vs, e1, rd_mono ok.g e2, e3⟩
  | lst ys =>
    have e' : D.lst ys = .lst xs := e
    cases e'
    obtain ⟨p, vs, e1, _, e2, e3⟩ := r
    exact ⟨p, vs, e1, .inl e2, e3⟩
  | dct ys => cases e
theorem RepF.tupN {W : Wd} {H : Hp} {l : Lb} {x : F} {xs : List D} {v : V} (r : RepF Y.K Y.ca W H l x v) (e : x.fz = .tup xs) : ∃ p vs, v = .ref p ∧ SqT Y.K W.G p vs ∧ RepL Y.K Y.ca W.G xs vs := by
  cases x with
  | d x =>
    have e' : x = .tup xs := e
    subst e'
    exact Rep.tupD r
  | lst ys => cases e
  | dct ys => cases e
theorem RepN.lst {W : Wd} {H : Hp} {xs : List D} {v : V} (ok : Wok W H) (r : RepN Y W H (.lst xs) v) : ∃ p vs, v = .ref p ∧ Rd H p (.lst vs) ∧ RepL Y.K Y.ca W.G xs vs := by
  obtain ⟨o, e, ⟨a, r⟩ | ⟨l, y, rfl, r⟩⟩ := r
  · cases o with
    | ins C fs => cases e
    | f x => exact RepF.lstN ok r e
  · exact RepF.lstN ok r e
theorem RepN.tup {W : Wd} {H : Hp} {xs : List D} {v : V} (r : RepN Y W H (.tup xs) v) : ∃ p vs, v = .ref p ∧ SqT Y.K W.G p vs ∧ RepL Y.K Y.ca W.G xs vs := by
  obtain ⟨o, e, ⟨a, r⟩ | ⟨l, y, rfl, r⟩⟩ := r
  · cases o with
    | ins C fs => cases e
    | f x => exact RepF.tupN r e
  · exact RepF.tupN r e
theorem RepN.str {W : Wd} {H : Hp} {z : Str} {v : V} (ok : Wok W H) (r : RepN Y W H (.str z) v) : v = .str z := by
  have := r.now ok
  cases this; rfl
theorem RepN.int {W : Wd} {H : Hp} {z : Int} {v : V} (ok : Wok W H) (r : RepN Y W H (.int z) v) : v = .int z := by
  have := r.now ok
  cases this; rfl
theorem RepN.bl {W : Wd} {H : Hp} {z : Bool} {v : V} (ok : Wok W H) (r : RepN Y W H (.bl z) v) : v = .bl z := by
  have := r.now ok
  cases this; rfl
theorem RepN.ro {W : Wd} {H : Hp} {xs : List D} {v : V} (r : RepN Y W H (.ro xs) v) : ∃ p vs, v = .ref p ∧ SqL Y.K W.G p vs ∧ RepL Y.K Y.ca W.G xs vs := by
  have key : ∀ {l : Lb} {x : F}, RepF Y.K Y.ca W H l x v → x.fz = .ro xs → ∃ p vs, v = .ref p ∧ SqL Y.K W.G p vs ∧ RepL Y.K Y.ca W.G xs vs := by
    intro l x r e
    cases x with
    | d x =>
      have e' : x = .ro xs := e
      subst e'
      cases r with
      | ro a b => exact ⟨_, _, rfl, a, b⟩
    | lst ys => cases e
    | dct ys => cases e
  obtain ⟨o, e, ⟨a, r⟩ | ⟨l, y, rfl, r⟩⟩ := r
  · cases o with
    | ins C fs => cases e
    | f x => exact key r e
  · exact key r e
theorem tru_rep {W : Wd} {H : Hp} {d : D} {v : V} {k : Bool} (ok : Wok W H) (r : RepN Y W H d v) (e : d.truth = some k) : TruV Y.K v H k := by
  have n := r.now ok
  cases n with
  | non => cases e; rfl
  | bl b => cases e; rfl
  | int i => cases e; rfl
  | str x =>
    have e' : (if x.length ≤ sizeLine then some ((x.length : Int) != 0) else none) = some k := e
    split at e'
    · rename_i h
      cases e'
      exact ⟨h, rfl⟩
    · cases e'
  | tup a b => cases e; exact .inr (.inl ⟨_, a, by rw [b.isEmpty]⟩)
  | lst a b => cases e; exact .inl ⟨_, .inl a, by rw [b.isEmpty]⟩
  | dct a b => cases e
  | ins a b => cases e
  | ro a b => cases e

/-! ### items, slices -/
def rAt (Y : Cy) : R2 := fun x y H Q => ∃ W d e z, Wok W H ∧ RepN Y W H d x ∧ Rep Y.K Y.ca W.G e y ∧ d.at? e = some z ∧ ∀ v, Rep Y.K Y.ca W.G z v → Q v H
theorem at_ok (hK : X.K = Y.K) : IxR X (rAt Y) := by
  intro value slice pins s σ H x y v u Q I rx ry h hs
  obtain ⟨W, d, e, z, ok, rd, re, ez, q⟩ := h
  refine ix_seq value slice pins s σ H x y v u Q I rx ry ?_ hs
  cases d with
  | lst xs =>
    cases e with
    | int i =>
      obtain ⟨p, vs, rfl, sa, la⟩ := rd.lst ok
      obtain ⟨w, e1, e2⟩ := atI_rep la ez
      cases re
      exact .inl ⟨p, vs, i, w, rfl, rfl, .inl sa, e1, q w e2⟩
    | _ => cases ez
  | ro xs =>
    cases e with
    | int i =>
      obtain ⟨p, vs, rfl, sa, la⟩ := rd.ro
      obtain ⟨w, e1, e2⟩ := atI_rep la ez
      cases re
      exact .inl ⟨p, vs, i, w, rfl, rfl, by rw [hK]; exact sqL_mono ok.g sa, e1, q w e2⟩
    | _ => cases ez
  | tup xs =>
    cases e with
    | int i =>
      obtain ⟨p, vs, rfl, sa, la⟩ := rd.tup
      obtain ⟨w, e1, e2⟩ := atI_rep la ez
      cases re
      exact .inr (.inl ⟨p, vs, i, w, rfl, rfl, by rw [hK]; exact sqT_mono ok.g sa, e1, q w e2⟩)
    | _ => cases ez
  | str y =>
    cases e with
    | int i =>
      have hv := rd.str ok
      subst hv
      cases re
      have ez' : (if y.length ≤ sizeLine then (atI y.cps.toList i).map fun c => D.str ⟨#[c]⟩ else none) = some z := ez
      split at ez'
      · rename_i hz
        cases w : atI y.cps.toList i with
        | none => rw [w] at ez'; cases ez'
        | some c =>
          rw [w] at ez'
          cases ez'
          exact .inr (.inr ⟨y, i, c, rfl, rfl, hz, w, q _ (.str _)⟩)
      · cases ez'
    | _ => cases ez
  | _ => cases ez
def rCut (Y : Cy) : V → Option Int → Option Int → Hp → VK → Prop := fun x lo hi H Q => ∃ W ρ σ d z, Rel Y W ρ σ H ∧ RepN Y W H d x ∧ d.cut? lo hi = some z ∧ NewQ Y W ρ σ z Q
theorem cut_ok (hK : X.K = Y.K) : SlR X (rCut Y) := by
  intro pins s σ H x v vl vu lo hi sl Q I rx hs pl pu h
  obtain ⟨W, ρ, σ', d, z, r, rd, ez, nq⟩ := h
  refine (sl_list.or sl_tup) pins s σ H x v vl vu lo hi sl Q I rx hs pl pu ?_
  cases d with
  | lst xs =>
    obtain ⟨p, vs, rfl, sa, la⟩ := rd.lst r.ok
    cases ez
    exact .inl ⟨p, vs, rfl, .inl sa, nq.lst r (cutD_rep lo hi la)⟩
  | tup xs =>
    obtain ⟨p, vs, rfl, sa, la⟩ := rd.tup
    have ez' : (if HT.sIx xs.length 0 lo = 0 ∧ HT.sIx xs.length xs.length hi = xs.length then none else some (F.d (.tup (cutD xs lo hi)))) = some z := ez
    split at ez'
    · cases ez'
    · rename_i hn
      cases ez'
      refine .inr ⟨p, vs, rfl, by rw [hK]; exact sqT_mono r.ok.g sa, by rw [← la.length]; exact hn, nq.tup r (cutD_rep lo hi la)⟩
  | _ => cases ez

/-! ### built-ins -/
def Blt.name : Blt → Str
  | .len => "len"
  | .int_ => "int"
  | .abs_ => "abs"
  | .min2 => "min"
  | .max2 => "max"
  | .tuple_ => "tuple"
  | .list_ => "list"
  | .sum_ => "sum"
  | .all_ => "all"
  | .any_ => "any"
  | .sorted_ => "sorted"
def Blt.val : Blt → Value
  | .len => .builtin "len"
  | .int_ => .type "int"
  | .abs_ => .builtin "abs"
  | .min2 => .builtin "min"
  | .max2 => .builtin "max"
  | .tuple_ => .type "tuple"
  | .list_ => .type "list"
  | .sum_ => .builtin "sum"
  | .all_ => .builtin "all"
  | .any_ => .builtin "any"
  | .sorted_ => .builtin "sorted"
inductive RepNs (Y : Cy) (W : Wd) (H : Hp) : List D → List V → Prop
  | nil : RepNs Y W H [] []
  | cons {d : D} {v : V} {ds : List D} {vs : List V} : RepN Y W H d v → RepNs Y W H ds vs → RepNs Y W H (d :: ds) (v :: vs)
theorem RepNs.of {W : Wd} {H : Hp} : ∀ {ds : List D} {vs : List V}, RepL Y.K Y.ca W.G ds vs → RepNs Y W H ds vs
  | _, _, .nil => .nil
  | _, _, .cons a b => .cons (.of a) (RepNs.of b)
theorem RepNs.one {W : Wd} {H : Hp} {d : D} {vs : List V} (h : RepNs Y W H [d] vs) : ∃ v, vs = [v] ∧ RepN Y W H d v := by
  cases h with
  | cons a b => cases b; exact ⟨_, rfl, a⟩
theorem RepNs.two {W : Wd} {H : Hp} {d e : D} {vs : List V} (h : RepNs Y W H [d, e] vs) : ∃ v u, vs = [v, u] ∧ RepN Y W H d v ∧ RepN Y W H e u := by
  cases h with
  | cons a b =>
    obtain ⟨u, rfl, b1⟩ := b.one
    exact ⟨_, _, rfl, a, b1⟩
def rBlt (Y : Cy) (b : Blt) : List V → Hp → VK → Prop := fun xs H Q => ∃ W ρ σ ds z, Rel Y W ρ σ H ∧ RepNs Y W H ds xs ∧ b.ap ds = some z ∧ NewQ Y W ρ σ z Q
theorem blt_ok (hK : X.K = Y.K) (hc : X.calm = true) (b : Blt) : CallR X b.val (rBlt Y b) := by
  intro pins s σ H xs us Q I rv h
  obtain ⟨W, ρ, σ', ds, z, r, rd, ez, nq⟩ := h
  have ok := r.ok
  cases b with
  | len =>
    match ds, ez with
    | [.lst ys], ez =>
      obtain ⟨v, rfl, rd1⟩ := rd.one
      obtain ⟨p, vs, rfl, sa, la⟩ := rd1.lst ok
      cases ez
      exact call_len pins s σ H _ us Q I rv ⟨_, vs.length, rfl, .inl ⟨vs, .inl sa, rfl⟩, by rw [← la.length]; exact nq.flat r (.int _)⟩
    | [.ro ys], ez =>
      obtain ⟨v, rfl, rd1⟩ := rd.one
      obtain ⟨p, vs, rfl, sa, la⟩ := rd1.ro
      cases ez
      exact call_len pins s σ H _ us Q I rv ⟨_, vs.length, rfl, .inl ⟨vs, by rw [hK]; exact sqL_mono ok.g sa, rfl⟩, by rw [← la.length]; exact nq.flat r (.int _)⟩
    | [.tup ys], ez =>
      obtain ⟨v, rfl, rd1⟩ := rd.one
      obtain ⟨p, vs, rfl, sa, la⟩ := rd1.tup
      cases ez
      exact call_len pins s σ H _ us Q I rv ⟨_, vs.length, rfl, .inr ⟨vs, by rw [hK]; exact sqT_mono ok.g sa, rfl⟩, by rw [← la.length]; exact nq.flat r (.int _)⟩
    | [.str y], ez =>
      obtain ⟨v, rfl, rd1⟩ := rd.one
      have hv := rd1.str ok
      subst hv
      have ez' : (if y.length ≤ sizeLine then some (F.d (.int y.length)) else none) = some z := ez
      split at ez'
      · rename_i hz
        cases ez'
        exact call_len pins s σ H _ us Q I rv ⟨_, y.length, rfl, ⟨hz, rfl⟩, nq.flat r (.int _)⟩
      · cases ez'
  | int_ =>
    match ds, ez with
    | [.int i], ez =>
      obtain ⟨v, rfl, rd1⟩ := rd.one
      have hv := rd1.int ok
      subst hv
      cases ez
      exact call_int1 pins s σ H _ us Q I rv (.inl ⟨i, rfl, nq.flat r (.int _)⟩)
    | [.bl i], ez =>
      obtain ⟨v, rfl, rd1⟩ := rd.one
      have hv := rd1.bl ok
      subst hv
      cases ez
      exact call_int1 pins s σ H _ us Q I rv (.inr ⟨i, rfl, nq.flat r (.int _)⟩)
  | abs_ =>
    match ds, ez with
    | [.int i], ez =>
      obtain ⟨v, rfl, rd1⟩ := rd.one
      have hv := rd1.int ok
      subst hv
      cases ez
      exact call_abs pins s σ H _ us Q I rv ⟨i, rfl, nq.flat r (.int _)⟩
  | min2 =>
    match ds, ez with
    | [.int i, .int j], ez =>
      obtain ⟨v, u, rfl, rd1, re⟩ := rd.two
      have hv := rd1.int ok
      subst hv
      have hu := re.int ok
      subst hu
      cases ez
      exact call_min2 hc pins s σ H _ us Q I rv ⟨i, j, rfl, nq.flat r (.int _)⟩
  | max2 =>
    match ds, ez with
    | [.int i, .int j], ez =>
      obtain ⟨v, u, rfl, rd1, re⟩ := rd.two
      have hv := rd1.int ok
      subst hv
      have hu := re.int ok
      subst hu
      cases ez
      exact call_max2 hc pins s σ H _ us Q I rv ⟨i, j, rfl, nq.flat r (.int _)⟩
  | tuple_ =>
    match ds, ez with
    | [.lst ys], ez =>
      obtain ⟨v, rfl, rd1⟩ := rd.one
      obtain ⟨p, vs, rfl, sa, la⟩ := rd1.lst ok
      cases ez
      exact call_tuple_of pins s σ H _ us Q I rv ⟨p, vs, rfl, .inl ⟨.inl sa, nq.tup r la⟩⟩
    | [.tup ys], ez =>
      obtain ⟨v, rfl, rd1⟩ := rd.one
      obtain ⟨p, vs, rfl, sa, la⟩ := rd1.tup
      cases ez
      exact call_tuple_of pins s σ H _ us Q I rv ⟨p, vs, rfl, .inr ⟨by rw [hK]; exact sqT_mono ok.g sa, nq.flat r (.tup sa la)⟩⟩
  | list_ =>
    match ds, ez with
    | [.lst ys], ez =>
      obtain ⟨v, rfl, rd1⟩ := rd.one
      obtain ⟨p, vs, rfl, sa, la⟩ := rd1.lst ok
      cases ez
      exact call_list_of pins s σ H _ us Q I rv ⟨p, vs, rfl, .inl (.inl sa), nq.lst r la⟩
    | [.tup ys], ez =>
      obtain ⟨v, rfl, rd1⟩ := rd.one
      obtain ⟨p, vs, rfl, sa, la⟩ := rd1.tup
      cases ez
      exact call_list_of pins s σ H _ us Q I rv ⟨p, vs, rfl, .inr (by rw [hK]; exact sqT_mono ok.g sa), nq.lst r la⟩
  | sum_ =>
    match ds, ez with
    | [.lst ys], ez =>
      obtain ⟨v, rfl, rd1⟩ := rd.one
      obtain ⟨p, vs, rfl, sa, la⟩ := rd1.lst ok
      have ez' : (ints? ys).map (fun ns => F.d (.int ns.sum)) = some z := ez
      cases w : ints? ys with
      | none => rw [w] at ez'; cases ez'
      | some ns =>
        rw [w] at ez'
        cases ez'
        have hv := la.ints w
        subst hv
        exact cr_sum hc pins s σ H _ us Q I rv ⟨p, ns, rfl, .inl sa, nq.flat r (.int _)⟩
  | all_ =>
    match ds, ez with
    | [.lst ys], ez =>
      obtain ⟨v, rfl, rd1⟩ := rd.one
      obtain ⟨p, vs, rfl, sa, la⟩ := rd1.lst ok
      have ez' : (bls? ys).map (fun ns => F.d (.bl (ns.all id))) = some z := ez
      cases w : bls? ys with
      | none => rw [w] at ez'; cases ez'
      | some ns =>
        rw [w] at ez'
        cases ez'
        have hv := la.bls w
        subst hv
        exact cr_all hc pins s σ H _ us Q I rv ⟨p, ns, rfl, .inl sa, nq.flat r (.bl _)⟩
  | any_ =>
    match ds, ez with
    | [.lst ys], ez =>
      obtain ⟨v, rfl, rd1⟩ := rd.one
      obtain ⟨p, vs, rfl, sa, la⟩ := rd1.lst ok
      have ez' : (bls? ys).map (fun ns => F.d (.bl (ns.any id))) = some z := ez
      cases w : bls? ys with
      | none => rw [w] at ez'; cases ez'
      | some ns =>
        rw [w] at ez'
        cases ez'
        have hv := la.bls w
        subst hv
        exact cr_any hc pins s σ H _ us Q I rv ⟨p, ns, rfl, .inl sa, nq.flat r (.bl _)⟩
  | sorted_ =>
    match ds, ez with
    | [.lst ys], ez => cases ez
end
end Vm

set_option Elab.async false
set_option linter.all false
set_option maxRecDepth 100000
set_option maxHeartbeats 4000000
set_option autoImplicit false
/-! Vm, part F: expressions. -/
namespace Vm
open PySem L2 PyProof.Rows

section
variable {X : Cx} {Y : Cy} {pos p p' : Pos}
/-! ### names, constants -/
theorem se_var {i : Nat} {x : Str} (hN : X.N[i]? = some x) (hv : Vis X.env.scope x) (hd : (x == ("__debug__" : Str)) = false) (hcd : (x == ("__classdict__" : Str)) = false) : PE X (.Name x pos) (tEv Y (evE (.var i))) :=
  (pe_var hN hv hd hcd).imp fun σ H Q h => by
    obtain ⟨W, ρ, r, h⟩ := h
    have h : Post Y W σ (RO Y) Q (rd i ρ) := h
    unfold rd at h
    cases e : ρ[i]? with
    | none => simp only [e] at h; exact h.elim
    | some oo =>
      cases oo with
      | none => simp only [e] at h; exact h.elim
      | some o =>
        have owned : Post Y W σ (RO Y) Q (ok (.f (.d o.fz)) (ρ.set i (some (.f (.d o.fz))))) → tVar i σ H Q := fun h => by
          obtain ⟨v, W', hv, e1, r1, q1⟩ := r.fzS e
          exact ⟨v, hv, (h.ext e1).now r1 q1⟩
        cases o with
        | ins C fs => simp only [e] at h; exact owned h
        | f x =>
          cases x with
          | d x =>
            simp only [e] at h
            obtain ⟨v, hv, q⟩ := r.slot i _ e
            exact ⟨v, hv, h.now r q⟩
          | lst xs => simp only [e] at h; exact owned h
          | dct xs => simp only [e] at h; exact owned h
theorem se_c {e : Expr} {x : D} {v : V} (he : PE X e (tC v)) (hx : ∀ G, Rep Y.K Y.ca G x v) : PE X e (tEv Y (evE (.c x))) :=
  he.imp fun σ H Q ⟨W, ρ, r, h⟩ => Post.now (a := O.f (.d x)) h r (hx W.G)
/-- a slot that is looked at -/
theorem sp_var {i : Nat} {x : Str} (hN : X.N[i]? = some x) (hv : Vis X.env.scope x) (hd : (x == ("__debug__" : Str)) = false) (hcd : (x == ("__classdict__" : Str)) = false) : PE X (.Name x pos) (tEvP Y (fun ρ => pk (.var i) (evE (.var i) ρ) ρ)) :=
  (pe_var hN hv hd hcd).imp fun σ H Q h => by
    obtain ⟨W, ρ, r, h⟩ := h
    dsimp only [pk] at h
    cases e : ρ[i]? with
    | none => simp only [e] at h; exact h.elim
    | some oo =>
      cases oo with
      | none => simp only [e] at h; exact h.elim
      | some o =>
        simp only [e] at h
        obtain ⟨v, hv, q⟩ := r.slot i _ e
        exact ⟨v, hv, h.now r (.inl ⟨_, q⟩)⟩
theorem sp_of {e : Expr} {a : IE} (h : PE X e (tEv Y (evE a))) (hp : ∀ r ρ, pk a r ρ = r) : PE X e (tEvP Y (fun ρ => pk a (evE a ρ) ρ)) :=
  h.imp fun σ H Q ⟨W, ρ, r, h⟩ => by
    dsimp only at h
    rw [hp] at h
    exact ⟨W, ρ, r, Post.imp (R1 := RP Y) (R1' := RO Y) h (fun _ _ _ _ z => .inl ⟨_, z⟩) fun _ _ z => z⟩

/-! ### rows of expressions -/
theorem sa_nil : PA X [] (tEvs Y (evEs [])) := pa_nil.imp fun σ H Q ⟨W, ρ, r, h⟩ => Post.now (a := ([] : List D)) h r .nil
theorem sa_cons {e : Expr} {es : List Expr} {a : IE} {as : List IE} (he : PE X e (tEv Y (evE a))) (hr : PA X es (tEvs Y (evEs as))) (hs : starEach (e :: es) X.env = (false, eval e X.env) :: starEach es X.env) : PA X (e :: es) (tEvs Y (evEs (a :: as))) :=
  (pa_cons he hr hs).imp fun σ H Q h => by
    obtain ⟨W, ρ, r, h⟩ := h
    rw [evEs] at h
    exact goE r h fun o ρ1 v W1 H1 e1 r1 q1 p1 => ⟨W1, ρ1, r1, Post.bind p1 fun xs ρ2 vs W2 H2 e2 r2 q2 p2 => p2.now r2 (.cons (q1.mono e2.g) q2)⟩
theorem se_tup {es : List Expr} {as : List IE} {k : Nat} (h : PA X es (tEvs Y (evEs as))) : PE X (.Tuple es k pos) (tEv Y (evE (.tup as))) :=
  (pe_tup h).imp fun σ H Q h => by
    obtain ⟨W, ρ, r, h⟩ := h
    rw [evE] at h
    refine ⟨W, ρ, r, Post.bind h fun xs ρ1 vs W1 H1 e1 r1 q1 p1 => ?_⟩
    by_cases hz : xs.length ≤ sizeLine
    · rw [if_pos hz] at p1
      refine ⟨by rw [← q1.length]; exact hz, fun p hp => ?_⟩
      have e2 := ext_addG (ho := .tup vs) r1.ok hp
      exact (p1.ext e2).now (r1.newG hp) (Rep.tup (SqT.of (by show upd W1.G p _ p = _; exact upd_same)) (q1.mono e2.g))
    · rw [if_neg hz] at p1; exact p1.elim
theorem se_lst {es : List Expr} {as : List IE} (h : PA X es (tEvs Y (evEs as))) : PE X (.List es pos) (tEv Y (evE (.lst as))) :=
  (pe_lst h).imp fun σ H Q h => by
    obtain ⟨W, ρ, r, h⟩ := h
    rw [evE] at h
    refine ⟨W, ρ, r, Post.bind h fun xs ρ1 vs W1 H1 e1 r1 q1 p1 => ?_⟩
    by_cases hz : xs.length ≤ sizeLine
    · rw [if_pos hz] at p1
      refine ⟨by rw [← q1.length]; exact hz, fun p hp => ?_⟩
      exact NewQ.lst (xs := xs) (fun v W' H' e' r' q' => p1 v W' H' e' r' q') r1 q1 p hp
    · rw [if_neg hz] at p1; exact p1.elim

/-! ### operators -/
variable {ea eb ec : Expr} {a b c : IE}
theorem liftF_post {z : Option F} {ρ : Env} {W : Wd} {σ : L2.St} {Q : VK} (h : Post Y W σ (RO Y) Q (liftF z ρ)) : ∃ y, z = some y ∧ NewQ Y W ρ σ y Q := by
  cases z with
  | none => exact h.elim
  | some y => exact ⟨y, rfl, fun v W' H' e r q => h v W' H' e r q⟩
theorem liftB_post {z : Option Bool} {ρ : Env} {W : Wd} {σ : L2.St} {Q : VK} {H : Hp} (r : Rel Y W ρ σ H) (h : Post Y W σ (RO Y) Q (liftB z ρ)) : ∃ k, z = some k ∧ Q (.bl k) H := by
  cases z with
  | none => exact h.elim
  | some y => exact ⟨y, rfl, Post.now (a := O.f (.d (.bl y))) h r (.bl y)⟩
theorem se_bin (hK : X.K = Y.K) (op : BOp) (ha : PE X ea (tEv Y (evE a))) (hb : PE X eb (tEv Y (evE b))) : PE X (.BinOp ea op.op eb pos) (tEv Y (evE (.bin op a b))) :=
  (pe_op (bop_ok hK op) ha hb).imp fun σ H Q h => by
    obtain ⟨W, ρ, r, h⟩ := h
    rw [evE] at h
    refine goE r h fun o1 ρ1 x W1 H1 e1 r1 q1 p1 => goE r1 p1 fun o2 ρ2 y W2 H2 e2 r2 q2 p2 => ?_
    obtain ⟨z, ez, nq⟩ := liftF_post p2
    exact ⟨W2, ρ2, σ, _, _, z, r2, q1.mono e2.g, q2, ez, nq⟩
theorem int?_rep {o : O} {i : Int} {G : Hp} {v : V} (h : o.int? = some i) (q : Rep Y.K Y.ca G o.fz v) : v = .int i := by
  cases o with
  | ins C fs => cases h
  | f x =>
    cases x with
    | d x =>
      cases x with
      | int j => cases h; cases q; rfl
      | _ => cases h
    | _ => cases h
theorem se_neg (ha : PE X ea (tEv Y (evE a))) : PE X (.UnaryOp .USub ea pos) (tEv Y (evE (.neg a))) :=
  (pe_un un_neg ha).imp fun σ H Q h => by
    obtain ⟨W, ρ, r, h⟩ := h
    rw [evE] at h
    refine goE r h fun o1 ρ1 x W1 H1 e1 r1 q1 p1 => ?_
    cases z : o1.int? with
    | none => simp only [z] at p1; exact p1.elim
    | some i =>
      simp only [z] at p1
      exact ⟨i, int?_rep z q1, p1.now r1 (Rep.int _)⟩
/-- a operand is a constant: the left one may be looked at -/
theorem se_cmpC (hK : X.K = Y.K) (hu : X.A.units + 64 < cLine) (op : COp) {x : D} {v : V} (ha : PE X ea (tEvP Y (fun ρ => pk a (evE a ρ) ρ))) (hb : PE X eb (tC v)) (hx : ∀ G, Rep Y.K Y.ca G x v) (hm : behindInMarks op.op eb = false) :
    PE X (.Compare ea [op.op] [eb] pos) (tEv Y (evE (.cmp op a (.c x)))) :=
  (pe_cmpR (cop_ok hK hu op) ha hb hm).imp fun σ H Q h => by
    obtain ⟨W, ρ, r, h⟩ := h
    rw [evE] at h
    refine goP r h fun o1 ρ1 y W1 H1 e1 r1 q1 p1 => ?_
    have p2 : Post Y W1 σ (RO Y) Q (liftB (op.ap o1.fz x) ρ1) := p1
    obtain ⟨k, ek, q⟩ := liftB_post r1 p2
    exact ⟨_, _, k, RepP.now r1.ok q1, hx _, ek, q⟩
theorem se_cmp (hK : X.K = Y.K) (hu : X.A.units + 64 < cLine) (op : COp) (hs : b.still = false) (ha : PE X ea (tEv Y (evE a))) (hb : PE X eb (tEvP Y (fun ρ => pk b (evE b ρ) ρ))) (hm : behindInMarks op.op eb = false) :
    PE X (.Compare ea [op.op] [eb] pos) (tEv Y (evE (.cmp op a b))) :=
  (pe_cmpR (cop_ok hK hu op) ha hb hm).imp fun σ H Q h => by
    obtain ⟨W, ρ, r, h⟩ := h
    rw [evE] at h
    unfold pkIf at h
    rw [hs, if_neg Bool.false_ne_true] at h
    refine goE r h fun o1 ρ1 x W1 H1 e1 r1 q1 p1 => goP r1 p1 fun o2 ρ2 y W2 H2 e2 r2 q2 p2 => ?_
    obtain ⟨k, ek, q⟩ := liftB_post r2 p2
    exact ⟨_, _, k, (q1.mono e2.g).mono r2.ok.g, RepP.now r2.ok q2, ek, q⟩
/-- the same as a test -/
theorem st_cmpC (hK : X.K = Y.K) (hu : X.A.units + 64 < cLine) (op : COp) {x : D} {v : V} (ha : PE X ea (tEvP Y (fun ρ => pk a (evE a ρ) ρ))) (hb : PE X eb (tC v)) (hx : ∀ G, Rep Y.K Y.ca G x v) (hm : behindInMarks op.op eb = false) :
    PT X (.Compare ea [op.op] [eb] pos) (tEvT Y (evT (.val (.cmp op a (.c x))))) :=
  (pt_cmpR (cop_ok hK hu op) ha hb hm).imp fun σ H Q h => by
    obtain ⟨W, ρ, r, h⟩ := h
    rw [evT, evE] at h
    have h' : Post Y W σ RT Q ((pk a (evE a ρ) ρ).bind fun o1 ρ1 => (liftB (op.ap o1.fz x) ρ1).bind fun x ρ => match x with | .f (.d (.bl b)) => ok b ρ | _ => none) := by
      cases z : pk a (evE a ρ) ρ with
      | none => simp only [pkIf, IE.still, if_pos, z] at h; exact h
      | some rr => cases rr <;> (simp only [pkIf, IE.still, if_pos, z] at h; exact h)
    refine goP r h' fun o1 ρ1 y W1 H1 e1 r1 q1 p1 => ?_
    cases z : op.ap o1.fz x with
    | none => simp only [z] at p1; exact p1.elim
    | some k =>
      simp only [z] at p1
      exact ⟨_, _, k, RepP.now r1.ok q1, hx _, z, k, rfl, Post.now (a := k) p1 r1 rfl⟩
theorem st_cmp (hK : X.K = Y.K) (hu : X.A.units + 64 < cLine) (op : COp) (hs : b.still = false) (ha : PE X ea (tEv Y (evE a))) (hb : PE X eb (tEvP Y (fun ρ => pk b (evE b ρ) ρ))) (hm : behindInMarks op.op eb = false) :
    PT X (.Compare ea [op.op] [eb] pos) (tEvT Y (evT (.val (.cmp op a b)))) :=
  (pt_cmpR (cop_ok hK hu op) ha hb hm).imp fun σ H Q h => by
    obtain ⟨W, ρ, r, h⟩ := h
    rw [evT, evE] at h
    have h' : Post Y W σ RT Q ((evE a ρ).bind fun o1 ρ1 => (pk b (evE b ρ1) ρ1).bind fun o2 ρ2 => (liftB (op.ap o1.fz o2.fz) ρ2).bind fun x ρ => match x with | .f (.d (.bl b)) => ok b ρ | _ => none) := by
      unfold pkIf at h
      rw [hs, if_neg Bool.false_ne_true] at h
      cases z : evE a ρ with
      | none => simp only [z] at h; exact h
      | some rr =>
        cases rr with
        | exc x ρ1 => simp only [z] at h; exact h
        | ok o1 ρ1 =>
          simp only [z] at h
          cases z2 : pk b (evE b ρ1) ρ1 with
          | none => simp only [M.bind, z2] at h ⊢; exact h
          | some rr2 => cases rr2 <;> (simp only [M.bind, z2] at h ⊢; exact h)
    refine goE r h' fun o1 ρ1 x W1 H1 e1 r1 q1 p1 => goP r1 p1 fun o2 ρ2 y W2 H2 e2 r2 q2 p2 => ?_
    cases z : op.ap o1.fz o2.fz with
    | none => simp only [z] at p2; exact p2.elim
    | some k =>
      simp only [z] at p2
      exact ⟨_, _, k, (q1.mono e2.g).mono r2.ok.g, RepP.now r2.ok q2, z, k, rfl, Post.now (a := k) p2 r2 rfl⟩
/-- what a chain wants behind its parts -/
theorem chain_go (hK : X.K = Y.K) {op op' : COp} {σ : L2.St} {H : Hp} {Q : VK} {W : Wd} {ρ : Env} (r : Rel Y W ρ σ H) (h : Post Y W σ (RO Y) Q (evE (.chain op op' a b c) ρ)) :
    tChain (rCop Y op) (rCop Y op') (tEv Y (evE a)) (tEv Y (evE b)) (tEv Y (evE c)) σ H Q := by
  rw [evE] at h
  refine goE r h fun o1 ρ1 x W1 H1 e1 r1 q1 p1 => goE r1 p1 fun o2 ρ2 y W2 H2 e2 r2 q2 p2 => ?_
  cases z : op.ap o1.fz o2.fz with
  | none => simp only [z] at p2; exact p2.elim
  | some k =>
    refine ⟨_, _, k, (q1.mono e2.g).mono r2.ok.g, q2.mono r2.ok.g, z, k, rfl, ?_⟩
    cases k with
    | true =>
      simp only [z] at p2
      rw [if_pos rfl]
      refine goE r2 p2 fun o3 ρ3 w W3 H3 e3 r3 q3 p3 => ?_
      obtain ⟨k, ek, q⟩ := liftB_post r3 p3
      exact ⟨_, _, k, (q2.mono e3.g).mono r3.ok.g, q3.mono r3.ok.g, ek, q⟩
    | false =>
      simp only [z] at p2
      rw [if_neg Bool.false_ne_true]
      exact p2.now r2 (Rep.bl false)
theorem se_chain (hK : X.K = Y.K) (hu : X.A.units + 64 < cLine) (op op' : COp) (ha : PE X ea (tEv Y (evE a))) (hb : PE X eb (tEv Y (evE b))) (hc : PE X ec (tEv Y (evE c))) (hm : lastMarks [op.op, op'.op] [eb, ec] = false) :
    PE X (.Compare ea [op.op, op'.op] [eb, ec] pos) (tEv Y (evE (.chain op op' a b c))) :=
  (pe_chain (cop_ok hK hu op) (cop_ok hK hu op') ha hb hc hm).imp fun σ H Q h => by
    obtain ⟨W, ρ, r, h⟩ := h
    exact chain_go hK r h
theorem st_val_post {m : M O} {σ : L2.St} {Q : Bool → Hp → Prop} {W : Wd} (h : Post Y W σ RT Q (m.bind fun x ρ => match x with | .f (.d (.bl b)) => ok b ρ | _ => none)) : Post Y W σ (RO Y) (fun x H => ∃ k, x = .bl k ∧ Q k H) m := by
  refine Post.bind h fun o ρ' v W' H' e' r' q p => ?_
  cases o with
  | ins C fs => exact p.elim
  | f x =>
    cases x with
    | d x =>
      cases x with
      | bl k =>
        cases q
        exact ⟨k, rfl, Post.now (a := k) p r' rfl⟩
      | _ => exact p.elim
    | _ => exact p.elim
theorem st_chain (hK : X.K = Y.K) (hu : X.A.units + 64 < cLine) (op op' : COp) (ha : PE X ea (tEv Y (evE a))) (hb : PE X eb (tEv Y (evE b))) (hc : PE X ec (tEv Y (evE c))) (hm : lastMarks [op.op, op'.op] [eb, ec] = false) :
    PT X (.Compare ea [op.op, op'.op] [eb, ec] pos) (tEvT Y (evT (.val (.chain op op' a b c)))) :=
  (pt_chain (cop_ok hK hu op) (cop_ok hK hu op') ha hb hc hm).imp fun σ H Q h => by
    obtain ⟨W, ρ, r, h⟩ := h
    rw [evT] at h
    exact chain_go hK r (st_val_post h)

/-! ### and, or, not; a if t else b -/
theorem se_and {rest : List Expr} {eb : Expr} (ha : PE X ea (tEv Y (evE a))) (hb : PE X (.BoolOp .And (eb :: rest) pos) (tEv Y (evE b))) : PE X (.BoolOp .And (ea :: eb :: rest) pos) (tEv Y (evE (.andV a b))) :=
  (pe_and ha hb).imp fun σ H Q h => by
    obtain ⟨W, ρ, r, h⟩ := h
    rw [evE] at h
    refine goO r h fun o1 ρ1 x W1 H1 e1 r1 q1 p1 => ?_
    match o1, q1, p1 with
    | .f (.d (.bl true)), q1, p1 => cases q1; exact ⟨true, rfl, by rw [if_pos rfl]; exact ⟨W1, ρ1, r1, p1⟩⟩
    | .f (.d (.bl false)), q1, p1 => cases q1; exact ⟨false, rfl, by rw [if_neg Bool.false_ne_true]; exact Post.now (a := O.f (.d (.bl false))) p1 r1 (Rep.bl false)⟩
theorem se_or {rest : List Expr} {eb : Expr} (ha : PE X ea (tEv Y (evE a))) (hb : PE X (.BoolOp .Or (eb :: rest) pos) (tEv Y (evE b))) : PE X (.BoolOp .Or (ea :: eb :: rest) pos) (tEv Y (evE (.orV a b))) :=
  (pe_or ha hb).imp fun σ H Q h => by
    obtain ⟨W, ρ, r, h⟩ := h
    rw [evE] at h
    refine goO r h fun o1 ρ1 x W1 H1 e1 r1 q1 p1 => ?_
    match o1, q1, p1 with
    | .f (.d (.bl true)), q1, p1 => cases q1; exact ⟨true, rfl, by rw [if_pos rfl]; exact Post.now (a := O.f (.d (.bl true))) p1 r1 (Rep.bl true)⟩
    | .f (.d (.bl false)), q1, p1 => cases q1; exact ⟨false, rfl, by rw [if_neg Bool.false_ne_true]; exact ⟨W1, ρ1, r1, p1⟩⟩
theorem se_not (ha : PE X ea (tEv Y (evE a))) : PE X (.UnaryOp .Not ea pos) (tEv Y (evE (.notV a))) :=
  (pe_not ha).imp fun σ H Q h => by
    obtain ⟨W, ρ, r, h⟩ := h
    rw [evE] at h
    refine goO r h fun o1 ρ1 x W1 H1 e1 r1 q1 p1 => ?_
    match o1, q1, p1 with
    | .f (.d (.bl k)), q1, p1 => cases q1; exact ⟨k, rfl, Post.now (a := O.f (.d (.bl (!k)))) p1 r1 (Rep.bl _)⟩
/-- go on behind a test -/
theorem goT {W : Wd} {ρ : Env} {σ : L2.St} {H : Hp} {m : Env → M Bool} {γ δ : Type} {R2 : Wd → Hp → γ → δ → Prop} {Q2 : δ → Hp → Prop} {f : Bool → Env → M γ} {Q : Bool → Hp → Prop} (r : Rel Y W ρ σ H) (h : Post Y W σ R2 Q2 ((m ρ).bind f))
    (k : ∀ k ρ' W' H', Ext W W' → Rel Y W' ρ' σ H' → Post Y W' σ R2 Q2 (f k ρ') → Q k H') : tEvT Y m σ H Q :=
  ⟨W, ρ, r, Post.bind h fun a ρ' b W' H' e r' q p => by cases q; exact k a ρ' W' H' e r' p⟩
variable {t u : IT}
theorem se_ifx (ht : PT X ec (tEvT Y (evT t))) (ha : PE X ea (tEv Y (evE a))) (hb : PE X eb (tEv Y (evE b))) : PE X (.IfExp ec ea eb pos) (tEv Y (evE (.ifx t a b))) :=
  (pe_ifExp ht ha hb).imp fun σ H Q h => by
    obtain ⟨W, ρ, r, h⟩ := h
    rw [evE] at h
    refine goT r h fun k ρ1 W1 H1 e1 r1 p1 => ?_
    cases k with
    | true => rw [if_pos rfl] at p1 ⊢; exact ⟨W1, ρ1, r1, p1⟩
    | false => rw [if_neg Bool.false_ne_true] at p1 ⊢; exact ⟨W1, ρ1, r1, p1⟩
theorem st_and1 (ht : PT X ea (tEvT Y (evT t))) : PW X (.BoolOp .And [ea] pos) (tEvT Y (evT t)) := pw_and1 ht
theorem st_or1 (ht : PT X ea (tEvT Y (evT t))) : PW X (.BoolOp .Or [ea] pos) (tEvT Y (evT t)) := pw_or1 ht
theorem st_and {rest : List Expr} {eb : Expr} (ha : PT X ea (tEvT Y (evT t))) (hb : PW X (.BoolOp .And (eb :: rest) pos) (tEvT Y (evT u))) : PW X (.BoolOp .And (ea :: eb :: rest) pos) (tEvT Y (evT (.and t u))) :=
  (pw_and ha hb).imp fun σ H Q h => by
    obtain ⟨W, ρ, r, h⟩ := h
    rw [evT] at h
    refine goT r h fun k ρ1 W1 H1 e1 r1 p1 => ?_
    cases k with
    | true => rw [if_pos rfl] at p1 ⊢; exact ⟨W1, ρ1, r1, p1⟩
    | false => rw [if_neg Bool.false_ne_true] at p1 ⊢; exact Post.now (a := false) p1 r1 rfl
theorem st_or {rest : List Expr} {eb : Expr} (ha : PT X ea (tEvT Y (evT t))) (hb : PW X (.BoolOp .Or (eb :: rest) pos) (tEvT Y (evT u))) : PW X (.BoolOp .Or (ea :: eb :: rest) pos) (tEvT Y (evT (.or t u))) :=
  (pw_or ha hb).imp fun σ H Q h => by
    obtain ⟨W, ρ, r, h⟩ := h
    rw [evT] at h
    refine goT r h fun k ρ1 W1 H1 e1 r1 p1 => ?_
    cases k with
    | true => rw [if_pos rfl] at p1 ⊢; exact Post.now (a := true) p1 r1 rfl
    | false => rw [if_neg Bool.false_ne_true] at p1 ⊢; exact ⟨W1, ρ1, r1, p1⟩
theorem st_not (ha : PT X ea (tEvT Y (evT t))) : PT X (.UnaryOp .Not ea pos) (tEvT Y (evT (.not t))) :=
  (pt_not ha).imp fun σ H Q h => by
    obtain ⟨W, ρ, r, h⟩ := h
    rw [evT] at h
    exact goT r h fun k ρ1 W1 H1 e1 r1 p1 => Post.now (a := !k) p1 r1 rfl
theorem st_tru (hK : X.K = Y.K) (ha : PE X ea (tEvP Y (fun ρ => pk a (evE a ρ) ρ))) (he : ∀ whole, isTrue ea X.env whole = (do let v ← whole; standAt ea.pos; holding [v] (truthy v))) : PT X ea (tEvT Y (evT (.tru a))) :=
  (pt_truth ha he).imp fun σ H Q h => by
    obtain ⟨W, ρ, r, h⟩ := h
    rw [evT] at h
    refine goP r h fun o1 ρ1 x W1 H1 e1 r1 q1 p1 => ?_
    cases z : o1.fz.truth with
    | none => simp only [z] at p1; exact p1.elim
    | some k =>
      simp only [z] at p1
      exact ⟨k, by rw [hK]; exact tru_rep r1.ok ⟨_, rfl, q1⟩ z, Post.now (a := k) p1 r1 rfl⟩

/-! ### items, slices -/
theorem se_idxV (hK : X.K = Y.K) {k : Nat} {x : Str} {i : IE} (hN : X.N[k]? = some x) (hv : Vis X.env.scope x) (hd : (x == ("__debug__" : Str)) = false) (hcd : (x == ("__classdict__" : Str)) = false) (hi : PE X eb (tEv Y (evE i))) (hs : PlainIx eb) :
    PE X (.Subscript (.Name x p) eb pos) (tEv Y (evE (.idxV k i))) :=
  (pe_ix (at_ok hK) (pe_var hN hv hd hcd) hi hs).imp fun σ H Q h => by
    obtain ⟨W, ρ, r, h⟩ := h
    rw [evE] at h
    cases e : ρ[k]? with
    | none => simp only [e] at h; exact h.elim
    | some oo =>
      cases oo with
      | none => simp only [e] at h; exact h.elim
      | some o =>
        simp only [e] at h
        obtain ⟨v, hv, _⟩ := r.slot k _ e
        refine ⟨v, hv, goE r h fun o1 ρ1 x W1 H1 e1 r1 q1 p1 => ?_⟩
        cases e2 : ρ1[k]? with
        | none => simp only [e2] at p1; exact p1.elim
        | some oo =>
          cases oo with
          | none => simp only [e2] at p1; exact p1.elim
          | some o2 =>
            simp only [e2] at p1
            obtain ⟨v', hv', q'⟩ := r1.slot k _ e2
            rw [hv] at hv'; cases hv'
            obtain ⟨z, ez, nq⟩ := liftF_post p1
            cases w : o2.fz.at? o1.fz with
            | none => rw [w] at ez; cases ez
            | some d =>
              rw [w] at ez; cases ez
              exact ⟨W1, _, _, d, r1.ok, ⟨_, rfl, .inl ⟨_, q'⟩⟩, q1, w, fun u ru => nq.flat r1 ru⟩
theorem se_idxC (hK : X.K = Y.K) {x : D} {v : V} (ha : PE X ea (tEvP Y (fun ρ => pk a (evE a ρ) ρ))) (hb : PE X eb (tC v)) (hx : ∀ G, Rep Y.K Y.ca G x v) (hs : PlainIx eb) : PE X (.Subscript ea eb pos) (tEv Y (evE (.idx a (.c x)))) :=
  (pe_ix (at_ok hK) ha hb hs).imp fun σ H Q h => by
    obtain ⟨W, ρ, r, h⟩ := h
    rw [evE] at h
    refine goP r h fun o1 ρ1 y W1 H1 e1 r1 q1 p1 => ?_
    have p2 : Post Y W1 σ (RO Y) Q (liftF ((o1.fz.at? x).map .d) ρ1) := p1
    obtain ⟨z, ez, nq⟩ := liftF_post p2
    cases w : o1.fz.at? x with
    | none => rw [w] at ez; cases ez
    | some d =>
      rw [w] at ez; cases ez
      exact ⟨W1, _, _, d, r1.ok, ⟨_, rfl, q1⟩, hx _, w, fun u ru => nq.flat r1 ru⟩
theorem se_idx (hK : X.K = Y.K) (hst : b.still = false) (ha : PE X ea (tEv Y (evE a))) (hb : PE X eb (tEv Y (evE b))) (hs : PlainIx eb) : PE X (.Subscript ea eb pos) (tEv Y (evE (.idx a b))) :=
  (pe_ix (at_ok hK) ha hb hs).imp fun σ H Q h => by
    obtain ⟨W, ρ, r, h⟩ := h
    rw [evE] at h
    unfold pkIf at h
    rw [hst, if_neg Bool.false_ne_true] at h
    refine goE r h fun o1 ρ1 x W1 H1 e1 r1 q1 p1 => goE r1 p1 fun o2 ρ2 y W2 H2 e2 r2 q2 p2 => ?_
    obtain ⟨z, ez, nq⟩ := liftF_post p2
    cases w : o1.fz.at? o2.fz with
    | none => rw [w] at ez; cases ez
    | some d =>
      rw [w] at ez; cases ez
      exact ⟨W2, _, _, d, r2.ok, .of (q1.mono e2.g), q2, w, fun u ru => nq.flat r2 ru⟩
theorem so_none : PO X none (tEvO Y (evO none)) := po_none.imp fun σ H Q ⟨W, ρ, r, h⟩ => Post.now (a := (none : Option Int)) h r rfl
theorem so_some (ha : PE X ea (tEv Y (evE a))) : PO X (some ea) (tEvO Y (evO (some a))) :=
  (po_some ha).imp fun σ H Q h => by
    obtain ⟨W, ρ, r, h⟩ := h
    rw [evO] at h
    refine goE r h fun o1 ρ1 x W1 H1 e1 r1 q1 p1 => ?_
    cases z : o1.int? with
    | none => simp only [z] at p1; exact p1.elim
    | some i =>
      simp only [z] at p1
      exact ⟨i, int?_rep z q1, Post.now (a := some i) p1 r1 rfl⟩
theorem goPart {W : Wd} {ρ : Env} {σ : L2.St} {H : Hp} {m : Env → M (Option Int)} {γ δ : Type} {R2 : Wd → Hp → γ → δ → Prop} {Q2 : δ → Hp → Prop} {f : Option Int → Env → M γ} {Q : Option Int → Hp → Prop} (r : Rel Y W ρ σ H) (h : Post Y W σ R2 Q2 ((m ρ).bind f))
    (k : ∀ k ρ' W' H', Ext W W' → Rel Y W' ρ' σ H' → Post Y W' σ R2 Q2 (f k ρ') → Q k H') : tEvO Y m σ H Q :=
  ⟨W, ρ, r, Post.bind h fun a ρ' b W' H' e r' q p => by cases q; exact k a ρ' W' H' e r' p⟩
variable {lo hi : Option Expr} {l h' : Option IE}
theorem se_sl (hK : X.K = Y.K) (ha : PE X ea (tEv Y (evE a))) (hl : PO X lo (tEvO Y (evO l))) (hh : PO X hi (tEvO Y (evO h'))) : PE X (.Subscript ea (.Slice lo hi none p) pos) (tEv Y (evE (.sl a l h'))) :=
  (pe_slice (cut_ok hK) ha hl hh).imp fun σ H Q h => by
    obtain ⟨W, ρ, r, h⟩ := h
    rw [evE] at h
    refine goE r h fun o1 ρ1 x W1 H1 e1 r1 q1 p1 => goPart r1 p1 fun i ρ2 W2 H2 e2 r2 p2 => goPart r2 p2 fun j ρ3 W3 H3 e3 r3 p3 => ?_
    obtain ⟨z, ez, nq⟩ := liftF_post p3
    exact ⟨W3, ρ3, σ, _, z, r3, .of (q1.mono (e2.g.trans e3.g)), ez, nq⟩
theorem se_slV (hK : X.K = Y.K) {k : Nat} {x : Str} (hN : X.N[k]? = some x) (hv : Vis X.env.scope x) (hd : (x == ("__debug__" : Str)) = false) (hcd : (x == ("__classdict__" : Str)) = false) (hl : PO X lo (tEvO Y (evO l))) (hh : PO X hi (tEvO Y (evO h'))) :
    PE X (.Subscript (.Name x p') (.Slice lo hi none p) pos) (tEv Y (evE (.slV k l h'))) :=
  (pe_slice (cut_ok hK) (pe_var hN hv hd hcd) hl hh).imp fun σ H Q h => by
    obtain ⟨W, ρ, r, h⟩ := h
    rw [evE] at h
    cases e : ρ[k]? with
    | none => simp only [e] at h; exact h.elim
    | some oo =>
      cases oo with
      | none => simp only [e] at h; exact h.elim
      | some o =>
        simp only [e] at h
        obtain ⟨v, hv, _⟩ := r.slot k _ e
        refine ⟨v, hv, goPart r h fun i ρ2 W2 H2 e2 r2 p2 => goPart r2 p2 fun j ρ3 W3 H3 e3 r3 p3 => ?_⟩
        cases e4 : ρ3[k]? with
        | none => simp only [e4] at p3; exact p3.elim
        | some oo =>
          cases oo with
          | none => simp only [e4] at p3; exact p3.elim
          | some o2 =>
            simp only [e4] at p3
            obtain ⟨v', hv', q'⟩ := r3.slot k _ e4
            rw [hv] at hv'; cases hv'
            obtain ⟨z, ez, nq⟩ := liftF_post p3
            exact ⟨W3, ρ3, σ, _, z, r3, ⟨_, rfl, .inl ⟨_, q'⟩⟩, ez, nq⟩

/-! ### built-ins -/
theorem boot_b (b : Blt) : bootBuiltins b.name = some b.val := by cases b <;> decide +kernel
theorem name_b (b : Blt) : b.name ≠ "__name__" ∧ (b.name == ("__debug__" : Str)) = false := by cases b <;> decide +kernel
/-- a call of a built-in by its name -/
theorem pe_blt {bt : Blt} {e : Expr} {es : List Expr} {ta : TA} {r : List V → Hp → VK → Prop} (hc : CallR X bt.val r) (hg : Gl X bt.name) (hm : X.mg bt.name = none) (ha : PA X (e :: es) ta) (he : starEach (e :: es) X.env = (false, eval e X.env) :: starEach es X.env) (hpl : (backTo pos (starEach es X.env)).any (·.1) = false) :
    PE X (.Call (.Name bt.name p) (e :: es) [] pos) (tCB r ta) := by
  have hb := boot_b bt
  obtain ⟨n1, n2⟩ := name_b bt
  cases bt <;> first
    | exact pe_callB hc hg hm hb ha n1 n2 he hpl
    | exact pe_callTy hc hg hm hb ha n1 n2 he hpl
theorem se_blt1 (hK : X.K = Y.K) (hc : X.calm = true) {bt : Blt} (hg : Gl X bt.name) (hm : X.mg bt.name = none) (ha : PE X ea (tEvP Y (fun ρ => pk a (evE a ρ) ρ))) (he : starEach [ea] X.env = (false, eval ea X.env) :: starEach [] X.env) :
    PE X (.Call (.Name bt.name p) [ea] [] pos) (tEv Y (evE (.blt1 bt a))) :=
  (pe_blt (blt_ok hK hc bt) hg hm (pa_cons ha pa_nil he) he rfl).imp fun σ H Q h => by
    obtain ⟨W, ρ, r, h⟩ := h
    rw [evE] at h
    refine goP r h fun o1 ρ1 x W1 H1 e1 r1 q1 p1 => ?_
    obtain ⟨z, ez, nq⟩ := liftF_post p1
    exact ⟨W1, ρ1, σ, _, z, r1, .cons ⟨_, rfl, q1⟩ .nil, ez, nq⟩
theorem se_blt (hK : X.K = Y.K) (hc : X.calm = true) {bt : Blt} {es : List Expr} {as : List IE} (hg : Gl X bt.name) (hm : X.mg bt.name = none) (ha : PA X (ea :: es) (tEvs Y (evEs as))) (he : starEach (ea :: es) X.env = (false, eval ea X.env) :: starEach es X.env) (hpl : (backTo pos (starEach es X.env)).any (·.1) = false) :
    PE X (.Call (.Name bt.name p) (ea :: es) [] pos) (tEv Y (evE (.blt bt as))) :=
  (pe_blt (blt_ok hK hc bt) hg hm ha he hpl).imp fun σ H Q h => by
    obtain ⟨W, ρ, r, h⟩ := h
    rw [evE] at h
    refine ⟨W, ρ, r, Post.bind h fun xs ρ1 vs W1 H1 e1 r1 q1 p1 => ?_⟩
    obtain ⟨z, ez, nq⟩ := liftF_post p1
    exact ⟨W1, ρ1, σ, _, z, r1, .of q1, ez, nq⟩
end
end Vm

set_option Elab.async false
set_option linter.all false
set_option maxRecDepth 100000
set_option maxHeartbeats 4000000
set_option autoImplicit false
/-! Vm, part G: fields, calls, what is walked, comprehensions. -/
namespace Vm
open PySem L2 PyProof.Rows

/-! ### fields -/
section
variable {Y : Cy} {W W' : Wd} {ρ : Env} {σ : L2.St} {H H' : Hp} {a : Option Nat}
theorem RepFs.look {f : Str} {x : F} : ∀ {j : Nat} {fs : List (Str × F)} {fvs : List (Str × V)}, RepFs Y.K Y.ca W H a j fs fvs → fs.lookup f = some x → ∃ v i, j ≤ i ∧ fvs.lookup f = some v ∧ RepF Y.K Y.ca W H (a, i) x v
  | _, [], _, _, e => by simp at e
  | _, _ :: _, [], h, _ => h.elim
  | j, (g, y) :: fs, (_, v) :: fvs, h, e => by
    obtain ⟨rfl, h1, h2⟩ := h
    rw [List.lookup_cons] at e
    cases q : f == g with
    | true => rw [q] at e; cases e; exact ⟨v, j, Nat.le_refl _, by rw [List.lookup_cons, q], h1⟩
    | false =>
      rw [q] at e
      obtain ⟨u, i, l, e', r⟩ := RepFs.look h2 e
      exact ⟨u, i, by omega, by rw [List.lookup_cons, q]; exact e', r⟩
theorem RepFs.lookN {f : Str} : ∀ {j : Nat} {fs : List (Str × F)} {fvs : List (Str × V)}, RepFs Y.K Y.ca W H a j fs fvs → fs.lookup f = none → fvs.lookup f = none
  | _, [], [], _, _ => rfl
  | _, [], _ :: _, h, _ => h.elim
  | _, _ :: _, [], h, _ => h.elim
  | j, (g, y) :: fs, (_, v) :: fvs, h, e => by
    obtain ⟨rfl, h1, h2⟩ := h
    rw [List.lookup_cons] at e ⊢
    cases q : f == g with
    | true => rw [q] at e; cases e
    | false => rw [q] at e; exact RepFs.lookN h2 e
theorem RepFs.length : ∀ {j : Nat} {fs : List (Str × F)} {fvs : List (Str × V)}, RepFs Y.K Y.ca W H a j fs fvs → fs.length = fvs.length
  | _, [], [], _ => rfl
  | _, [], _ :: _, h => h.elim
  | _, _ :: _, [], h => h.elim
  | _, _ :: _, _ :: _, h => congrArg (· + 1) (RepFs.length h.2.2)
/-- the place of a field -/
def idxF (f : Str) : Nat → List (Str × F) → Nat
  | j, [] => j
  | j, (g, _) :: fs => if g = f then j else idxF f (j + 1) fs
theorem idxF_le {f : Str} : ∀ {j : Nat} {fs : List (Str × F)}, j ≤ idxF f j fs
  | _, [] => Nat.le_refl _
  | j, (g, _) :: fs => by
    show j ≤ if g = f then j else idxF f (j + 1) fs
    split
    · exact Nat.le_refl _
    · exact Nat.le_trans (Nat.le_succ _) idxF_le
/-- one field gets another content; the other fields stand -/
theorem RepFs.put {f : Str} {z : F} {u : V} (e : Same W.G W'.G) : ∀ {j : Nat} {fs : List (Str × F)} {fvs : List (Str × V)}, RepFs Y.K Y.ca W H a j fs fvs →
    (∀ p i, j ≤ i → i ≠ idxF f j fs → W.Ow p = some (a, i) → W'.Ow p = some (a, i) ∧ H' p = H p) → RepF Y.K Y.ca W' H' (a, idxF f j fs) z u → RepFs Y.K Y.ca W' H' a j (putF f z fs) (L2.putF f u fvs)
  | j, [], [], _, _, r => ⟨rfl, r, trivial⟩
  | _, [], _ :: _, h, _, _ => h.elim
  | _, _ :: _, [], h, _, _ => h.elim
  | j, (g, y) :: fs, (_, v) :: fvs, h, k, r => by
    obtain ⟨rfl, h1, h2⟩ := h
    by_cases c : g = f
    · have ei : idxF f j ((g, y) :: fs) = j := by show (if g = f then j else _) = j; rw [if_pos c]
      rw [ei] at r k
      show RepFs Y.K Y.ca W' H' a j (if g = f then (g, z) :: fs else (g, y) :: putF f z fs) (if g = f then (g, u) :: fvs else (g, v) :: L2.putF f u fvs)
      rw [if_pos c, if_pos c]
      exact ⟨rfl, r, RepFs.mono e h2 fun p i l o => k p i (by omega) (by omega) o⟩
    · have ei : idxF f j ((g, y) :: fs) = idxF f (j + 1) fs := by show (if g = f then j else _) = _; rw [if_neg c]
      rw [ei] at r k
      show RepFs Y.K Y.ca W' H' a j (if g = f then (g, z) :: fs else (g, y) :: putF f z fs) (if g = f then (g, u) :: fvs else (g, v) :: L2.putF f u fvs)
      rw [if_neg c, if_neg c]
      refine ⟨rfl, RepF.mono h1 e fun p o => k p j (Nat.le_refl _) ?_ o, RepFs.put e h2 (fun p i l n o => k p i (by omega) n o) r⟩
      have := @idxF_le f (j + 1) fs
      omega
theorem RepFs.lookI {f : Str} {x : F} : ∀ {j : Nat} {fs : List (Str × F)} {fvs : List (Str × V)}, RepFs Y.K Y.ca W H a j fs fvs → fs.lookup f = some x → ∃ v, fvs.lookup f = some v ∧ RepF Y.K Y.ca W H (a, idxF f j fs) x v ∧ L2.putF f v fvs = fvs
  | _, [], _, _, e => by simp at e
  | _, _ :: _, [], h, _ => h.elim
  | j, (g, y) :: fs, (_, v) :: fvs, h, e => by
    obtain ⟨rfl, h1, h2⟩ := h
    rw [List.lookup_cons] at e
    by_cases c : g = f
    · subst c
      rw [beq_self_eq_true] at e
      cases e
      refine ⟨v, by rw [List.lookup_cons, beq_self_eq_true], ?_, ?_⟩
      · show RepF Y.K Y.ca W H (a, if g = g then j else _) _ v
        rw [if_pos rfl]; exact h1
      · show (if g = g then (g, v) :: fvs else _) = _
        rw [if_pos rfl]
    · have c' : (f == g) = false := beq_eq_false_iff_ne.mpr (Ne.symm c)
      rw [c'] at e
      obtain ⟨u, e', r, t⟩ := RepFs.lookI h2 e
      refine ⟨u, by rw [List.lookup_cons, c']; exact e', ?_, ?_⟩
      · show RepF Y.K Y.ca W H (a, if g = f then j else idxF f (j + 1) fs) _ u
        rw [if_neg c]; exact r
      · show (if g = f then (g, u) :: fvs else (g, v) :: L2.putF f u fvs) = _
        rw [if_neg c, t]
end
/-- a class whose instances are read and written plainly at f -/
def FldOk (Y : Cy) (f : Str) (Cs : List Str) : Prop := ∀ C ∈ Cs, Cls Y.K (Y.ca C) ∧ NoAttr Y.K (Y.ca C) f
section
variable {X : Cx} {Y : Cy} {pos p : Pos} {ea : Expr} {a : IE}
theorem se_fldV (hK : X.K = Y.K) {i : Nat} {x f : Str} {Cs : List Str} (hN : X.N[i]? = some x) (hv : Vis X.env.scope x) (hd : (x == ("__debug__" : Str)) = false) (hcd : (x == ("__classdict__" : Str)) = false) (hC : FldOk Y f Cs) :
    PE X (.Attribute (.Name x p) f pos) (tEv Y (evE (.fldV i f Cs))) :=
  (pe_fld (pe_var hN hv hd hcd) rfl).imp fun σ H Q h => by
    obtain ⟨W, ρ, r, h⟩ := h
    have h : Post Y W σ (RO Y) Q (rdF i f Cs ρ) := h
    unfold rdF at h
    cases e : ρ[i]? with
    | none => simp only [e] at h; exact h.elim
    | some oo =>
      cases oo with
      | none => simp only [e] at h; exact h.elim
      | some o =>
        obtain ⟨v, hv, ho⟩ := r.slot i _ e
        match o, e, ho, h with
        | .ins C fs, e, ho, h =>
          simp only [e] at h
          by_cases c : C ∈ Cs
          · rw [if_pos c] at h
            obtain ⟨p0, dx, fvs, rfl, ow, hp, q⟩ := ho
            obtain ⟨c1, c2⟩ := hC C c
            cases z : fs.lookup f with
            | none => simp only [z] at h; exact h.elim
            | some y =>
              obtain ⟨w, ew, qw, t⟩ := q.lookI z
              refine ⟨_, hv, p0, _, dx, fvs, w, rfl, hp, by rw [hK]; exact c1, by rw [hK]; exact c2, ew, ?_⟩
              have owned : Post Y W σ (RO Y) Q (ok (.f (.d y.fz)) (ρ.set i (some (.ins C (putF f (.d y.fz) fs))))) → Q w H := fun h => by
                have hL : (fun l : Lb => decide (l = (some i, idxF f 1 fs))) (some i, idxF f 1 fs) = true := decide_eq_true rfl
                have hr := RepF.fz (L := fun l : Lb => decide (l = (some i, idxF f 1 fs))) r.ok qw hL
                have hne : (0 : Nat) ≠ idxF f 1 fs := by have := @idxF_le f 1 fs; omega
                refine (h.ext (fz_ext (L := fun l : Lb => decide (l = (some i, idxF f 1 fs))) r.ok)).now (r.chg (fz_ok r.ok) (fz_g r.ok) (fun b i' j hn q => ⟨(fz_out q (decide_eq_false fun z => hn (Option.some.inj (congrArg Prod.fst z)))).2, rfl⟩) hv ?_) hr
                refine ⟨p0, dx, fvs, rfl, (fz_out ow (decide_eq_false fun z => hne (congrArg Prod.snd z))).2, hp, ?_⟩
                rw [← t]
                exact q.put (fz_g r.ok) (fun p' j _ hj o => ⟨(fz_out o (decide_eq_false fun z => hj (congrArg Prod.snd z))).2, rfl⟩) hr
              cases y with
              | d x => simp only [z] at h; exact Post.now (a := O.f (.d x)) h r qw
              | lst xs => simp only [z] at h; exact owned h
              | dct xs => simp only [z] at h; exact owned h
          · rw [if_neg c] at h; exact h.elim
        | .f (.d (.ins C fs)), e, ho, h =>
          simp only [e] at h
          by_cases c : C ∈ Cs
          · rw [if_pos c] at h
            have ho' : Rep Y.K Y.ca W.G (.ins C fs) v := ho
            cases ho' with
            | ins h1 h2 =>
              obtain ⟨c1, c2⟩ := hC C c
              cases z : fs.lookup f with
              | none => simp only [z] at h; exact h.elim
              | some y =>
                obtain ⟨w, ew, qw⟩ := h2.look z
                simp only [z] at h
                exact ⟨_, hv, _, _, _, _, w, rfl, r.ok.g _ _ h1, by rw [hK]; exact c1, by rw [hK]; exact c2, ew, Post.now (a := O.f (.d y)) h r qw⟩
          · rw [if_neg c] at h; exact h.elim
        | .f (.lst _), e, ho, h => simp only [e] at h; exact h.elim
        | .f (.dct _), e, ho, h => simp only [e] at h; exact h.elim
        | .f (.d .non), e, ho, h => simp only [e] at h; exact h.elim
        | .f (.d (.bl _)), e, ho, h => simp only [e] at h; exact h.elim
        | .f (.d (.int _)), e, ho, h => simp only [e] at h; exact h.elim
        | .f (.d (.str _)), e, ho, h => simp only [e] at h; exact h.elim
        | .f (.d (.tup _)), e, ho, h => simp only [e] at h; exact h.elim
        | .f (.d (.lst _)), e, ho, h => simp only [e] at h; exact h.elim
        | .f (.d (.dct _)), e, ho, h => simp only [e] at h; exact h.elim
        | .f (.d (.ro _)), e, ho, h => simp only [e] at h; exact h.elim
theorem sp_fldV (hK : X.K = Y.K) {i : Nat} {x f : Str} {Cs : List Str} (hN : X.N[i]? = some x) (hv : Vis X.env.scope x) (hd : (x == ("__debug__" : Str)) = false) (hcd : (x == ("__classdict__" : Str)) = false) (hC : FldOk Y f Cs) :
    PE X (.Attribute (.Name x p) f pos) (tEvP Y (fun ρ => pk (.fldV i f Cs) (evE (.fldV i f Cs) ρ) ρ)) :=
  (pe_fld (pe_var hN hv hd hcd) rfl).imp fun σ H Q h => by
    obtain ⟨W, ρ, r, h⟩ := h
    dsimp only [pk] at h
    cases e : ρ[i]? with
    | none => simp only [e] at h; exact h.elim
    | some oo =>
      cases oo with
      | none => simp only [e] at h; exact h.elim
      | some o =>
        obtain ⟨v, hv, ho⟩ := r.slot i _ e
        match o, e, ho, h with
        | .ins C fs, e, ho, h =>
          simp only [e] at h
          by_cases c : C ∈ Cs
          · rw [if_pos c] at h
            obtain ⟨p0, dx, fvs, rfl, ow, hp, q⟩ := ho
            obtain ⟨c1, c2⟩ := hC C c
            cases z : fs.lookup f with
            | none => simp only [z] at h; exact h.elim
            | some y =>
              obtain ⟨w, ew, qw, t⟩ := q.lookI z
              simp only [z] at h
              refine ⟨_, hv, p0, _, dx, fvs, w, rfl, hp, by rw [hK]; exact c1, by rw [hK]; exact c2, ew, ?_⟩
              exact Post.now (R1 := RP Y) (a := O.f y) h r (.inr ⟨_, y, rfl, qw⟩)
          · rw [if_neg c] at h; exact h.elim
        | .f (.d (.ins C fs)), e, ho, h =>
          simp only [e] at h
          by_cases c : C ∈ Cs
          · rw [if_pos c] at h
            have ho' : Rep Y.K Y.ca W.G (.ins C fs) v := ho
            cases ho' with
            | ins h1 h2 =>
              obtain ⟨c1, c2⟩ := hC C c
              cases z : fs.lookup f with
              | none => simp only [z] at h; exact h.elim
              | some y =>
                obtain ⟨w, ew, qw⟩ := h2.look z
                simp only [z] at h
                exact ⟨_, hv, _, _, _, _, w, rfl, r.ok.g _ _ h1, by rw [hK]; exact c1, by rw [hK]; exact c2, ew, Post.now (R1 := RP Y) (a := O.f (.d y)) h r (.inl ⟨none, qw⟩)⟩
          · rw [if_neg c] at h; exact h.elim
        | .f (.lst _), e, ho, h => simp only [e] at h; exact h.elim
        | .f (.dct _), e, ho, h => simp only [e] at h; exact h.elim
        | .f (.d .non), e, ho, h => simp only [e] at h; exact h.elim
        | .f (.d (.bl _)), e, ho, h => simp only [e] at h; exact h.elim
        | .f (.d (.int _)), e, ho, h => simp only [e] at h; exact h.elim
        | .f (.d (.str _)), e, ho, h => simp only [e] at h; exact h.elim
        | .f (.d (.tup _)), e, ho, h => simp only [e] at h; exact h.elim
        | .f (.d (.lst _)), e, ho, h => simp only [e] at h; exact h.elim
        | .f (.d (.dct _)), e, ho, h => simp only [e] at h; exact h.elim
        | .f (.d (.ro _)), e, ho, h => simp only [e] at h; exact h.elim
theorem se_fld (hK : X.K = Y.K) {f : Str} {Cs : List Str} (ha : PE X ea (tEv Y (evE a))) (hb : attributeBase ea f X.env (eval ea X.env) = eval ea X.env) (hC : FldOk Y f Cs) : PE X (.Attribute ea f pos) (tEv Y (evE (.fld a f Cs))) :=
  (pe_fld ha hb).imp fun σ H Q h => by
    obtain ⟨W, ρ, r, h⟩ := h
    rw [evE] at h
    refine goE r h fun o1 ρ1 x W1 H1 e1 r1 q1 p1 => ?_
    cases z : o1.fz with
    | ins C fs =>
      simp only [z] at p1 q1
      by_cases c : C ∈ Cs
      · rw [if_pos c] at p1
        cases q1 with
        | ins h1 h2 =>
          obtain ⟨c1, c2⟩ := hC C c
          cases w : fs.lookup f with
          | none => simp only [w] at p1; exact p1.elim
          | some y =>
            obtain ⟨u, eu, qu⟩ := h2.look w
            simp only [w] at p1
            exact ⟨_, _, _, _, u, rfl, r1.ok.g _ _ h1, by rw [hK]; exact c1, by rw [hK]; exact c2, eu, Post.now (a := O.f (.d y)) p1 r1 qu⟩
      · rw [if_neg c] at p1; exact p1.elim
    | _ => simp only [z] at p1; exact p1.elim
end

/-! ### calls -/
/-- a function that stands in the module under a name -/
def FunOk (Y : Cy) (X : Cx) (lv : Nat) (x : Str) (fn : Fn) : Prop :=
  ∃ (f : Addr) (fd : FuncData) (ps : List Str), FnOk X.prog X.w X.K X.mg X.base (L2.CX X.prog X.w) lv f fd ps (spD Y.K Y.ca fn) ∧ X.mg x = some (.ref f) ∧ PySem.W.keepIn X.K (.ref f) = true ∧ Binds X.K fd ps []
/-- a method of a class -/
def MthOk (Y : Cy) (X : Cx) (lv : Nat) (C m : Str) (fn : Fn) : Prop :=
  ∃ (f : Addr) (fd : FuncData) (ps : List Str), FnOk X.prog X.w X.K X.mg X.base (L2.CX X.prog X.w) lv f fd ps (spD Y.K Y.ca fn) ∧ Cls X.K (Y.ca C) ∧ Meth X.K (Y.ca C) m f ∧ Binds X.K fd ps []
/-- a class that is made by its own __init__ -/
def MkOk (Y : Cy) (X : Cx) (lv : Nat) (C : Str) (fn : Fn) : Prop :=
  ∃ (f : Addr) (fd : FuncData) (ps : List Str), FnOk X.prog X.w X.K X.mg X.base (L2.CX X.prog X.w) lv f fd ps (spD Y.K Y.ca fn) ∧ Mk X.K (Y.ca C) f ∧ X.mg C = some (.ref (Y.ca C)) ∧ Binds X.K fd ps []
section
variable {X : Cx} {Y : Cy} {pos p apos : Pos} {ea eo : Expr} {es : List Expr} {a o : IE} {as : List IE}
theorem argE_io {i : Nat} {r : M O} {ρ : Env} {σ : L2.St} {W : Wd} {H : Hp} {γ δ : Type} {R2 : Wd → Hp → γ → δ → Prop} {Q2 : δ → Hp → Prop} {f : Arg → Env → M γ} (hr : Rel Y W ρ σ H) (h : Post Y W σ R2 Q2 ((argE true (.var i) r ρ).bind f)) : ∃ v, σ[i]? = some (some v) ∧ Post Y W σ R2 Q2 (f (.io i) ρ) := by
  dsimp only [argE] at h
  cases e : ρ[i]? with
  | none => simp only [e] at h; exact h.elim
  | some oo =>
    cases oo with
    | none => simp only [e] at h; exact h.elim
    | some o =>
      simp only [e] at h
      obtain ⟨v, hv, _⟩ := hr.slot i _ e
      exact ⟨v, hv, h⟩
/-- the reading of one argument -/
def tArg (Y : Cy) (b : Bool) (a : IE) : TE := fun σ H Q => ∃ W ρ, Rel Y W ρ σ H ∧ Post Y W σ (fun W _ x v => ArgR Y σ W x v) Q (argE b a (evE a ρ) ρ)
theorem sg_io {i : Nat} {x : Str} (hN : X.N[i]? = some x) (hv : Vis X.env.scope x) (hd : (x == ("__debug__" : Str)) = false) (hcd : (x == ("__classdict__" : Str)) = false) : PE X (.Name x p) (tArg Y true (.var i)) :=
  (pe_var hN hv hd hcd).imp fun σ H Q h => by
    obtain ⟨W, ρ, r, h⟩ := h
    dsimp only [argE] at h
    cases e : ρ[i]? with
    | none => simp only [e] at h; exact h.elim
    | some oo =>
      cases oo with
      | none => simp only [e] at h; exact h.elim
      | some o =>
        simp only [e] at h
        obtain ⟨v, hv, _⟩ := r.slot i _ e
        exact ⟨v, hv, Post.now (R1 := fun W _ x v => ArgR Y σ W x v) (a := Arg.io i) h r (.io hv)⟩
theorem sg_v {b : Bool} (ha : PE X ea (tEv Y (evE a))) (hb : ∀ r ρ, argE b a r ρ = r.bind fun x ρ => ok (.v x.fz) ρ) : PE X ea (tArg Y b a) :=
  ha.imp fun σ H Q h => by
    obtain ⟨W, ρ, r, h⟩ := h
    rw [hb] at h
    exact goE r h fun o1 ρ1 x W1 H1 e1 r1 q1 p1 => Post.now (R1 := fun W _ x v => ArgR Y σ W x v) (a := Arg.v o1.fz) p1 r1 (.v q1)
theorem ArgR.ext {σ : L2.St} {W W' : Wd} (e : Ext W W') {x : Arg} {v : V} (h : ArgR Y σ W x v) : ArgR Y σ W' x v := by
  cases h with
  | v q => exact .v (q.mono e.g)
  | io q => exact .io q
theorem sas_nil {bs : List Bool} : PA X [] (tEvA Y (evAs bs [])) := pa_nil.imp fun σ H Q h => by
  obtain ⟨W, ρ, r, h⟩ := h
  cases bs with
  | nil => rw [evAs] at h; exact Post.now (R1 := RAs Y σ) (a := ([] : List Arg)) h r .nil
  | cons b bs => rw [evAs] at h; exact h.elim
theorem sas_cons {b : Bool} {bs : List Bool} (ha : PE X ea (tArg Y b a)) (hr : PA X es (tEvA Y (evAs bs as))) (hs : starEach (ea :: es) X.env = (false, eval ea X.env) :: starEach es X.env) : PA X (ea :: es) (tEvA Y (evAs (b :: bs) (a :: as))) :=
  (pa_cons ha hr hs).imp fun σ H Q h => by
    obtain ⟨W, ρ, r, h⟩ := h
    rw [evAs] at h
    exact ⟨W, ρ, r, Post.bind h fun x ρ1 v W1 H1 e1 r1 q1 p1 => ⟨W1, ρ1, r1, Post.bind p1 fun xs ρ2 vs W2 H2 e2 r2 q2 p2 => Post.now (R1 := RAs Y σ) p2 r2 (.cons (q1.ext e2) q2)⟩⟩
theorem se_call {lv : Nat} {x : Str} {fn : Fn} (F : FunOk Y X lv x fn) (hr : Room lv X.A) (tk : Takes X Y.Wx) (hg : Gl X x) (ha : PA X (ea :: es) (tEvA Y (evAs fn.io as))) (hd : (x == ("__debug__" : Str)) = false)
    (he : starEach (ea :: es) X.env = (false, eval ea X.env) :: starEach es X.env) (hpl : (backTo pos (starEach es X.env)).any (·.1) = false) : PE X (.Call (.Name x p) (ea :: es) [] pos) (tEv Y (evE (.call fn as))) := by
  obtain ⟨f, fd, ps, F, hm, hk, hb⟩ := F
  refine (pe_callS (E := fun σ => WE Y.Wx σ) F hr hg hm hk hb (fun σ => passAt tk σ) ha hd he hpl).imp fun σ H Q h => ?_
  obtain ⟨W, ρ, r, h⟩ := h
  rw [evE] at h
  exact ⟨W, ρ, r, Post.bind h fun xs ρ1 vs W1 H1 e1 r1 q1 p1 => call_ok r1 q1 p1⟩
theorem se_call0 {lv : Nat} {x : Str} {fn : Fn} (F : FunOk Y X lv x fn) (hr : Room lv X.A) (tk : Takes X Y.Wx) (hg : Gl X x) (hd : (x == ("__debug__" : Str)) = false) : PE X (.Call (.Name x p) [] [] pos) (tEv Y (evE (.call fn []))) := by
  obtain ⟨f, fd, ps, F, hm, hk, hb⟩ := F
  refine ⟨fun pins s σ H Q I h => wpAny_Call_Name_kw (ld_glob I hg hm ?_ hd)⟩
  obtain ⟨W, ρ, r, h⟩ := h
  rw [evE] at h
  have h2 : spD Y.K Y.ca fn [] H Q (WE Y.Wx σ) := by
    cases z : fn.io with
    | nil =>
      rw [z, evAs] at h
      exact call_ok (as := []) r .nil h
    | cons b bs => rw [z, evAs] at h; exact h.elim
  exact PySem.W.callWith_K0 I.kIn hk (run_fnS (us := []) F hr hb (passAt tk σ) I .nil h2)
/-! methods -/
theorem pe_mthS {CX : CXT} {k : Nat} {f C : Addr} {fd : FuncData} {ps : List Str} {sp : Sp} {E : L2.St → XK} {m : Str} {ta : TE} {t : TA} {pl : Sem Bool} (he : PE X eo ta) (c : Cls X.K C) (hm : Meth X.K C m f) (F : FnOk X.prog X.w X.K X.mg X.base CX k f fd ps sp) (hr : Room k X.A) (hb : Binds X.K fd ps []) (hx : ∀ σ, PassesAt CX X σ (E σ)) (ha : PA X (ea :: es) t)
    (hst : starEach (ea :: es) X.env = (false, eval ea X.env) :: starEach es X.env) (hpl : (backTo pos (starEach es X.env)).any (·.1) = false)
    (ht : eval (.Call (.Attribute eo m apos) (ea :: es) [] pos) X.env = (do
      let ov ← eval eo X.env
      standAt apos.atName
      let (f, first) ← holding [ov] (getMethod ov m pl)
      callWith pos f first (backTo pos (starEach (ea :: es) X.env)) (backToKw pos (keywordEach [] X.env)))) :
    PE X (.Call (.Attribute eo m apos) (ea :: es) [] pos) (fun σ H Q => ta σ H fun x H1 => ∃ a dx fs, x = .ref a ∧ H1 a = some (.ins C dx fs) ∧ fs.lookup m = none ∧ t σ H1 fun vs H2 => sp (x :: vs) H2 Q (E σ)) := by
  refine ⟨fun pins s σ H Q I h => PySem.W.methodCall_KW (pl := pl) (thn (he.run pins s σ H _ I h) fun u s1 ⟨x, H1, I1, rx, a, dx, fs, ex, ea', l, q⟩ => ?_) ht⟩
  subst ex
  have hu : u = Value.ref a := rx
  subst hu
  refine getmeth_ok I1 ea' c hm l (PySem.W.callWith_K (first := [.ref a]) (h₀ := X.base) I.ok.mod.kin hm.kp (thn (ha.run pos pins s1 σ H1 _ I1 q) fun us s2 ⟨vs, H2, I2, r, q2⟩ => ⟨I2.kIn, ?_⟩) hst hpl)
  exact run_fnS (us := .ref a :: us) (vs := .ref a :: vs) F hr hb (hx σ) I2 (.cons rfl r) q2
theorem pe_mthS0 {CX : CXT} {k : Nat} {f C : Addr} {fd : FuncData} {ps : List Str} {sp : Sp} {E : L2.St → XK} {m : Str} {ta : TE} {pl : Sem Bool} (he : PE X eo ta) (c : Cls X.K C) (hm : Meth X.K C m f) (F : FnOk X.prog X.w X.K X.mg X.base CX k f fd ps sp) (hr : Room k X.A) (hb : Binds X.K fd ps []) (hx : ∀ σ, PassesAt CX X σ (E σ))
    (ht : eval (.Call (.Attribute eo m apos) [] [] pos) X.env = (do
      let ov ← eval eo X.env
      standAt apos.atName
      let (f, first) ← holding [ov] (getMethod ov m pl)
      callWith pos f first (backTo pos (starEach [] X.env)) (backToKw pos (keywordEach [] X.env)))) :
    PE X (.Call (.Attribute eo m apos) [] [] pos) (fun σ H Q => ta σ H fun x H1 => ∃ a dx fs, x = .ref a ∧ H1 a = some (.ins C dx fs) ∧ fs.lookup m = none ∧ sp [x] H1 Q (E σ)) := by
  refine ⟨fun pins s σ H Q I h => PySem.W.methodCall_KW (pl := pl) (thn (he.run pins s σ H _ I h) fun u s1 ⟨x, H1, I1, rx, a, dx, fs, ex, ea', l, q⟩ => ?_) ht⟩
  subst ex
  have hu : u = Value.ref a := rx
  subst hu
  refine getmeth_ok I1 ea' c hm l (PySem.W.callWith_K0 (first := [.ref a]) I1.kIn hm.kp ?_)
  exact run_fnS (us := [.ref a]) (vs := [.ref a]) F hr hb (hx σ) I1 (.cons rfl .nil) q
/-- the receiver stands as an instance of its class -/
theorem isIns_rep {C m : Str} {x : Arg} {ρ : Env} {σ : L2.St} {W : Wd} {H : Hp} {v : V} (r : Rel Y W ρ σ H) (q : ArgR Y σ W x v) (h : x.isIns C m ρ = true) : ∃ a dx fs, v = .ref a ∧ H a = some (.ins (Y.ca C) dx fs) ∧ fs.lookup m = none := by
  cases q with
  | @v y v q =>
    cases y with
    | ins C' fs =>
      have h' : (decide (C' = C) && (fs.lookup m).isNone) = true := h
      rw [Bool.and_eq_true, decide_eq_true_eq] at h'
      obtain ⟨rfl, h2⟩ := h'
      cases q with
      | ins h1 h3 => exact ⟨_, _, _, rfl, r.ok.g _ _ h1, h3.none (Option.isNone_iff_eq_none.mp h2)⟩
    | _ => cases h
  | @io i v hv =>
    have h' : (match ρ[i]? with
      | some (some (.ins C' fs)) => decide (C' = C) && (fs.lookup m).isNone
      | some (some (.f (.d (.ins C' fs)))) => decide (C' = C) && (fs.lookup m).isNone
      | _ => false) = true := h
    cases e : ρ[i]? with
    | none => rw [e] at h'; cases h'
    | some oo =>
      cases oo with
      | none => rw [e] at h'; cases h'
      | some o =>
        obtain ⟨v', hv', ho⟩ := r.slot i _ e
        rw [hv] at hv'; cases hv'
        rw [e] at h'
        match o, ho, h' with
        | .ins C' fs, ho, h' =>
          rw [Bool.and_eq_true, decide_eq_true_eq] at h'
          obtain ⟨rfl, h2⟩ := h'
          obtain ⟨p0, dx, fvs, rfl, ow, hp, q⟩ := ho
          exact ⟨_, _, _, rfl, hp, q.lookN (Option.isNone_iff_eq_none.mp h2)⟩
        | .f (.d (.ins C' fs)), ho, h' =>
          rw [Bool.and_eq_true, decide_eq_true_eq] at h'
          obtain ⟨rfl, h2⟩ := h'
          have ho' : Rep Y.K Y.ca W.G (.ins C' fs) v := ho
          cases ho' with
          | ins h1 h3 => exact ⟨_, _, _, rfl, r.ok.g _ _ h1, h3.none (Option.isNone_iff_eq_none.mp h2)⟩
theorem se_mth {lv : Nat} {C m : Str} {fn : Fn} {pl : Sem Bool} {b : Bool} {bs : List Bool} (hio : fn.io = b :: bs) (F : MthOk Y X lv C m fn) (hr : Room lv X.A) (tk : Takes X Y.Wx) (ho : PE X eo (tArg Y b o)) (ha : PA X (ea :: es) (tEvA Y (evAs bs as)))
    (hst : starEach (ea :: es) X.env = (false, eval ea X.env) :: starEach es X.env) (hpl : (backTo pos (starEach es X.env)).any (·.1) = false)
    (ht : eval (.Call (.Attribute eo m apos) (ea :: es) [] pos) X.env = (do
      let ov ← eval eo X.env
      standAt apos.atName
      let (f, first) ← holding [ov] (getMethod ov m pl)
      callWith pos f first (backTo pos (starEach (ea :: es) X.env)) (backToKw pos (keywordEach [] X.env)))) :
    PE X (.Call (.Attribute eo m apos) (ea :: es) [] pos) (tEv Y (evE (.mth C m fn o as))) := by
  obtain ⟨f, fd, ps, F, hc, hm, hb⟩ := F
  refine (pe_mthS (E := fun σ => WE Y.Wx σ) ho hc hm F hr hb (fun σ => passAt tk σ) ha hst hpl ht).imp fun σ H Q h => ?_
  obtain ⟨W, ρ, r, h⟩ := h
  rw [evE, hio] at h
  refine ⟨W, ρ, r, Post.bind h fun x ρ1 v W1 H1 e1 r1 q1 p1 => ?_⟩
  by_cases c : x.isIns C m ρ1 = true
  · rw [if_pos c] at p1
    obtain ⟨a0, dx, fs, e2, e3, e4⟩ := isIns_rep r1 q1 c
    refine ⟨a0, dx, fs, e2, e3, e4, W1, ρ1, r1, Post.bind p1 fun xs ρ2 vs W2 H2 e2 r2 q2 p2 => call_ok r2 (.cons (q1.ext e2) q2) p2⟩
  · rw [if_neg c] at p1; exact p1.elim
theorem se_mth0 {lv : Nat} {C m : Str} {fn : Fn} {pl : Sem Bool} {b : Bool} {bs : List Bool} (hio : fn.io = b :: bs) (F : MthOk Y X lv C m fn) (hr : Room lv X.A) (tk : Takes X Y.Wx) (ho : PE X eo (tArg Y b o))
    (ht : eval (.Call (.Attribute eo m apos) [] [] pos) X.env = (do
      let ov ← eval eo X.env
      standAt apos.atName
      let (f, first) ← holding [ov] (getMethod ov m pl)
      callWith pos f first (backTo pos (starEach [] X.env)) (backToKw pos (keywordEach [] X.env)))) :
    PE X (.Call (.Attribute eo m apos) [] [] pos) (tEv Y (evE (.mth C m fn o []))) := by
  obtain ⟨f, fd, ps, F, hc, hm, hb⟩ := F
  refine (pe_mthS0 (E := fun σ => WE Y.Wx σ) ho hc hm F hr hb (fun σ => passAt tk σ) ht).imp fun σ H Q h => ?_
  obtain ⟨W, ρ, r, h⟩ := h
  rw [evE, hio] at h
  refine ⟨W, ρ, r, Post.bind h fun x ρ1 v W1 H1 e1 r1 q1 p1 => ?_⟩
  by_cases c : x.isIns C m ρ1 = true
  · rw [if_pos c] at p1
    obtain ⟨a0, dx, fs, e2, e3, e4⟩ := isIns_rep r1 q1 c
    refine ⟨a0, dx, fs, e2, e3, e4, ?_⟩
    cases bs with
    | nil =>
      rw [List.tail_cons, evAs] at p1
      exact call_ok (as := [x]) r1 (.cons q1 .nil) p1
    | cons b' bs => rw [List.tail_cons, evAs] at p1; exact p1.elim
  · rw [if_neg c] at p1; exact p1.elim
/-! a new instance -/
theorem Wok.add {W : Wd} {H : Hp} {p : Addr} {ho : HO} (ok : Wok W H) (hp : H p = none) : Wok W (upd H p ho) := by
  have ne : ∀ b u, H b = some u → b ≠ p := fun b u e z => by rw [z, hp] at e; cases e
  refine ⟨fun b u e => ?_, fun b u e => ?_, ok.gb, fun b l e => ?_⟩
  · rw [upd_ne (ne _ _ (ok.g b u e))]; exact ok.g b u e
  · rw [upd_ne (ne _ _ (ok.b b u e))]; exact ok.b b u e
  · obtain ⟨h1, h2, u, h3⟩ := ok.own b l e
    exact ⟨h1, h2, u, by rw [upd_ne (ne _ _ h3)]; exact h3⟩
def handN : Lb → Option Lb
  | (none, j) => some (some 0, j)
  | (some _, _) => none
def backN : Lb → Option Lb
  | (some 0, j) => some (none, j)
  | _ => none
theorem repAs_plain {W : Wd} {H : Hp} : ∀ {xs : List D} {vs : List V} {k : Nat}, RepL Y.K Y.ca W.G xs vs → RepAs Y.K Y.ca W H k (List.replicate xs.length false) (xs.map fun x => O.f (.d x)) vs
  | _, _, _, .nil => trivial
  | _, _, k, .cons a b => ⟨⟨_, rfl, a⟩, repAs_plain b⟩
theorem repIs_plain {W : Wd} {H : Hp} : ∀ {n k : Nat} {ios : List O} {vs : List V}, vs.length = n → RepIs Y.K Y.ca W H k (List.replicate n false) ios vs → ios = []
  | 0, _, _, _, _, h => h
  | n + 1, k, ios, v :: vs, e, h => repIs_plain (n := n) (vs := vs) (Nat.succ.inj e) h
  | n + 1, k, ios, [], e, h => by cases e
theorem mk_ok {fn : Fn} {C : Str} {xs : List D} {vs : List V} {W : Wd} {ρ : Env} {σ : L2.St} {H : Hp} {Q : VK} (r : Rel Y W ρ σ H) (q : RepL Y.K Y.ca W.G xs vs) (h : Post Y W σ (RO Y) Q (mkF C fn xs ρ)) (x dx : Addr) (hx : H x = none) (hdx : H dx = none) (hne : dx ≠ x) :
    spD Y.K Y.ca fn (.ref x :: vs) (upd (upd H dx (.own x)) x (.ins (Y.ca C) dx [])) (fun v H2 => v = .non ∧ Q (.ref x) H2) (WE Y.Wx σ) := by
  unfold mkF at h
  by_cases hio : fn.io = true :: List.replicate xs.length false
  · rw [if_pos hio] at h
    have hx' : (upd H dx (.own x)) x = none := by rw [upd_ne (Ne.symm hne)]; exact hx
    have r1 : Rel Y W ρ σ (upd H dx (.own x)) := r.same (r.ok.add hdx) (Same.refl _) fun b i j q => ⟨q, upd_ne (ow_ne r.ok hdx q)⟩
    have r2 : Rel Y (W.addO x (none, 0)) ρ σ (upd (upd H dx (.own x)) x (.ins (Y.ca C) dx [])) := r1.newO hx'
    have hw : (W.addO x (none, 0)).Ow x = some (none, 0) := by show (if x = x then _ else _) = _; rw [if_pos rfl]
    refine ⟨wIn (W.addO x (none, 0)) _ handN, .ins C [] :: xs.map fun x => .f (.d x), wIn_ok r2.ok, ?_, ?_⟩
    · rw [hio]
      refine ⟨?_, repAs_plain q⟩
      rw [if_pos rfl]
      exact ⟨x, dx, [], rfl, by show ((W.addO x (none, 0)).Ow x).bind handN = _; rw [hw]; rfl, upd_same, trivial⟩
    · have fin : ∀ W' H', Ext (wIn (W.addO x (none, 0)) (upd (upd H dx (.own x)) x (.ins (Y.ca C) dx [])) handN) W' → Wok W' H' → Rel Y (wOut (W.addO x (none, 0)) W' handN backN) ρ σ H' := fun W' H' e ok' =>
        r2.same (wOut_ok r2.ok e ok') e.g fun b i j ow => wOut_kept r2.ok e ok' ow rfl
      cases z : fn.run (.ins C [] :: xs.map fun x => .f (.d x)) with
      | none => simp only [z] at h; exact h.elim
      | some rf =>
        cases rf with
        | exc y ios =>
          simp only [z] at h
          exact fun cls d W' H' e ok' hi hy => (h.ext ext_addO) cls d _ H' (wOut_ext e) (fin W' H' e ok') hy
        | ret rr ios =>
          match rr, ios, z, h with
          | .f (.d .non), [o], z, h =>
            simp only [z] at h
            intro v' W' H' e ok' hi hr
            rw [hio] at hi
            have hr' : Rep Y.K Y.ca W'.G .non v' := hr
            cases hr'
            refine ⟨rfl, (Post.ext (m := ok o ρ) h ext_addO) (.ref x) _ H' (wOut_ext e) (fin W' H' e ok') ?_⟩
            exact hi.1.mono (Same.refl _) fun b j ow => ⟨by rw [wOut_back r2.ok e ok' ow]; rfl, rfl⟩
          | .ins _ _, _, z, h => simp only [z] at h; exact h.elim
          | .f (.lst _), _, z, h => simp only [z] at h; exact h.elim
          | .f (.dct _), _, z, h => simp only [z] at h; exact h.elim
          | .f (.d (.bl _)), _, z, h => simp only [z] at h; exact h.elim
          | .f (.d (.int _)), _, z, h => simp only [z] at h; exact h.elim
          | .f (.d (.str _)), _, z, h => simp only [z] at h; exact h.elim
          | .f (.d (.tup _)), _, z, h => simp only [z] at h; exact h.elim
          | .f (.d (.lst _)), _, z, h => simp only [z] at h; exact h.elim
          | .f (.d (.dct _)), _, z, h => simp only [z] at h; exact h.elim
          | .f (.d (.ro _)), _, z, h => simp only [z] at h; exact h.elim
          | .f (.d (.ins _ _)), _, z, h => simp only [z] at h; exact h.elim
          | .f (.d .non), [], z, h => simp only [z] at h; exact h.elim
          | .f (.d .non), _ :: _ :: _, z, h => simp only [z] at h; exact h.elim
  · rw [if_neg hio] at h; exact h.elim
theorem run_makeS {CX : CXT} {k : Nat} {f C : Addr} {fd : FuncData} {ps : List Str} {sp : Sp} {E : XK} {pins : List (Addr × Obj)} {σ : L2.St} {H : Hp} {s : Shared} {Q : VK} {us : List Value} {vs : List V} (M : Mk X.K C f) (F : FnOk X.prog X.w X.K X.mg X.base CX k f fd ps sp) (hr : Room (k + 1) X.A) (hb : Binds X.K fd ps [])
    (hx : PassesAt CX X σ E) (I : L2.Inv X pins σ H s) (r : Vals vs us)
    (h : ∀ x dx, H x = none → H dx = none → dx ≠ x → sp (.ref x :: vs) (upd (upd H dx (.own x)) x (.ins C dx [])) (fun v H2 => v = .non ∧ Q (.ref x) H2) E) :
    wpAny (model X.prog X.w) X.A (call (.ref C) us) (EP X pins σ Q) X.xe s := by
  have q := h (s.heap.objs.size + 1) s.heap.objs.size (I.hok.fresh (Nat.le_succ _)) (I.hok.fresh (Nat.le_refl _)) (Nat.ne_of_lt (Nat.lt_succ_self _))
  have J := Inv.made (C := C) I
  have rr : Vals (V.ref (s.heap.objs.size + 1) :: vs) (Value.ref (s.heap.objs.size + 1) :: us) := .cons rfl r
  have hl : (Value.ref (s.heap.objs.size + 1) :: us ++ []).length = ps.length := by
    rw [List.append_nil, ← rr.length]; exact F.len _ _ _ _ q
  have bnd := hb _ (Value.ref (s.heap.objs.size + 1) :: us) J.kIn hl
  rw [List.append_nil] at bnd
  have body := F.run _ X.stack _ _ ⟨Value.ref (s.heap.objs.size + 1) :: us, []⟩ (Value.ref (s.heap.objs.size + 1) :: us) _ _ E (hr.make C us []) (J.env0.make C us []) bnd rr q
  refine wpAny_call (make_map (f := f) I.kIn M.makes M.init (beq_iff_eq.mp M.fn) (codeAny_mono body fun res s' c => ?_))
  match res, c with
  | .error e, c => exact hx pins _ _ e s' J c
  | .ok (.ret u), c =>
    obtain ⟨v, H', J', rv, ev, q'⟩ := J.after c
    subst ev
    exact ⟨rv, V.ref (s.heap.objs.size + 1), H', J', rfl, q'⟩
  | .ok .next, c => exact c.elim
  | .ok .brk, c => exact c.elim
  | .ok .cont, c => exact c.elim
theorem se_mk {lv : Nat} {C : Str} {fn : Fn} (F : MkOk Y X lv C fn) (hr : Room (lv + 1) X.A) (tk : Takes X Y.Wx) (hg : Gl X C) (ha : PA X (ea :: es) (tEvs Y (evEs as))) (hd : (C == ("__debug__" : Str)) = false)
    (he : starEach (ea :: es) X.env = (false, eval ea X.env) :: starEach es X.env) (hpl : (backTo pos (starEach es X.env)).any (·.1) = false) : PE X (.Call (.Name C p) (ea :: es) [] pos) (tEv Y (evE (.mk C fn as))) := by
  obtain ⟨f, fd, ps, F, M, hm, hb⟩ := F
  refine ⟨fun pins s σ H Q I h => wpAny_Call_Name_kw (ld_glob I hg hm ?_ hd)⟩
  obtain ⟨W, ρ, r, h⟩ := h
  rw [evE] at h
  refine PySem.W.callWith_K (h₀ := X.base) I.ok.mod.kin M.kp (thn (ha.run pos pins s σ H (fun vs H1 => ∀ x dx, H1 x = none → H1 dx = none → dx ≠ x → spD Y.K Y.ca fn (.ref x :: vs) (upd (upd H1 dx (.own x)) x (.ins (Y.ca C) dx [])) (fun v H2 => v = .non ∧ Q (.ref x) H2) (WE Y.Wx σ)) I ⟨W, ρ, r, Post.bind h fun xs ρ1 vs W1 H1 e1 r1 q1 p1 => mk_ok r1 q1 p1⟩) fun us s1 ⟨vs, H1, I1, r1, q⟩ => ⟨I1.kIn, ?_⟩) he hpl
  exact run_makeS M F hr hb (passAt tk σ) I1 r1 q
theorem se_mk0 {lv : Nat} {C : Str} {fn : Fn} (F : MkOk Y X lv C fn) (hr : Room (lv + 1) X.A) (tk : Takes X Y.Wx) (hg : Gl X C) (hd : (C == ("__debug__" : Str)) = false) : PE X (.Call (.Name C p) [] [] pos) (tEv Y (evE (.mk C fn []))) := by
  obtain ⟨f, fd, ps, F, M, hm, hb⟩ := F
  refine ⟨fun pins s σ H Q I h => wpAny_Call_Name_kw (ld_glob I hg hm ?_ hd)⟩
  obtain ⟨W, ρ, r, h⟩ := h
  rw [evE, evEs] at h
  exact PySem.W.callWith_K0 I.kIn M.kp (run_makeS (us := []) M F hr hb (passAt tk σ) I .nil (mk_ok r .nil h))
end

/-! ### what is walked -/
structure IterOk (Y : Cy) (W : Wd) (J : It) (xs : List D) : Prop where
  go : ∀ i H, Same W.G H → i < xs.length → J.go i H
  stop : ∀ i H, Same W.G H → xs.length ≤ i → J.stop i H
  yld : ∀ i x H H', Same W.G H → i < xs.length → J.yld i H x H' → ∃ d, xs[i]? = some d ∧ ∀ W1 ρ σ, Same W.G W1.G → Rel Y W1 ρ σ H → ∃ W2, Ext W1 W2 ∧ Rel Y W2 ρ σ H' ∧ Rep Y.K Y.ca W2.G d x
def tEvI (Y : Cy) (m : Env → M (List D)) : TI := fun σ H R => ∃ W ρ, Rel Y W ρ σ H ∧ Post Y W σ (fun W' _ xs J => IterOk Y W' J xs) R (m ρ)
theorem _root_.L2.PI.imp {X : Cx} {tg e : Expr} {t t' : TI} (h : PI X tg e t) (i : ∀ σ H Q, t' σ H Q → t σ H Q) : PI X tg e t' := ⟨fun pins s σ H R I w => h.run pins s σ H R I (i σ H R w)⟩
section
variable {X : Cx} {Y : Cy} {pos p : Pos} {ea tg : Expr} {a : IE}
/-- a list, a tuple, a text, whichever it is -/
theorem pi_any {t : TE} (he : PE X ea t) : PI X tg ea (fun σ H R => t σ H fun x H1 => (∃ q vs, x = .ref q ∧ SqL X.K H1 q vs ∧ R (Itl X.K q) H1) ∨ (∃ q vs, x = .ref q ∧ SqT X.K H1 q vs ∧ R (Itt X.K q) H1) ∨ ∃ z, x = .str z ∧ R (Its z) H1) := by
  refine ⟨fun pins s σ H R I h => thn (he.run pins s σ H _ I h) fun v s1 ⟨x, H1, I1, r1, q1⟩ => ?_⟩
  have ne : ∀ b ∈ [s1.heap.objs.size], FpOk X pins H1 b := fun b hb => by
    rw [List.mem_singleton.mp hb]
    exact I1.fpOk (Nat.le_refl _) (I1.hok.fresh (Nat.le_refl _))
  rcases q1 with ⟨q, vs, rfl, hq, hR⟩ | ⟨q, vs, rfl, hq, hR⟩ | ⟨z, rfl, hR⟩
  · cases r1
    obtain ⟨its, _, pl, _⟩ := I1.list hq
    exact wpAny_pyIter_list pl.isList ⟨_, [s1.heap.objs.size], _, _, H1, rfl, I1.kept (t' := s1.toks) fun b o e => Heap.get?_push_of_some _ e, turn_list q _, ⟨_, Heap.get?_push_size _ rfl, rfl, rfl⟩, ne, hR⟩
  · cases r1
    obtain ⟨its, _, pl, _⟩ := I1.tuple hq
    exact wpAny_pyIter_tuple (show s1.heap.IsTuple q its.toArray from pl) ⟨_, [s1.heap.objs.size], _, _, H1, rfl, I1.kept (t' := s1.toks) fun b o e => Heap.get?_push_of_some _ e, turn_tuple q _, ⟨_, Heap.get?_push_size _ rfl, rfl, rfl⟩, ne, hR⟩
  · obtain ⟨t, rfl⟩ := r1
    cases wide : z.cps.all (· < 128)
    · exact wpAny_pyIter_wide wide (pi_one (tk := s1.toks) I1 _ (turn_str _ z t "str_iterator" (.inr rfl)) ⟨_, Heap.get?_push_size _ rfl, rfl, rfl⟩ hR)
    · exact wpAny_pyIter_ascii wide (pi_one (tk := s1.toks) I1 _ (turn_str _ z t "str_ascii_iterator" (.inl rfl)) ⟨_, Heap.get?_push_size _ rfl, rfl, rfl⟩ hR)
theorem iter_lst {W : Wd} {q : Addr} {vs : List V} {xs : List D} {K : PySem.W.Frag} (h : Rd W.G q (.lst vs)) (l : RepL Y.K Y.ca W.G xs vs) : IterOk Y W (Itl K q) xs where
  go := fun i H e hi => by
    have h' : SqL K H q vs := .inl (rd_mono e h)
    rw [l.length] at hi
    exact ⟨vs, vs[i], h', List.getElem?_eq_getElem hi⟩
  stop := fun i H e hi => ⟨vs, .inl (rd_mono e h), by rw [← l.length]; exact hi⟩
  yld := fun i x H H' e hi y => by
    obtain ⟨rfl, y⟩ := y
    have hx := y vs (.inl (rd_mono e h))
    refine ⟨xs[i], List.getElem?_eq_getElem hi, fun W1 ρ σ e1 r1 => ⟨W1, Ext.refl _, r1, ?_⟩⟩
    obtain ⟨u, hu, ru⟩ := (l.mono e1).at_ (List.getElem?_eq_getElem hi)
    rw [hx] at hu
    cases hu
    exact ru
theorem iter_tup {W : Wd} {q : Addr} {vs : List V} {xs : List D} (h : SqT Y.K W.G q vs) (l : RepL Y.K Y.ca W.G xs vs) : IterOk Y W (Itt Y.K q) xs where
  go := fun i H e hi => by
    rw [l.length] at hi
    exact ⟨vs, vs[i], sqT_mono e h, List.getElem?_eq_getElem hi⟩
  stop := fun i H e hi => ⟨vs, sqT_mono e h, by rw [← l.length]; exact hi⟩
  yld := fun i x H H' e hi y => by
    obtain ⟨rfl, y⟩ := y
    have hx := y vs (sqT_mono e h)
    refine ⟨xs[i], List.getElem?_eq_getElem hi, fun W1 ρ σ e1 r1 => ⟨W1, Ext.refl _, r1, ?_⟩⟩
    obtain ⟨u, hu, ru⟩ := (l.mono e1).at_ (List.getElem?_eq_getElem hi)
    rw [hx] at hu
    cases hu
    exact ru
theorem iter_ro {W : Wd} {q : Addr} {vs : List V} {xs : List D} (h : SqL Y.K W.G q vs) (l : RepL Y.K Y.ca W.G xs vs) : IterOk Y W (Itl Y.K q) xs where
  go := fun i H e hi => by
    rw [l.length] at hi
    exact ⟨vs, vs[i], sqL_mono e h, List.getElem?_eq_getElem hi⟩
  stop := fun i H e hi => ⟨vs, sqL_mono e h, by rw [← l.length]; exact hi⟩
  yld := fun i x H H' e hi y => by
    obtain ⟨rfl, y⟩ := y
    have hx := y vs (sqL_mono e h)
    refine ⟨xs[i], List.getElem?_eq_getElem hi, fun W1 ρ σ e1 r1 => ⟨W1, Ext.refl _, r1, ?_⟩⟩
    obtain ⟨u, hu, ru⟩ := (l.mono e1).at_ (List.getElem?_eq_getElem hi)
    rw [hx] at hu
    cases hu
    exact ru
theorem iter_str {W : Wd} {z : Str} : IterOk Y W (Its z) (signsD z) where
  go := fun i H e hi => by show i < z.cps.size; simpa [signsD] using hi
  stop := fun i H e hi => by show z.cps.size ≤ i; simpa [signsD] using hi
  yld := fun i x H H' e hi y => by
    obtain ⟨rfl, c, hc, rfl⟩ := y
    refine ⟨.str ⟨#[c]⟩, ?_, fun W1 ρ σ e1 r1 => ⟨W1, Ext.refl _, r1, .str _⟩⟩
    show (z.cps.toList.map _)[i]? = _
    rw [List.getElem?_map, Array.getElem?_toList, hc]; rfl
theorem iter_rng {W : Wd} {lo : Int} {n : Nat} : IterOk Y W (Itr lo n) (rngL lo n 1) where
  go := fun i H e hi => by show i < n; simpa [rngL] using hi
  stop := fun i H e hi => by show n ≤ i; simpa [rngL] using hi
  yld := fun i x H H' e hi y => by
    obtain ⟨rfl, rfl⟩ := y
    have hi' : i < n := by simpa [rngL] using hi
    refine ⟨.int (lo + i), ?_, fun W1 ρ σ e1 r1 => ⟨W1, Ext.refl _, r1, .int _⟩⟩
    show ((List.range n).map _)[i]? = _
    rw [List.getElem?_map, List.getElem?_range hi']
    simp
theorem iter_dn {W : Wd} {lo : Int} {n : Nat} : IterOk Y W (Itc lo (-1) n) (rngL lo n (-1)) where
  go := fun i H e hi => by show i < n; simpa [rngL] using hi
  stop := fun i H e hi => by show n ≤ i; simpa [rngL] using hi
  yld := fun i x H H' e hi y => by
    obtain ⟨rfl, rfl⟩ := y
    have hi' : i < n := by simpa [rngL] using hi
    refine ⟨.int (lo + (i : Nat) * (-1)), ?_, fun W1 ρ σ e1 r1 => ⟨W1, Ext.refl _, r1, .int _⟩⟩
    show ((List.range n).map _)[i]? = _
    rw [List.getElem?_map, List.getElem?_range hi']
    simp
theorem si_seq (hK : X.K = Y.K) (ha : PE X ea (tEv Y (evE a))) : PI X tg ea (tEvI Y (evI (.seq a))) :=
  (pi_any ha).imp fun σ H R h => by
    obtain ⟨W, ρ, r, h⟩ := h
    rw [evI] at h
    refine goE r h fun o1 ρ1 x W1 H1 e1 r1 q1 p1 => ?_
    cases z : o1.fz with
    | lst xs =>
      simp only [z] at p1 q1
      obtain ⟨q, vs, rfl, h1, h2⟩ := q1.lstD
      exact .inl ⟨q, vs, rfl, .inl (rd_mono r1.ok.g h1), Post.now (R1 := fun W' _ xs J => IterOk Y W' J xs) p1 r1 (iter_lst h1 h2)⟩
    | ro xs =>
      simp only [z] at p1 q1
      cases q1 with
      | ro h1 h2 => exact .inl ⟨_, _, rfl, by rw [hK]; exact sqL_mono r1.ok.g h1, Post.now (R1 := fun W' _ xs J => IterOk Y W' J xs) p1 r1 (by rw [hK]; exact iter_ro h1 h2)⟩
    | tup xs =>
      simp only [z] at p1 q1
      obtain ⟨q, vs, rfl, h1, h2⟩ := q1.tupD
      exact .inr (.inl ⟨q, vs, rfl, by rw [hK]; exact sqT_mono r1.ok.g h1, Post.now (R1 := fun W' _ xs J => IterOk Y W' J xs) p1 r1 (by rw [hK]; exact iter_tup h1 h2)⟩)
    | str y =>
      simp only [z] at p1 q1
      cases q1
      exact .inr (.inr ⟨y, rfl, Post.now (R1 := fun W' _ xs J => IterOk Y W' J xs) p1 r1 iter_str⟩)
    | _ => simp only [z] at p1; exact p1.elim
theorem small62_of {i : Int} (h : small62 i = true) : -(2 ^ 62) ≤ i ∧ i < 2 ^ 62 := by
  simp only [small62, Bool.and_eq_true, decide_eq_true_eq] at h
  exact h
variable {eb ec : Expr} {b c : IE}
theorem si_rng1 (hg : Gl X "range") (hm : X.mg "range" = none) (ha : PA X [ea] (tEvs Y (evEs [a]))) (hs : starEach [ea] X.env = [(false, eval ea X.env)]) : PI X tg (.Call (.Name "range" p) [ea] [] pos) (tEvI Y (evI (.rng 1 [a]))) :=
  (pi_range1 hg hm ha hs).imp fun σ H R h => by
    obtain ⟨W, ρ, r, h⟩ := h
    rw [evI] at h
    refine ⟨W, ρ, r, Post.bind h fun xs ρ1 vs W1 H1 e1 r1 q1 p1 => ?_⟩
    match xs, q1, p1 with
    | [.int j], q1, p1 =>
      have p2 : Post Y W1 σ (fun W' _ xs J => IterOk Y W' J xs) R (if small62 j = true then ok (rngL 0 j.toNat 1) ρ1 else none) := p1
      split at p2
      · rename_i hj
        obtain ⟨h1, h2⟩ := small62_of hj
        cases q1 with
        | cons a b =>
          cases a; cases b
          exact ⟨j, rfl, h1, h2, Post.now (R1 := fun W' _ xs J => IterOk Y W' J xs) p2 r1 iter_rng⟩
      · exact p2.elim
theorem si_rng2 (hg : Gl X "range") (hm : X.mg "range" = none) (ha : PA X [ea, eb] (tEvs Y (evEs [a, b]))) (hs : starEach [ea, eb] X.env = [(false, eval ea X.env), (false, eval eb X.env)]) (hs2 : starEach [eb] X.env = [(false, eval eb X.env)]) : PI X tg (.Call (.Name "range" p) [ea, eb] [] pos) (tEvI Y (evI (.rng 2 [a, b]))) :=
  (pi_range2 hg hm ha hs hs2).imp fun σ H R h => by
    obtain ⟨W, ρ, r, h⟩ := h
    rw [evI] at h
    refine ⟨W, ρ, r, Post.bind h fun xs ρ1 vs W1 H1 e1 r1 q1 p1 => ?_⟩
    match xs, q1, p1 with
    | [.int i, .int j], q1, p1 =>
      have p2 : Post Y W1 σ (fun W' _ xs J => IterOk Y W' J xs) R (if small62 i = true ∧ small62 j = true then ok (rngL i (j - i).toNat 1) ρ1 else none) := p1
      split at p2
      · rename_i hj
        obtain ⟨h1, h2⟩ := small62_of hj.1
        obtain ⟨h3, h4⟩ := small62_of hj.2
        cases q1 with
        | cons a b =>
          cases b with
          | cons b c =>
            cases a; cases b; cases c
            exact ⟨i, j, rfl, ⟨h1, h2, h3, h4⟩, Post.now (R1 := fun W' _ xs J => IterOk Y W' J xs) p2 r1 iter_rng⟩
      · exact p2.elim
theorem si_rng3 (hg : Gl X "range") (hm : X.mg "range" = none) (ha : PA X [ea, eb, ec] (tEvs Y (evEs [a, b, c]))) (hs : starEach [ea, eb, ec] X.env = (false, eval ea X.env) :: starEach [eb, ec] X.env) (hpl : (backTo pos (starEach [eb, ec] X.env)).any (·.1) = false) : PI X tg (.Call (.Name "range" p) [ea, eb, ec] [] pos) (tEvI Y (evI (.rng 3 [a, b, c]))) :=
  (pi_range3 hg hm ha hs hpl).imp fun σ H R h => by
    obtain ⟨W, ρ, r, h⟩ := h
    rw [evI] at h
    refine ⟨W, ρ, r, Post.bind h fun xs ρ1 vs W1 H1 e1 r1 q1 p1 => ?_⟩
    match xs, q1, p1 with
    | [.int i, .int j, .int k], q1, p1 =>
      have p2 : Post Y W1 σ (fun W' _ xs J => IterOk Y W' J xs) R (if small62 i = true ∧ small62 j = true ∧ k = -1 then ok (rngL i (i - j).toNat (-1)) ρ1 else none) := p1
      split at p2
      · rename_i hj
        obtain ⟨h1, h2⟩ := small62_of hj.1
        obtain ⟨h3, h4⟩ := small62_of hj.2.1
        obtain rfl := hj.2.2
        cases q1 with
        | cons a b =>
          cases b with
          | cons b c =>
            cases c with
            | cons c d =>
              cases a; cases b; cases c; cases d
              exact ⟨i, j, -1, _, rfl, RgC.neg h1 h2 h3 h4, Post.now (R1 := fun W' _ xs J => IterOk Y W' J xs) p2 r1 iter_dn⟩
      · exact p2.elim
end
end Vm

set_option Elab.async false
set_option linter.all false
set_option maxRecDepth 100000
set_option maxHeartbeats 4000000
set_option autoImplicit false
/-! Vm, part H: targets, comprehensions. -/
namespace Vm
open PySem L2 PyProof.Rows

/-! ### targets -/
def Tgt.slots : Tgt → List Nat
  | .nm i => [i]
  | .tp is => is
/-- outside of some slots two rows of slots are alike -/
def Off (is : List Nat) (σ σ' : L2.St) : Prop := σ'.length = σ.length ∧ ∀ j, j ∉ is → σ'[j]? = σ[j]?
def gPut (Y : Cy) (t : Tgt) : TG := fun v σ H Q => ∃ W ρ d, Rel Y W ρ σ H ∧ Rep Y.K Y.ca W.G d v ∧ match t.put d ρ with
  | none => False
  | some ρ' => ∀ σ' W', Ext W W' → Rel Y W' ρ' σ' H → Off t.slots σ σ' → Q σ' H
def gPuts (Y : Cy) (is : List Nat) : TGs := fun vs σ H Q => ∃ W ρ xs, Rel Y W ρ σ H ∧ RepL Y.K Y.ca W.G xs vs ∧ match setAll is xs ρ with
  | none => False
  | some ρ' => ∀ σ' W', Ext W W' → Rel Y W' ρ' σ' H → Off is σ σ' → Q σ' H
theorem _root_.L2.PG.imp {X : Cx} {e : Expr} {t t' : TG} (h : PG X e t) (i : ∀ v σ H Q, t' v σ H Q → t v σ H Q) : PG X e t' := ⟨fun pins s σ H v u Q I r w => h.run pins s σ H v u Q I r (i v σ H Q w)⟩
theorem _root_.L2.PGs.imp {X : Cx} {e : List Expr} {t t' : TGs} (h : PGs X e t) (i : ∀ v σ H Q, t' v σ H Q → t v σ H Q) : PGs X e t' := ⟨fun pins s σ H v u Q I r w => h.run pins s σ H v u Q I r (i v σ H Q w)⟩
theorem Off.set {i : Nat} {is : List Nat} {σ : L2.St} {x : Option V} (h : i ∈ is) : Off is σ (σ.set i x) := ⟨List.length_set, fun j hj => List.getElem?_set_ne (by rintro rfl; exact hj h)⟩
theorem Off.refl {is : List Nat} {σ : L2.St} : Off is σ σ := ⟨rfl, fun _ _ => rfl⟩
theorem Off.trans {is : List Nat} {σ σ1 σ2 : L2.St} (a : Off is σ σ1) (b : Off is σ1 σ2) : Off is σ σ2 := ⟨b.1.trans a.1, fun j hj => (b.2 j hj).trans (a.2 j hj)⟩
theorem Off.mono {is js : List Nat} {σ σ1 : L2.St} (a : Off is σ σ1) (h : ∀ i ∈ is, i ∈ js) : Off js σ σ1 := ⟨a.1, fun j hj => a.2 j fun z => hj (h j z)⟩
section
variable {X : Cx} {Y : Cy} {pos : Pos}
def NoPin (Y : Cy) (i : Nat) : Prop := ∀ u, (i, u) ∉ Y.pins
theorem sg_nm {i : Nat} {x : Str} (hN : X.N.Nodup) (hi : X.N[i]? = some x) (hx : Loc X.env.scope x) (hf : X.fn x = true ∨ X.env.scope.names.lookup x = some .local) (hp : NoPin Y i) : PG X (.Name x pos) (gPut Y (.nm i)) :=
  (pg_name hN hi hx hf).imp fun v σ H Q h => by
    obtain ⟨W, ρ, d, r, q, h⟩ := h
    exact h _ _ ext_relab (r.storeD q hp) (Off.set (List.mem_singleton.mpr rfl))
theorem sgs_nil : PGs X [] (gPuts Y []) := pgs_nil.imp fun v σ H Q h => by
  obtain ⟨W, ρ, xs, r, q, h⟩ := h
  cases q with
  | nil => exact ⟨rfl, h σ W (Ext.refl _) r Off.refl⟩
  | cons a b => exact h.elim
theorem sgs_cons {i : Nat} {is : List Nat} {x : Str} {es : List Expr} (hN : X.N.Nodup) (hi : X.N[i]? = some x) (hx : Loc X.env.scope x) (hf : X.fn x = true ∨ X.env.scope.names.lookup x = some .local) (hp : NoPin Y i) (hr : PGs X es (gPuts Y is)) : PGs X (.Name x pos :: es) (gPuts Y (i :: is)) :=
  (pgs_cons (pg_name hN hi hx hf) hr rfl).imp fun v σ H Q h => by
    obtain ⟨W, ρ, xs, r, q, h⟩ := h
    cases q with
    | nil => exact h.elim
    | cons a b =>
      refine ⟨_, _, rfl, ?_⟩
      refine ⟨relab i W, _, _, r.storeD a hp, b, ?_⟩
      have h' : match setAll is _ (ρ.set i (some (.f (.d _)))) with
        | none => False
        | some ρ' => ∀ σ' W', Ext W W' → Rel Y W' ρ' σ' H → Off (i :: is) σ σ' → Q σ' H := h
      split
      · rename_i z; rw [z] at h'; exact h'
      · rename_i ρ' z
        rw [z] at h'
        exact fun σ' W' e r' o => h' σ' W' ⟨e.g, e.b⟩ r' ((Off.set List.mem_cons_self).trans (o.mono fun j hj => List.mem_cons_of_mem _ hj))
theorem sg_tp (hK : X.K = Y.K) (hc : X.calm = true) {is : List Nat} {es : List Expr} {k : Nat} (h : PGs X es (gPuts Y is)) (hn : (assignEach es X.env).length = is.length) (hst : (assignEach es X.env).findIdx? (·.1) = none) : PG X (.Tuple es k pos) (gPut Y (.tp is)) :=
  (pg_tup hc h hn hst).imp fun v σ H Q h => by
    obtain ⟨W, ρ, d, r, q, h⟩ := h
    cases d with
    | tup xs =>
      obtain ⟨p, vs, rfl, h1, h2⟩ := q.tupD
      have h' : match setAll is xs ρ with
        | none => False
        | some ρ' => ∀ σ' W', Ext W W' → Rel Y W' ρ' σ' H → Off is σ σ' → Q σ' H := h
      refine ⟨p, vs, rfl, by rw [hK]; exact sqT_mono r.ok.g h1, ?_, W, ρ, xs, r, h2, h'⟩
      have len : ∀ (is : List Nat) (xs : List D) (ρ : Env), setAll is xs ρ ≠ none → xs.length = is.length := by
        intro is
        induction is with
        | nil => intro xs ρ h; cases xs with
          | nil => rfl
          | cons a b => exact absurd rfl h
        | cons i is ih => intro xs ρ h; cases xs with
          | nil => exact absurd rfl h
          | cons a b => exact congrArg (· + 1) (ih b _ h)
      rw [← h2.length]
      refine len is xs ρ fun z => ?_
      rw [z] at h'; exact h'
    | _ => exact h.elim
end

/-! ### the slots of a comprehension -/
section
variable {Y : Cy} {W : Wd} {ρ : Env} {σ σ' : L2.St} {H : Hp}
theorem Rel.dropB (r : Rel Y W ρ σ H) (i : Nat) (hp : NoPin Y i) : Rel Y W (ρ.set i none) (σ.set i none) H := by
  refine ⟨r.ok, by rw [List.length_set, List.length_set]; exact r.len, fun j u h => ?_, fun j u h => ?_⟩
  · by_cases hj : j = i
    · subst hj
      by_cases hl : j < ρ.length
      · rw [List.getElem?_set_self hl] at h; cases h
      · rw [List.getElem?_eq_none (by rw [List.length_set]; omega)] at h; cases h
    · rw [List.getElem?_set_ne (Ne.symm hj)] at h
      rw [List.getElem?_set_ne (Ne.symm hj)]
      exact r.slot j u h
  · rw [List.getElem?_set_ne (by rintro rfl; exact hp u h)]
    exact r.pin j u h
theorem wipe_set_comm {i : Nat} : ∀ {vs : List Nat} {σ : L2.St}, wipe (σ.set i none) vs = (wipe σ vs).set i none
  | [], _ => rfl
  | v :: vs, σ => by
    show (wipe (σ.set i none) vs).set v none = ((wipe σ vs).set v none).set i none
    rw [wipe_set_comm (vs := vs)]
    by_cases h : i = v
    · subst h; rfl
    · rw [List.set_comm _ _ h]
theorem Rel.wipe : ∀ {own : List Nat} {ρ : Env} {σ : L2.St}, Rel Y W ρ σ H → (∀ i ∈ own, NoPin Y i) → Rel Y W (wipeE own ρ) (L2.wipe σ own) H
  | [], _, _, r, _ => r
  | i :: is, ρ, σ, r, hp => by
    show Rel Y W (wipeE is (ρ.set i none)) ((L2.wipe σ is).set i none) H
    rw [← wipe_set_comm]
    exact Rel.wipe (r.dropB i (hp i List.mem_cons_self)) fun j hj => hp j (List.mem_cons_of_mem _ hj)
theorem wipe_get {j : Nat} : ∀ {own : List Nat} {σ : L2.St}, (L2.wipe σ own)[j]? = if j ∈ own then (if j < σ.length then some none else none) else σ[j]?
  | [], σ => by simp [L2.wipe]
  | v :: vs, σ => by
    show ((L2.wipe σ vs).set v none)[j]? = _
    by_cases h : j = v
    · subst h
      rw [if_pos List.mem_cons_self]
      by_cases hl : j < σ.length
      · rw [if_pos hl, List.getElem?_set_self (by rw [wipe_length]; exact hl)]
      · rw [if_neg hl, List.getElem?_eq_none (by rw [List.length_set, wipe_length]; omega)]
    · rw [List.getElem?_set_ne (Ne.symm h), wipe_get (own := vs)]
      by_cases hm : j ∈ vs
      · rw [if_pos hm, if_pos (List.mem_cons_of_mem _ hm)]
      · rw [if_neg hm, if_neg (by simp [h, hm])]
/-- rows that are alike outside of own are alike where own is wiped -/
theorem wipe_off {own : List Nat} (h : Off own σ σ') : L2.wipe σ' own = L2.wipe σ own := by
  apply List.ext_getElem?
  intro j
  rw [wipe_get, wipe_get, h.1]
  by_cases hm : j ∈ own
  · rw [if_pos hm, if_pos hm]
  · rw [if_neg hm, if_neg hm, h.2 j hm]
theorem wipe_wipe {own : List Nat} : L2.wipe (L2.wipe σ own) own = L2.wipe σ own := by
  apply List.ext_getElem?
  intro j
  rw [wipe_get, wipe_length]
  by_cases hm : j ∈ own
  · rw [if_pos hm, wipe_get, if_pos hm]
  · rw [if_neg hm]
theorem backE_get {j : Nat} {ρ0 : Env} : ∀ {own : List Nat} {ρ : Env}, ρ.length = ρ0.length → (backE own ρ0 ρ)[j]? = if j ∈ own then (if j < ρ0.length then some (ρ0[j]?.join) else none) else ρ[j]?
  | [], ρ, _ => by simp [backE]
  | v :: vs, ρ, hl => by
    show (backE vs ρ0 (ρ.set v (ρ0[v]?.join)))[j]? = _
    rw [backE_get (own := vs) (by rw [List.length_set]; exact hl)]
    by_cases hm : j ∈ vs
    · rw [if_pos hm, if_pos (List.mem_cons_of_mem _ hm)]
    · rw [if_neg hm]
      by_cases h : j = v
      · subst h
        rw [if_pos List.mem_cons_self]
        by_cases hj : j < ρ0.length
        · rw [if_pos hj, List.getElem?_set_self (by omega)]
        · rw [if_neg hj, List.getElem?_eq_none (by rw [List.length_set]; omega)]
      · rw [List.getElem?_set_ne (Ne.symm h), if_neg (by simp [h, hm])]
theorem backE_len {ρ0 : Env} : ∀ {own : List Nat} {ρ : Env}, (backE own ρ0 ρ).length = ρ.length
  | [], _ => rfl
  | v :: vs, ρ => by
    show (backE vs ρ0 (ρ.set v _)).length = _
    rw [backE_len (own := vs), List.length_set]
/-- behind a comprehension: its own slots as they were ahead of it -/
theorem Rel.back {W0 : Wd} {ρ0 : Env} {H0 : Hp} {own : List Nat} {σw : L2.St} (r0 : Rel Y W0 ρ0 σ H0) (r : Rel Y W ρ σw H) (ho : Off own σ σw) (hpl : own.all (plainAt ρ0) = true) (e : Same W0.G W.G) : Rel Y W (backE own ρ0 ρ) σ H := by
  have hl : ρ.length = ρ0.length := by rw [r.len, r0.len, ho.1]
  refine ⟨r.ok, by rw [backE_len, r.len, ho.1], fun j u h => ?_, r0.pin⟩
  rw [backE_get hl] at h
  by_cases hm : j ∈ own
  · rw [if_pos hm] at h
    by_cases hj : j < ρ0.length
    · rw [if_pos hj] at h
      have h' : ρ0[j]?.join = some u := Option.some.inj h
      cases q : ρ0[j]? with
      | none => rw [q] at h'; cases h'
      | some oo =>
        rw [q] at h'
        have h2 : oo = some u := h'
        subst h2
        obtain ⟨v, hv, hr⟩ := r0.slot j u q
        refine ⟨v, hv, ?_⟩
        have hp : plainAt ρ0 j = true := List.all_eq_true.mp hpl j hm
        unfold plainAt at hp
        rw [q] at hp
        match u, hr, hp with
        | .f (.d x), hr, _ => exact Rep.mono e hr
    · rw [if_neg hj] at h; cases h
  · rw [if_neg hm] at h
    obtain ⟨v, hv, hr⟩ := r.slot j u h
    exact ⟨v, by rw [← ho.2 j hm]; exact hv, hr⟩
end

/-! ### comprehensions -/
/-- a list that is being made stands behind all else -/
def Wd.hold (W : Wd) (B : Hp) (D : Addr) (vs : List V) : Wd := { W with B := upd B D (.lst vs) }
def Cy.nox (Y : Cy) : Cy := { Y with Wx := fun _ _ _ _ => False }
section
variable {Y : Cy} {W : Wd} {ρ : Env} {σ : L2.St} {H : Hp}
theorem Rel.toNox (r : Rel Y W ρ σ H) : Rel Y.nox W ρ σ H := ⟨r.ok, r.len, r.slot, r.pin⟩
theorem Rel.ofNox (r : Rel Y.nox W ρ σ H) : Rel Y W ρ σ H := ⟨r.ok, r.len, r.slot, r.pin⟩
/-- the new list is laid behind -/
theorem Rel.holdNew {D : Addr} (r : Rel Y W ρ σ H) (hD : H D = none) : Rel Y (W.hold W.B D []) ρ σ (upd H D (.lst [])) := by
  have nG : ∀ b u, H b = some u → b ≠ D := fun b u e z => by rw [z, hD] at e; cases e
  have ok : Wok (W.hold W.B D []) (upd H D (.lst [])) := by
    refine ⟨fun b u e => ?_, fun b u e => ?_, fun b u e => ?_, fun b l e => ?_⟩
    · rw [upd_ne (nG b u (r.ok.g b u e))]; exact r.ok.g b u e
    · have e' : upd W.B D (.lst []) b = some u := e
      by_cases hb : b = D
      · subst hb; rw [upd_same] at e' ⊢; exact e'
      · rw [upd_ne hb] at e' ⊢; exact r.ok.b b u e'
    · have e' : upd W.B D (.lst []) b = some u := e
      by_cases hb : b = D
      · subst hb
        show W.G b = none
        cases q : W.G b with
        | none => rfl
        | some u' => exact absurd rfl (nG b u' (r.ok.g b u' q))
      · rw [upd_ne hb] at e'; exact r.ok.gb b u e'
    · have hb := ow_ne r.ok hD e
      obtain ⟨h1, h2, u, h3⟩ := r.ok.own b l e
      refine ⟨h1, ?_, u, ?_⟩
      · show upd W.B D (.lst []) b = none
        rw [upd_ne hb]; exact h2
      · rw [upd_ne hb]; exact h3
  exact r.same ok (Same.refl _) fun b i j q => ⟨q, upd_ne (ow_ne r.ok hD q)⟩
/-- one more item -/
theorem Rel.holdApp {D : Addr} {B : Hp} {vs : List V} {u : V} (r : Rel Y W ρ σ H) (hB : W.B = upd B D (.lst vs)) : H D = some (.lst vs) ∧ Rel Y (W.hold B D (vs ++ [u])) ρ σ (upd H D (.lst (vs ++ [u]))) := by
  have hD : W.B D = some (.lst vs) := by rw [hB]; exact upd_same
  refine ⟨r.ok.b D _ hD, ?_⟩
  have gD : W.G D = none := r.ok.gb D _ hD
  have oD : ∀ b l, W.Ow b = some l → b ≠ D := fun b l e z => by
    have := (r.ok.own b l e).2.1
    rw [z, hD] at this; cases this
  have ok : Wok (W.hold B D (vs ++ [u])) (upd H D (.lst (vs ++ [u]))) := by
    refine ⟨fun b x e => ?_, fun b x e => ?_, fun b x e => ?_, fun b l e => ?_⟩
    · have e' : W.G b = some x := e
      rw [upd_ne (by rintro rfl; rw [gD] at e'; cases e')]; exact r.ok.g b x e'
    · have e' : upd B D (.lst (vs ++ [u])) b = some x := e
      by_cases hb : b = D
      · subst hb; rw [upd_same] at e' ⊢; exact e'
      · rw [upd_ne hb] at e' ⊢
        exact r.ok.b b x (by rw [hB, upd_ne hb]; exact e')
    · have e' : upd B D (.lst (vs ++ [u])) b = some x := e
      by_cases hb : b = D
      · subst hb; exact gD
      · rw [upd_ne hb] at e'
        exact r.ok.gb b x (by rw [hB, upd_ne hb]; exact e')
    · have hb := oD b l e
      obtain ⟨h1, h2, y, h3⟩ := r.ok.own b l e
      refine ⟨h1, ?_, y, ?_⟩
      · show upd B D (.lst (vs ++ [u])) b = none
        rw [hB, upd_ne hb] at h2
        rw [upd_ne hb]; exact h2
      · rw [upd_ne hb]; exact h3
  exact r.same ok (Same.refl _) fun b i j q => ⟨q, upd_ne (oD b _ q)⟩
/-- the list is done: it is new and owned -/
theorem Rel.holdDone {A : Addr} {B : Hp} {vs : List V} {xs : List D} (r : Rel Y W ρ σ H) (hB : W.B = upd B A (.lst vs)) (hD0 : B A = none) (l : RepL Y.K Y.ca W.G xs vs) :
    ∃ W', W'.G = W.G ∧ W'.B = B ∧ Rel Y W' ρ σ H ∧ RepF Y.K Y.ca W' H (none, 0) (.lst xs) (.ref A) := by
  have hD : W.B A = some (.lst vs) := by rw [hB]; exact upd_same
  have oD : ∀ b l, W.Ow b = some l → b ≠ A := fun b l e z => by
    have := (r.ok.own b l e).2.1
    rw [z, hD] at this; cases this
  have nB : ∀ b x, B b = some x → b ≠ A := fun b x e z => by rw [z, hD0] at e; cases e
  refine ⟨{ G := W.G, B := B, Ow := fun b => if b = A then some (none, 0) else W.Ow b }, rfl, rfl, ?_, ⟨A, vs, rfl, by show (if A = A then _ else _) = _; rw [if_pos rfl], r.ok.b A _ hD, l⟩⟩
  refine r.same ⟨r.ok.g, fun b x e => ?_, fun b x e => ?_, fun b l e => ?_⟩ (Same.refl _) fun b i j q => ⟨?_, rfl⟩
  · exact r.ok.b b x (by rw [hB, upd_ne (nB b x e)]; exact e)
  · exact r.ok.gb b x (by rw [hB, upd_ne (nB b x e)]; exact e)
  · have e' : (if b = A then some (none, 0) else W.Ow b) = some l := e
    by_cases hb : b = A
    · subst hb
      exact ⟨r.ok.gb b _ hD, hD0, _, r.ok.b b _ hD⟩
    · rw [if_neg hb] at e'
      obtain ⟨h1, h2, y, h3⟩ := r.ok.own b l e'
      refine ⟨h1, ?_, y, h3⟩
      rw [hB, upd_ne hb] at h2; exact h2
  · show (if b = A then some (none, 0) else W.Ow b) = _
    rw [if_neg (oD b _ q)]; exact q
end
theorem lcL_ok {turn : D → Env → M (Option D)} : ∀ {xs : List D} {ρ : Env} {acc : List D} {r : Res (List D)}, lcL turn xs ρ acc = some r → ∃ ys ρ', r = .ok ys ρ'
  | [], ρ, acc, r, h => by cases h; exact ⟨_, _, rfl⟩
  | x :: xs, ρ, acc, r, h => by
    unfold lcL at h
    split at h
    · exact lcL_ok h
    · split at h
      · exact lcL_ok h
      · cases h
    · cases h
/-- the test of a comprehension -/
def condE (c : Option IT) (ρ : Env) : M Bool := match c with
  | none => ok true ρ
  | some c => evT c ρ
def turnE (own : List Nat) (t : Tgt) (c : Option IT) (e : IE) (x : D) (ρ : Env) : M (Option D) :=
  match t.put x ρ with
  | none => none
  | some ρ => (condE c ρ).bind fun k ρ => if k = true then (evE e ρ).bind fun y ρ => ok (some y.fz) (wipeE own ρ) else ok none (wipeE own ρ)
theorem evE_lc {own : List Nat} {t : Tgt} {it : II} {c : Option IT} {e : IE} {ρ : Env} : evE (.lc own t it c e) ρ = (evI it ρ).bind fun xs ρ1 => if own.all (plainAt ρ1) = true then (lcL (turnE own t c e) xs (wipeE own ρ1) []).bind fun ys ρ => ok (.f (.lst ys)) (backE own ρ1 ρ) else none := by
  cases c with
  | none => rw [evE]; rfl
  | some c => rw [evE]; rfl
theorem lc_go {Y : Cy} {W : Wd} {ρ : Env} {σ : L2.St} {H : Hp} {Q : VK} {own : List Nat} {t : Tgt} {it : II} {c : Option IT} {e : IE} (r : Rel Y W ρ σ H) (hp : ∀ i ∈ own, NoPin Y i) (hts : ∀ i ∈ t.slots, i ∈ own) (h : Post Y W σ (RO Y) Q (evE (.lc own t it c e) ρ)) :
    tLc (tEvI Y (evI it)) (gPut Y.nox t) (tEvT Y.nox (condE c)) (tEv Y.nox (evE e)) own σ H Q := by
  rw [evE_lc] at h
  refine ⟨W, ρ, r, Post.bind h fun xs ρ1 J W1 H1 e1 r1 it1 p1 => ?_⟩
  intro A hA
  by_cases hpl : own.all (plainAt ρ1) = true
  · rw [if_pos hpl] at p1
    cases z : lcL (turnE own t c e) xs (wipeE own ρ1) [] with
    | none => rw [z] at p1; exact p1.elim
    | some res =>
      obtain ⟨ys, ρf, rfl⟩ := lcL_ok z
      rw [z] at p1
      have fin : ∀ v W' H', Ext W1 W' → Rel Y W' (backE own ρ1 ρf) σ H' → RepF Y.K Y.ca W' H' (none, 0) (.lst ys) v → Q v H' := p1
      have hB0 : W1.B A = none := by
        cases q : W1.B A with
        | none => rfl
        | some u => have := r1.ok.b A u q; rw [hA] at this; cases this
      refine ⟨fun i m H => ∃ Wk ρk acc accV, Same W1.G Wk.G ∧ Wk.B = upd W1.B A (.lst accV) ∧ Rel Y.nox Wk ρk (wipe σ own) H ∧ RepL Y.K Y.ca Wk.G acc accV ∧ m + i = xs.length ∧ lcL (turnE own t c e) (xs.drop i) ρk acc = some (.ok ys ρf),
        ⟨xs.length, W1.hold W1.B A [], wipeE own ρ1, [], [], Same.refl _, rfl, ((r1.wipe hp).holdNew hA).toNox, .nil, by omega, by rw [List.drop_zero]; exact z⟩, fun i m H2 hI => ?_⟩
      obtain ⟨Wk, ρk, acc, accV, eg, eB, rk, la, hm, zk⟩ := hI
      by_cases hi : i < xs.length
      · refine .inr ⟨it1.go i H2 (eg.trans rk.ok.g) hi, fun H' => ∃ Wk ρk acc accV, Same W1.G Wk.G ∧ Wk.B = upd W1.B A (.lst accV) ∧ Rel Y.nox Wk ρk (wipe σ own) H' ∧ RepL Y.K Y.ca Wk.G acc accV ∧ lcL (turnE own t c e) (xs.drop (i + 1)) ρk acc = some (.ok ys ρf), fun H' hN => ?_, fun x H' hy => ?_⟩
        · obtain ⟨Wk, ρk, acc, accV, a1, a2, a3, a4, a5⟩ := hN
          exact ⟨m - 1, by omega, Wk, ρk, acc, accV, a1, a2, a3, a4, by omega, a5⟩
        · obtain ⟨d, hd, hy⟩ := it1.yld i x H2 H' (eg.trans rk.ok.g) hi hy
          obtain ⟨W2, e2, r2, q2⟩ := hy Wk ρk _ eg rk.ofNox
          have ed : xs.drop i = d :: xs.drop (i + 1) := by
            rw [List.drop_eq_getElem_cons hi]
            rw [List.getElem?_eq_getElem hi] at hd
            rw [Option.some.inj hd]
          rw [ed, lcL] at zk
          refine ⟨W2, ρk, d, r2.toNox, q2, ?_⟩
          unfold turnE at zk
          cases zp : t.put d ρk with
          | none => simp only [zp] at zk; cases zk
          | some ρ2 =>
            simp only [zp] at zk
            intro σ' W3 e3 r3 off
            have off' : Off own (wipe σ own) σ' := off.mono hts
            have ew : wipe σ' own = wipe σ own := by rw [wipe_off off', wipe_wipe]
            refine ⟨ew, W3, ρ2, r3, ?_⟩
            cases zc : condE c ρ2 with
            | none => simp only [zc, M.bind] at zk; cases zk
            | some rc =>
              cases rc with
              | exc y ρ3 => simp only [zc, M.bind] at zk; cases zk
              | ok k ρ3 =>
                simp only [zc, M.bind] at zk
                intro b W4 H4 e4 r4 ekb
                subst ekb
                cases k with
                | false =>
                  rw [if_neg Bool.false_ne_true] at zk
                  rw [if_neg Bool.false_ne_true]
                  refine ⟨W4, wipeE own ρ3, acc, accV, eg.trans (e2.g.trans (e3.g.trans e4.g)), by rw [e4.b, e3.b, e2.b]; exact eB, ?_, la.mono (e2.g.trans (e3.g.trans e4.g)), zk⟩
                  rw [← ew]
                  exact r4.wipe hp
                | true =>
                  rw [if_pos rfl] at zk
                  rw [if_pos rfl]
                  refine ⟨W4, ρ3, r4, ?_⟩
                  cases ze : evE e ρ3 with
                  | none => simp only [ze] at zk; cases zk
                  | some re =>
                    cases re with
                    | exc y ρ4 => simp only [ze] at zk; cases zk
                    | ok y ρ4 =>
                      simp only [ze] at zk
                      intro v W5 H5 e5 r5 q5
                      obtain ⟨W6, e6, r6, q6⟩ := r5.frz q5
                      have hsz : acc.length < sizeLine := by
                        refine Decidable.byContradiction fun hn => ?_
                        have zk' : (if acc.length < sizeLine then lcL (turnE own t c e) (xs.drop (i + 1)) (wipeE own ρ4) (acc ++ [y.fz]) else none) = some (.ok ys ρf) := zk
                        rw [if_neg hn] at zk'; cases zk'
                      have zk' : (if acc.length < sizeLine then lcL (turnE own t c e) (xs.drop (i + 1)) (wipeE own ρ4) (acc ++ [y.fz]) else none) = some (.ok ys ρf) := zk
                      rw [if_pos hsz] at zk'
                      have eB6 : W6.B = upd W1.B A (.lst accV) := by rw [e6.b, e5.b, e4.b, e3.b, e2.b]; exact eB
                      have eg6 : Same Wk.G W6.G := e2.g.trans (e3.g.trans (e4.g.trans (e5.g.trans e6.g)))
                      obtain ⟨h1, h2⟩ := (r6.wipe hp).holdApp (u := v) eB6
                      refine ⟨accV, h1, by rw [← la.length]; exact hsz, W6.hold W1.B A (accV ++ [v]), wipeE own ρ4, acc ++ [y.fz], accV ++ [v], eg.trans eg6, rfl, ?_, (la.mono eg6).append (.cons q6 .nil), zk'⟩
                      rw [← ew]
                      exact h2
      · refine .inl ⟨it1.stop i H2 (eg.trans rk.ok.g) (by omega), ?_⟩
        rw [List.drop_eq_nil_of_le (by omega), lcL] at zk
        cases zk
        obtain ⟨W', g', b', r', q'⟩ := rk.ofNox.holdDone eB hB0 la
        refine fin (.ref A) W' H2 ⟨by rw [g']; exact eg, b'⟩ ?_ q'
        refine r1.back r' ⟨wipe_length _ _, fun j hj => ?_⟩ hpl (by rw [g']; exact eg)
        rw [wipe_get, if_neg hj]
  · rw [if_neg hpl] at p1; exact p1.elim
section
variable {X : Cx} {Y : Cy} {pos : Pos} {elt tg iter : Expr} {ifs : List Expr} {scope : Scope} {own : List (Str × Nat)} {t : Tgt} {it : II} {c : Option IT} {e : IE}
theorem se_lc (hc : X.calm = true) (hN : X.N.Nodup) (hp : ∀ i ∈ own.map (·.2), NoPin Y i) (hts : ∀ i ∈ t.slots, i ∈ own.map (·.2)) (hi : PI X tg iter (tEvI Y (evI it))) (okb : BlkOk X.N X.env.scope scope own)
    (hg : ∀ (s : Shared) (H : Hp) (C : Addr) (cl : List (Str × Addr)) (fp : List Addr), PG (X.blk s H scope (compEnvC scope cl C X.env) fp) tg (gPut Y.nox t))
    (ht : ∀ (s : Shared) (H : Hp) (C : Addr) (cl : List (Str × Addr)) (fp : List Addr), PTs (X.blk s H scope (compEnvC scope cl C X.env) fp) ifs (tEvT Y.nox (condE c)))
    (he : ∀ (s : Shared) (H : Hp) (C : Addr) (cl : List (Str × Addr)) (fp : List Addr), PE (X.blk s H scope (compEnvC scope cl C X.env) fp) elt (tEv Y.nox (evE e)))
    (hs : ∀ x, foldedSetIterable iter X.env x = pure x) : PE X (.ListComp elt [⟨tg, iter, ifs, 0⟩] scope pos) (tEv Y (evE (.lc (own.map (·.2)) t it c e))) :=
  (pe_lc hc hN hi okb hg ht he hs).imp fun σ H Q h => by
    obtain ⟨W, ρ, r, h⟩ := h
    exact lc_go r hp hts h
end
end Vm

set_option Elab.async false
set_option linter.all false
set_option maxRecDepth 100000
set_option maxHeartbeats 4000000
set_option autoImplicit false
/-! Vm, part I: statements, defs. -/
namespace Vm
open PySem L2 PyProof.Rows

def PostS (Y : Cy) (W : Wd) (D : Ends) : Option Out → Prop
  | none => False
  | some (.nx ρ') => ∀ σ' W' H', Ext W W' → Rel Y W' ρ' σ' H' → D.nx σ' H'
  | some (.bk ρ') => ∀ σ' W' H', Ext W W' → Rel Y W' ρ' σ' H' → D.bk σ' H'
  | some (.ct ρ') => ∀ σ' W' H', Ext W W' → Rel Y W' ρ' σ' H' → D.ct σ' H'
  | some (.rt o ρ') => ∀ v σ' W' H', Ext W W' → Rel Y W' ρ' σ' H' → RepO Y.K Y.ca W' H' none o v → D.rt v H'
  | some (.exc x ρ') => ∀ cls d σ' W' H', Ext W W' → Rel Y W' ρ' σ' H' → RepX Y.K Y.ca W' H' x cls d → Y.Wx cls d σ' H'
def tSv (Y : Cy) (m : Env → Option Out) : TS := fun D σ H => ∃ W ρ, Rel Y W ρ σ H ∧ PostS Y W D (m ρ)
theorem _root_.L2.PS.imp {X : Cx} {e : Stmt} {t t' : TS} (h : PS X e t) (i : ∀ D σ H, t' D σ H → t D σ H) : PS X e t' := ⟨fun pins s σ H D I w => h.run pins s σ H D I (i D σ H w)⟩
theorem _root_.L2.PSs.imp {X : Cx} {e : List Stmt} {t t' : TS} (h : PSs X e t) (i : ∀ D σ H, t' D σ H → t D σ H) : PSs X e t' := ⟨fun pins s σ H D I w => h.run pins s σ H D I (i D σ H w)⟩
section
variable {Y : Cy} {W W1 : Wd} {ρ : Env} {σ : L2.St} {H : Hp} {D : Ends}
theorem PostS.ext {m : Option Out} (h : PostS Y W D m) (e : Ext W W1) : PostS Y W1 D m := by
  match m, h with
  | some (.nx ρ'), h => exact fun σ' W' H' e' r' => h σ' W' H' (e.trans e') r'
  | some (.bk ρ'), h => exact fun σ' W' H' e' r' => h σ' W' H' (e.trans e') r'
  | some (.ct ρ'), h => exact fun σ' W' H' e' r' => h σ' W' H' (e.trans e') r'
  | some (.rt o ρ'), h => exact fun v σ' W' H' e' r' => h v σ' W' H' (e.trans e') r'
  | some (.exc x ρ'), h => exact fun c d σ' W' H' e' r' => h c d σ' W' H' (e.trans e') r'
theorem PostS.bind {α β : Type} {R1 : Wd → Hp → α → β → Prop} {Q1 : β → Hp → Prop} {m : M α} {f : α → Env → Option Out} (h : PostS Y W D (m.out f))
    (k : ∀ a ρ' b W' H', Ext W W' → Rel Y W' ρ' σ H' → R1 W' H' a b → PostS Y W' D (f a ρ') → Q1 b H') : Post Y W σ R1 Q1 m := by
  match m, h with
  | some (.ok a ρ'), h => exact fun b W' H' e r' q => k a ρ' b W' H' e r' q (PostS.ext (m := f a ρ') h e)
  | some (.exc x ρ'), h => exact fun c d W' H' e r' q => h c d σ W' H' e r' q
theorem goES {m : Env → M O} {f : O → Env → Option Out} {Q : VK} (r : Rel Y W ρ σ H) (h : PostS Y W D ((m ρ).out f)) (k : ∀ o ρ' v W' H', Ext W W' → Rel Y W' ρ' σ H' → Rep Y.K Y.ca W'.G o.fz v → PostS Y W' D (f o ρ') → Q v H') : tEv Y m σ H Q :=
  ⟨W, ρ, r, PostS.bind h fun o ρ' v W' H' e r' q p => by
    obtain ⟨W1, e1, r1, q1⟩ := r'.frz q
    exact k o ρ' v W1 H' (e.trans e1) r1 q1 (p.ext e1)⟩
theorem goOS {m : Env → M O} {f : O → Env → Option Out} {Q : VK} (r : Rel Y W ρ σ H) (h : PostS Y W D ((m ρ).out f)) (k : ∀ o ρ' v W' H', Ext W W' → Rel Y W' ρ' σ H' → RepO Y.K Y.ca W' H' none o v → PostS Y W' D (f o ρ') → Q v H') : tEv Y m σ H Q :=
  ⟨W, ρ, r, PostS.bind h k⟩
theorem goTS {m : Env → M Bool} {f : Bool → Env → Option Out} {Q : Bool → Hp → Prop} (r : Rel Y W ρ σ H) (h : PostS Y W D ((m ρ).out f)) (k : ∀ b ρ' W' H', Ext W W' → Rel Y W' ρ' σ H' → PostS Y W' D (f b ρ') → Q b H') : tEvT Y m σ H Q :=
  ⟨W, ρ, r, PostS.bind h fun a ρ' b W' H' e r' q p => by cases q; exact k a ρ' W' H' e r' p⟩
theorem PostS.now {ρ' : Env} (h : PostS Y W D (some (.nx ρ'))) (r : Rel Y W ρ' σ H) : D.nx σ H := h σ W H (Ext.refl W) r
end

/-! ### blocks, small statements -/
section
variable {X : Cx} {Y : Cy} {pos pos' p : Pos} {st : Stmt} {rest : List Stmt} {e : Expr} {a : IE} {is : IS} {iss : List IS}
theorem sss_nil : PSs X [] (tSv Y (evSs [])) := pss_nil.imp fun D σ H h => by
  obtain ⟨W, ρ, r, h⟩ := h
  rw [evSs] at h
  exact h.now r
theorem sss_cons (h1 : PS X st (tSv Y (evS is))) (h2 : PSs X rest (tSv Y (evSs iss))) : PSs X (st :: rest) (tSv Y (evSs (is :: iss))) := (pss_cons h1 h2).imp fun D σ H h => by
  obtain ⟨W, ρ, r, h⟩ := h
  rw [evSs] at h
  refine ⟨W, ρ, r, ?_⟩
  match z : evS is ρ, h with
  | none, h => exact h.elim
  | some (.nx ρ'), h => exact fun σ' W' H' e r' => ⟨W', ρ', r', PostS.ext (m := evSs iss ρ') h e⟩
  | some (.bk ρ'), h => exact h
  | some (.ct ρ'), h => exact h
  | some (.rt o ρ'), h => exact h
  | some (.exc x ρ'), h => exact h
theorem ss_pass : PS X (.Pass pos) (tSv Y (evS .pass)) := ps_pass.imp fun D σ H h => by
  obtain ⟨W, ρ, r, h⟩ := h
  rw [evS] at h
  exact h.now r
theorem ss_brk : PS X (.Break pos) (tSv Y (evS .brk)) := ps_break.imp fun D σ H h => by
  obtain ⟨W, ρ, r, h⟩ := h
  rw [evS] at h
  exact h σ W H (Ext.refl W) r
theorem ss_cnt : PS X (.Continue pos) (tSv Y (evS .cnt)) := ps_continue.imp fun D σ H h => by
  obtain ⟨W, ρ, r, h⟩ := h
  rw [evS] at h
  exact h σ W H (Ext.refl W) r
theorem ss_retN : PS X (.Return none pos) (tSv Y (evS .retN)) := ps_retN.imp fun D σ H h => by
  obtain ⟨W, ρ, r, h⟩ := h
  rw [evS] at h
  exact h .non σ W H (Ext.refl W) r Rep.non
theorem ss_ret (ha : PE X e (tEv Y (evE a))) : PS X (.Return (some e) pos) (tSv Y (evS (.ret a))) := (ps_ret ha).imp fun D σ H h => by
  obtain ⟨W, ρ, r, h⟩ := h
  rw [evS] at h
  exact goOS r h fun o ρ1 v W1 H1 e1 r1 q1 p1 => p1 v σ W1 H1 (Ext.refl _) r1 q1
/-- a slot's content is handed out -/
def unlab (i : Nat) (W : Wd) : Wd := { W with Ow := fun b => match W.Ow b with
  | some (some k, j) => if k = i then some (none, j) else some (some k, j)
  | _ => none }
theorem unlab_in {W : Wd} {i j : Nat} {b : Addr} (q : W.Ow b = some (some i, j)) : (unlab i W).Ow b = some (none, j) := by
  show (match W.Ow b with | some (some k, j) => if k = i then some (none, j) else some (some k, j) | _ => none) = _
  rw [q]; simp
theorem unlab_out {W : Wd} {i k j : Nat} {b : Addr} (q : W.Ow b = some (some k, j)) (h : k ≠ i) : (unlab i W).Ow b = some (some k, j) := by
  show (match W.Ow b with | some (some k, j) => if k = i then some (none, j) else some (some k, j) | _ => none) = _
  rw [q]; simp [h]
theorem unlab_ok {W : Wd} {H : Hp} {i : Nat} (ok : Wok W H) : Wok (unlab i W) H := ⟨ok.g, ok.b, ok.gb, fun b l e => by
  have e' : (match W.Ow b with | some (some k, j) => if k = i then some (none, j) else some (some k, j) | _ => none) = some l := e
  cases q : W.Ow b with
  | none => rw [q] at e'; cases e'
  | some l' => exact ok.own b l' q⟩
theorem Rel.move {W : Wd} {ρ : Env} {σ : L2.St} {H : Hp} {i : Nat} {o : O} (r : Rel Y W ρ σ H) (h : ρ[i]? = some (some o)) : ∃ v W', σ[i]? = some (some v) ∧ Ext W W' ∧ Rel Y W' (ρ.set i none) σ H ∧ RepO Y.K Y.ca W' H none o v := by
  obtain ⟨v, hv, ho⟩ := r.slot i o h
  refine ⟨v, unlab i W, hv, ⟨Same.refl _, rfl⟩, ⟨unlab_ok r.ok, by rw [List.length_set]; exact r.len, fun j u e => ?_, r.pin⟩, ho.mono (Same.refl _) fun b j q => ⟨unlab_in q, rfl⟩⟩
  by_cases hj : j = i
  · subst hj
    by_cases hl : j < ρ.length
    · rw [List.getElem?_set_self hl] at e; cases e
    · rw [List.getElem?_eq_none (by rw [List.length_set]; omega)] at e; cases e
  · rw [List.getElem?_set_ne (Ne.symm hj)] at e
    obtain ⟨w, hw, hr⟩ := r.slot j u e
    exact ⟨w, hw, hr.mono (Same.refl _) fun b j' q => ⟨unlab_out q hj, rfl⟩⟩
theorem ss_retV {i : Nat} {x : Str} (hN : X.N[i]? = some x) (hv : Vis X.env.scope x) (hd : (x == ("__debug__" : Str)) = false) (hcd : (x == ("__classdict__" : Str)) = false) : PS X (.Return (some (.Name x p)) pos) (tSv Y (evS (.retV i))) := (ps_ret (pe_var hN hv hd hcd)).imp fun D σ H h => by
  obtain ⟨W, ρ, r, h⟩ := h
  rw [evS] at h
  cases z : ρ[i]? with
  | none => simp only [z] at h; exact h.elim
  | some oo =>
    cases oo with
    | none => simp only [z] at h; exact h.elim
    | some o =>
      simp only [z] at h
      obtain ⟨v, W', hv, e, r', q⟩ := r.move z
      exact ⟨v, hv, h v σ W' H e r' q⟩
theorem ss_ex (ha : PE X e (tEv Y (evE a))) (hs : swapsWith e none pos.line X.env = pure false) : PS X (.Expr e pos) (tSv Y (evS (.ex a))) := (ps_expr ha hs).imp fun D σ H h => by
  obtain ⟨W, ρ, r, h⟩ := h
  rw [evS] at h
  exact goOS r h fun o ρ1 v W1 H1 e1 r1 q1 p1 => p1.now r1
theorem ss_if {c : Expr} {t : IT} {sa sb : List Stmt} {ia ib : List IS} (ht : PT X c (tEvT Y (evT t))) (ha : PSs X sa (tSv Y (evSs ia))) (hb : PSs X sb (tSv Y (evSs ib))) : PS X (.If c sa sb pos) (tSv Y (evS (.ifs t ia ib))) := (ps_if ht ha hb).imp fun D σ H h => by
  obtain ⟨W, ρ, r, h⟩ := h
  rw [evS] at h
  refine goTS r h fun k ρ1 W1 H1 e1 r1 p1 => ?_
  cases k with
  | true => rw [if_pos rfl] at p1 ⊢; exact ⟨W1, ρ1, r1, p1⟩
  | false => rw [if_neg Bool.false_ne_true] at p1 ⊢; exact ⟨W1, ρ1, r1, p1⟩

/-! ### stores -/
def gPutO (Y : Cy) (t : Tgt) : TG := fun v σ H Q => ∃ W ρ o, Rel Y W ρ σ H ∧ RepO Y.K Y.ca W H none o v ∧ match t.putO o ρ with
  | none => False
  | some ρ' => ∀ σ' W', Ext W W' → Rel Y W' ρ' σ' H → Q σ' H
theorem so_tp {is : List Nat} {tg : Expr} (h : PG X tg (gPut Y (.tp is))) : PG X tg (gPutO Y (.tp is)) := h.imp fun v σ H Q h => by
  obtain ⟨W, ρ, o, r, q, h⟩ := h
  obtain ⟨W1, e1, r1, q1⟩ := r.frz q
  refine ⟨W1, ρ, o.fz, r1, q1, ?_⟩
  have h' : match (Tgt.tp is).put o.fz ρ with
    | none => False
    | some ρ' => ∀ σ' W', Ext W W' → Rel Y W' ρ' σ' H → Q σ' H := h
  split
  · rename_i z; rw [z] at h'; exact h'
  · rename_i ρ' z
    rw [z] at h'
    exact fun σ' W' e r' _ => h' σ' W' (e1.trans e) r'
theorem asg_go {t : Tgt} {D : Ends} {σ : L2.St} {H : Hp} {W : Wd} {ρ : Env} (r : Rel Y W ρ σ H) (h : PostS Y W D ((evE a ρ).out fun x ρ => (t.putO x ρ).map .nx)) : tAsg (tEv Y (evE a)) (gPutO Y t) D σ H :=
  goOS r h fun o ρ1 v W1 H1 e1 r1 q1 p1 => ⟨W1, ρ1, o, r1, q1, by
    cases z : t.putO o ρ1 with
    | none => rw [z] at p1; exact p1.elim
    | some ρ' => rw [z] at p1; exact fun σ' W' e' r' => p1 σ' W' H1 e' r'⟩
theorem ss_asg {t : Tgt} {tg : Expr} (ha : PE X e (tEv Y (evE a))) (hg : PG X tg (gPutO Y t)) (hs : swapsWithSole [tg] e pos.line X.env = pure false) (hw : swappedStores [tg] e X.env = pure none) (h1 : (assignEach [tg] X.env).map (·.2) = [assign tg X.env]) : PS X (.Assign [tg] e pos) (tSv Y (evS (.asg t a))) :=
  (ps_asg ha hg hs hw h1).imp fun D σ H h => by
    obtain ⟨W, ρ, r, h⟩ := h
    rw [evS] at h
    exact asg_go r h
theorem gName_O {i : Nat} (hp : NoPin Y i) (v : V) (σ : L2.St) (H : Hp) (Q : L2.St → Hp → Prop) (h : gPutO Y (.nm i) v σ H Q) : gName i v σ H Q := by
  obtain ⟨W, ρ, o, r, q, h⟩ := h
  exact h _ _ ext_relab (r.store q hp)
theorem ss_set {i : Nat} {x : Str} (hN : X.N.Nodup) (hi : X.N[i]? = some x) (hx : Loc X.env.scope x) (hf : X.fn x = true ∨ X.env.scope.names.lookup x = some .local) (hp : NoPin Y i) (ha : PE X e (tEv Y (evE a))) (hs : swapsWith e (some (.Name x pos')) pos.line X.env = pure false) :
    PS X (.Assign [.Name x pos'] e pos) (tSv Y (evS (.asg (.nm i) a))) := (ps_set hN hi hx ha hs hf).imp fun D σ H h => by
  obtain ⟨W, ρ, r, h⟩ := h
  rw [evS] at h
  obtain ⟨W1, ρ1, r1, h1⟩ := asg_go r h
  exact ⟨W1, ρ1, r1, h1.imp (fun _ _ _ _ z => z) fun b H1 z => gName_O hp b σ H1 _ z⟩
theorem ss_setLc {elt tg iter : Expr} {ifs : List Expr} {scope : Scope} {own : List (Str × Nat)} {t : Tgt} {it : II} {c : Option IT} {ie : IE} {i : Nat} {y : Str} {py : Pos} (hc : X.calm = true) (hN : X.N.Nodup) (hy : X.N[i]? = some y) (hyl : X.env.scope.names.lookup y = some .local) (hpi : NoPin Y i)
    (hsw : swapsWith (.ListComp elt [⟨tg, iter, ifs, 0⟩] scope pos) (some (.Name y py)) pos'.line X.env = pure true)
    (hp : ∀ i ∈ own.map (·.2), NoPin Y i) (hts : ∀ i ∈ t.slots, i ∈ own.map (·.2)) (hi : PI X tg iter (tEvI Y (evI it))) (okb : BlkOk X.N X.env.scope scope own)
    (hg : ∀ (s : Shared) (H : Hp) (C : Addr) (cl : List (Str × Addr)) (fp : List Addr), PG (X.blk s H scope (compEnvC scope cl C X.env) fp) tg (gPut Y.nox t))
    (ht : ∀ (s : Shared) (H : Hp) (C : Addr) (cl : List (Str × Addr)) (fp : List Addr), PTs (X.blk s H scope (compEnvC scope cl C X.env) fp) ifs (tEvT Y.nox (condE c)))
    (he : ∀ (s : Shared) (H : Hp) (C : Addr) (cl : List (Str × Addr)) (fp : List Addr), PE (X.blk s H scope (compEnvC scope cl C X.env) fp) elt (tEv Y.nox (evE ie)))
    (hs : ∀ x, foldedSetIterable iter X.env x = pure x) : PS X (.Assign [.Name y py] (.ListComp elt [⟨tg, iter, ifs, 0⟩] scope pos) pos') (tSv Y (evS (.asg (.nm i) (.lc (own.map (·.2)) t it c ie)))) :=
  (ps_setLc hc hN hy hyl hsw hi okb hg ht he hs).imp fun D σ H h => by
    obtain ⟨W, ρ, r, h⟩ := h
    rw [evS] at h
    obtain ⟨W1, ρ1, r1, h1⟩ := asg_go r h
    exact lc_go r1 hp hts (h1.imp (fun _ _ _ _ z => z) fun b H1 z => gName_O hpi b σ H1 _ z)
theorem ss_par2 {i j : Nat} {x y : Str} {ea eb : Expr} {b : IE} {px py pt : Pos} {kt k2 pt2} (hc : X.calm = true) (hN : X.N.Nodup) (hi : X.N[i]? = some x) (hj : X.N[j]? = some y) (hij : i ≠ j) (hx : X.env.scope.names.lookup x = some .local) (hy : X.env.scope.names.lookup y = some .local) (hpi : NoPin Y i) (hpj : NoPin Y j)
    (ha : PA X [ea, eb] (tEvs Y (evEs [a, b]))) (hw : swappedStores [.Tuple [.Name x px, .Name y py] kt pt] (.Tuple [ea, eb] k2 pt2) X.env = pure (some [x, y])) (hs : swapsWithSole [.Tuple [.Name x px, .Name y py] kt pt] (.Tuple [ea, eb] k2 pt2) pos.line X.env = pure false) :
    PS X (.Assign [.Tuple [.Name x px, .Name y py] kt pt] (.Tuple [ea, eb] k2 pt2) pos) (tSv Y (evS (.par [i, j] [a, b]))) := (ps_par hc hN hi hj hij hx hy ha hw hs).imp fun D σ H h => by
  obtain ⟨W, ρ, r, h⟩ := h
  rw [evS] at h
  refine ⟨W, ρ, r, PostS.bind h fun xs ρ1 vs W1 H1 e1 r1 q1 p1 => ?_⟩
  cases q1 with
  | nil => exact p1.elim
  | cons a1 q1 =>
    cases q1 with
    | nil => exact p1.elim
    | cons a2 q1 =>
      cases q1 with
      | cons _ _ => exact p1.elim
      | nil => exact ⟨_, _, rfl, PostS.now (ρ' := (ρ1.set i _).set j _) (p1.ext (ext_relab.trans ext_relab)) ((r1.storeD a1 hpi).storeD a2 hpj)⟩
theorem ss_par3 {i j l : Nat} {x y z : Str} {ea eb ec : Expr} {b c : IE} {px py pz pt : Pos} {kt k2 pt2} (hc : X.calm = true) (hN : X.N.Nodup) (hi : X.N[i]? = some x) (hj : X.N[j]? = some y) (hl : X.N[l]? = some z) (hij : i ≠ j) (hil : i ≠ l) (hjl : j ≠ l) (hx : X.env.scope.names.lookup x = some .local) (hy : X.env.scope.names.lookup y = some .local) (hz : X.env.scope.names.lookup z = some .local) (hpi : NoPin Y i) (hpj : NoPin Y j) (hpl : NoPin Y l)
    (ha : PA X [ea, eb, ec] (tEvs Y (evEs [a, b, c]))) (hw : swappedStores [.Tuple [.Name x px, .Name y py, .Name z pz] kt pt] (.Tuple [ea, eb, ec] k2 pt2) X.env = pure (some [x, y, z])) (hs : swapsWithSole [.Tuple [.Name x px, .Name y py, .Name z pz] kt pt] (.Tuple [ea, eb, ec] k2 pt2) pos.line X.env = pure false) :
    PS X (.Assign [.Tuple [.Name x px, .Name y py, .Name z pz] kt pt] (.Tuple [ea, eb, ec] k2 pt2) pos) (tSv Y (evS (.par [i, j, l] [a, b, c]))) := (ps_par3 hc hN hi hj hl hij hil hjl hx hy hz ha hw hs).imp fun D σ H h => by
  obtain ⟨W, ρ, r, h⟩ := h
  rw [evS] at h
  refine ⟨W, ρ, r, PostS.bind h fun xs ρ1 vs W1 H1 e1 r1 q1 p1 => ?_⟩
  cases q1 with
  | nil => exact p1.elim
  | cons a1 q1 =>
    cases q1 with
    | nil => exact p1.elim
    | cons a2 q1 =>
      cases q1 with
      | nil => exact p1.elim
      | cons a3 q1 =>
        cases q1 with
        | cons _ _ => exact p1.elim
        | nil => exact ⟨_, _, _, rfl, PostS.now (ρ' := ((ρ1.set i _).set j _).set l _) (p1.ext (ext_relab.trans (ext_relab.trans ext_relab))) (((r1.storeD a1 hpi).storeD a2 hpj).storeD a3 hpl)⟩
/-- x op= e -/
def rAug (Y : Cy) (op : BOp) : TIp := fun x y H Q => ∃ a b z, Rep Y.K Y.ca H a x ∧ Rep Y.K Y.ca H b y ∧ op.aug a b = some z ∧ ∀ v, (∀ G, Rep Y.K Y.ca G z v) → Q v H
theorem ip_isub : OpR X (inplaceOp .Sub) (rI0 fun i j => .int (i - j)) := iop_sub
theorem aug_ok (op : BOp) : PIp X op.op (rAug Y op) := by
  intro pins s σ H x y v u Q I rx ry h
  obtain ⟨a, b, z, ra, rb, e, q⟩ := h
  match op, a, b, e, ra, rb with
  | .add, .int i, .int j, e, ra, rb =>
    cases e; cases ra; cases rb
    exact iop_add pins s σ H _ _ v u Q I rx ry ⟨i, j, rfl, rfl, q _ fun _ => .int _⟩
  | .add, .str i, .str j, e, ra, rb =>
    have e' : (if i.length + j.length ≤ sizeLine then some (D.str (i ++ j)) else none) = some z := e
    split at e'
    · rename_i hz
      cases e'; cases ra; cases rb
      exact iop_add_str pins s σ H _ _ v u Q I rx ry ⟨i, j, rfl, rfl, hz, q _ fun _ => .str _⟩
    · cases e'
  | .sub, .int i, .int j, e, ra, rb =>
    cases e; cases ra; cases rb
    exact iop_sub pins s σ H _ _ v u Q I rx ry ⟨i, j, rfl, rfl, q _ fun _ => .int _⟩
theorem ss_aug {i : Nat} {x : Str} {op : BOp} (hN : X.N.Nodup) (hi : X.N[i]? = some x) (hx : Loc X.env.scope x) (hf : X.fn x = true ∨ X.env.scope.names.lookup x = some .local) (hp : NoPin Y i) (ha : PE X e (tEv Y (evE a))) :
    PS X (.AugAssign (.Name x pos') op.op e pos) (tSv Y (evS (.aug i op a))) := (ps_aug hN hi hx ha (aug_ok (Y := Y) op) hf).imp fun D σ H h => by
  obtain ⟨W, ρ, r, h⟩ := h
  rw [evS] at h
  match z : ρ[i]?, h with
  | some (some (.f (.d u))), h =>
    simp only [z] at h
    obtain ⟨v, hv, q⟩ := r.slot i _ z
    refine ⟨v, hv, goES r h fun o ρ1 w W1 H1 e1 r1 q1 p1 => ?_⟩
    cases y : op.aug u o.fz with
    | none => simp only [y] at p1; exact p1.elim
    | some b =>
      simp only [y] at p1
      refine ⟨u, o.fz, b, (Rep.mono e1.g q).mono r1.ok.g, q1.mono r1.ok.g, y, fun v' hv' => ?_⟩
      exact p1 _ _ _ ext_relab (r1.storeD (hv' _) hp)
  | none, h => simp only [z] at h; exact h.elim
  | some none, h => simp only [z] at h; exact h.elim
  | some (some (.ins _ _)), h => simp only [z] at h; exact h.elim
  | some (some (.f (.lst _))), h => simp only [z] at h; exact h.elim
  | some (some (.f (.dct _))), h => simp only [z] at h; exact h.elim
/-- a list that a slot owns gets another content -/
theorem Rel.putL {W : Wd} {ρ : Env} {σ : L2.St} {H : Hp} {i : Nat} {xs ys : List D} (r : Rel Y W ρ σ H) (h : ρ[i]? = some (some (.f (.lst xs)))) :
    ∃ q vs, σ[i]? = some (some (.ref q)) ∧ H q = some (.lst vs) ∧ RepL Y.K Y.ca W.G xs vs ∧ ∀ us, RepL Y.K Y.ca W.G ys us → Rel Y W (ρ.set i (some (.f (.lst ys)))) σ (upd H q (.lst us)) := by
  obtain ⟨v, hv, q, vs, rfl, ow, hq, l⟩ := r.slot i _ h
  refine ⟨q, vs, hv, hq, l, fun us lu => ?_⟩
  refine r.chg (r.ok.write ow) (Same.refl _) (fun b i' j hn o => ⟨o, upd_ne ?_⟩) hv ⟨q, us, rfl, ow, upd_same, lu⟩
  rintro rfl
  rw [ow] at o
  exact hn (Option.some.inj (congrArg Prod.fst (Option.some.inj o))).symm
theorem ss_setI {i : Nat} {x : Str} {ei : Expr} {k : IE} (hN : X.N[i]? = some x) (hv : Vis X.env.scope x) (hd : (x == ("__debug__" : Str)) = false) (hcd : (x == ("__classdict__" : Str)) = false) (ha : PE X e (tEv Y (evE a))) (hk : PE X ei (tEv Y (evE k)))
    (hs : swapsWithSole [.Subscript (.Name x p) ei pos'] e pos.line X.env = pure false) (hw : swappedStores [.Subscript (.Name x p) ei pos'] e X.env = pure none)
    (hset : ∀ v, assign (.Subscript (.Name x p) ei pos') X.env v = (do
      let ov ← holding [v] (eval (.Name x p) X.env)
      let iv ← holding [v, ov] (eval ei X.env)
      standAt pos'
      holding [v, ov, iv] (setItem ov iv v)
      release [v, ov, iv] [])) : PS X (.Assign [.Subscript (.Name x p) ei pos'] e pos) (tSv Y (evS (.setI i k a))) :=
  (ps_asg ha (pg_sub (pe_var hN hv hd hcd) hk set_list hset) hs hw rfl).imp fun D σ H h => by
    obtain ⟨W, ρ, r, h⟩ := h
    rw [evS] at h
    refine goES r h fun o ρ1 v W1 H1 e1 r1 q1 p1 => ?_
    cases z : ρ1[i]? with
    | none => simp only [z] at p1; exact p1.elim
    | some oo =>
      cases oo with
      | none => simp only [z] at p1; exact p1.elim
      | some o0 =>
        simp only [z] at p1
        obtain ⟨w, hw, _⟩ := r1.slot i _ z
        refine ⟨w, hw, goES (f := fun k ρ => _) r1 p1 fun o2 ρ2 u W2 H2 e2 r2 q2 p2 => ?_⟩
        match y : ρ2[i]?, p2 with
        | some (some (.f (.lst xs))), p2 =>
          simp only [y] at p2
          cases t : o2.int? with
          | none => simp only [t] at p2; exact p2.elim
          | some n =>
            simp only [t] at p2
            cases s : ixN xs.length n with
            | none => simp only [s] at p2; exact p2.elim
            | some j =>
              simp only [s] at p2
              obtain ⟨q, vs, hq, hH, l, fin⟩ := r2.putL (ys := xs.set j o.fz) y
              rw [hw] at hq; cases hq
              refine ⟨q, vs, n, j, rfl, int?_rep t q2, hH, by rw [← l.length]; exact s, ?_⟩
              exact p2.now (fin _ (l.set j (q1.mono e2.g)))
        | none, p2 => simp only [y] at p2; exact p2.elim
        | some none, p2 => simp only [y] at p2; exact p2.elim
        | some (some (.ins _ _)), p2 => simp only [y] at p2; exact p2.elim
        | some (some (.f (.d _))), p2 => simp only [y] at p2; exact p2.elim
        | some (some (.f (.dct _))), p2 => simp only [y] at p2; exact p2.elim
theorem ss_app {i : Nat} {x : Str} {apos : Pos} (hN : X.N[i]? = some x) (hv : Vis X.env.scope x) (hd : (x == ("__debug__" : Str)) = false) (hcd : (x == ("__classdict__" : Str)) = false) (ha : PE X e (tEv Y (evE a)))
    (he : starEach [e] X.env = (false, eval e X.env) :: starEach [] X.env) (hl : (apos.endLine == pos'.line) = true) : PS X (.Expr (.Call (.Attribute (.Name x p) "append" apos) [e] [] pos') pos) (tSv Y (evS (.app i a))) := by
  have hb : PE X (.Call (.Attribute (.Name x p) "append" apos) [e] [] pos') (tBM X.K "list" rAppend (tVar i) (tCons (tEv Y (evE a)) tNil)) := pe_bm PySem.F.plainAttrs_list PySem.F.slot_list_append PySem.F.type_list_append mt_append (pe_var hN hv hd hcd) (pa_cons ha pa_nil he) rfl (by rw [he]; rfl) hl he rfl
  refine (ps_expr hb).imp fun D σ H h => ?_
  obtain ⟨W, ρ, r, h⟩ := h
  rw [evS] at h
  match z : ρ[i]?, h with
  | some (some (.f (.lst xs0))), h =>
    simp only [z] at h
    obtain ⟨q, vs, hq, hH, l, _⟩ := r.putL (ys := xs0) z
    refine ⟨_, hq, .inl ⟨rfl, vs, SqL.of hH⟩, goES r h fun o ρ1 v W1 H1 e1 r1 q1 p1 => ?_⟩
    match y : ρ1[i]?, p1 with
    | some (some (.f (.lst xs))), p1 =>
      simp only [y] at p1
      by_cases hz : xs.length < sizeLine
      · rw [if_pos hz] at p1
        obtain ⟨q', vs', hq', hH', l', fin⟩ := r1.putL (ys := xs ++ [o.fz]) y
        rw [hq] at hq'; cases hq'
        exact ⟨q, vs', v, rfl, rfl, hH', by rw [← l'.length]; exact hz, p1.now (fin _ (l'.append (.cons q1 .nil)))⟩
      · rw [if_neg hz] at p1; exact p1.elim
    | none, p1 => simp only [y] at p1; exact p1.elim
    | some none, p1 => simp only [y] at p1; exact p1.elim
    | some (some (.ins _ _)), p1 => simp only [y] at p1; exact p1.elim
    | some (some (.f (.d _))), p1 => simp only [y] at p1; exact p1.elim
    | some (some (.f (.dct _))), p1 => simp only [y] at p1; exact p1.elim
  | none, h => simp only [z] at h; exact h.elim
  | some none, h => simp only [z] at h; exact h.elim
  | some (some (.ins _ _)), h => simp only [z] at h; exact h.elim
  | some (some (.f (.d _))), h => simp only [z] at h; exact h.elim
  | some (some (.f (.dct _))), h => simp only [z] at h; exact h.elim
/-! ### fields stored -/
def relabF (i n : Nat) (W : Wd) : Wd := { W with Ow := fun b => match W.Ow b with
  | some (none, 0) => some (some i, n)
  | some (none, _ + 1) => none
  | some (some k, j) => if k = i ∧ j = n then none else some (some k, j)
  | none => none }
theorem relabF_t {W : Wd} {i n : Nat} {b : Addr} (q : W.Ow b = some (none, 0)) : (relabF i n W).Ow b = some (some i, n) := by
  show (match W.Ow b with | some (none, 0) => some (some i, n) | some (none, _ + 1) => none | some (some k, j) => if k = i ∧ j = n then none else some (some k, j) | none => none) = _
  rw [q]
theorem relabF_o {W : Wd} {i n k j : Nat} {b : Addr} (q : W.Ow b = some (some k, j)) (h : ¬ (k = i ∧ j = n)) : (relabF i n W).Ow b = some (some k, j) := by
  show (match W.Ow b with | some (none, 0) => some (some i, n) | some (none, _ + 1) => none | some (some k, j) => if k = i ∧ j = n then none else some (some k, j) | none => none) = _
  rw [q]; simp only; rw [if_neg h]
theorem relabF_ok {W : Wd} {H : Hp} {i n : Nat} (ok : Wok W H) : Wok (relabF i n W) H := ⟨ok.g, ok.b, ok.gb, fun b l e => by
  have e' : (match W.Ow b with | some (none, 0) => some (some i, n) | some (none, _ + 1) => none | some (some k, j) => if k = i ∧ j = n then none else some (some k, j) | none => none) = some l := e
  cases q : W.Ow b with
  | none => rw [q] at e'; cases e'
  | some l' => exact ok.own b l' q⟩
theorem Rel.putField {W : Wd} {ρ : Env} {σ : L2.St} {H : Hp} {i : Nat} {C f : Str} {fs : List (Str × F)} {y : F} {v : V} (r : Rel Y W ρ σ H) (h : ρ[i]? = some (some (.ins C fs))) (q : RepF Y.K Y.ca W H (none, 0) y v) :
    ∃ p dx fvs W', σ[i]? = some (some (.ref p)) ∧ H p = some (.ins (Y.ca C) dx fvs) ∧ fs.length = fvs.length ∧ Ext W W' ∧ Rel Y W' (ρ.set i (some (.ins C (putF f y fs)))) σ (upd H p (.ins (Y.ca C) dx (L2.putF f v fvs))) := by
  obtain ⟨u, hu, p, dx, fvs, rfl, ow, hp, l⟩ := r.slot i _ h
  refine ⟨p, dx, fvs, relabF i (idxF f 1 fs) W, hu, hp, l.length, ⟨Same.refl _, rfl⟩, ?_⟩
  have h1 := @idxF_le f 1 fs
  have ow' : (relabF i (idxF f 1 fs) W).Ow p = some (some i, 0) := relabF_o ow (by omega)
  have ne : ∀ b l, W.Ow b = some l → l ≠ (some i, 0) → b ≠ p := fun b l e n z => by
    rw [z, ow] at e; exact n (Option.some.inj e).symm
  refine r.chg ((relabF_ok r.ok).write ow') (Same.refl _) (fun b i' j hn e => ⟨relabF_o e (by omega), upd_ne (ne b _ e (by intro z; cases z; exact hn rfl))⟩) hu ⟨p, dx, _, rfl, ow', upd_same, ?_⟩
  refine l.put (W' := relabF i (idxF f 1 fs) W) (Same.refl W.G) (fun b j hj hne e => ⟨relabF_o e (by omega), upd_ne (ne b _ e (by intro z; cases z; omega))⟩) (q.mono (Same.refl _) fun b e => ⟨relabF_t e, upd_ne (ne b _ e (by intro z; cases z))⟩)
theorem ss_setF (hK : X.K = Y.K) {i : Nat} {x f : Str} {Cs : List Str} (hN : X.N[i]? = some x) (hv : Vis X.env.scope x) (hd : (x == ("__debug__" : Str)) = false) (hcd : (x == ("__classdict__" : Str)) = false) (hC : FldOk Y f Cs) (ha : PE X e (tEv Y (evE a))) (hs : swapsWith e (some (.Attribute (.Name x p) f pos')) pos.line X.env = pure false) :
    PS X (.Assign [.Attribute (.Name x p) f pos'] e pos) (tSv Y (evS (.setF i f Cs a))) := (ps_fld (pe_var hN hv hd hcd) ha hs).imp fun D σ H h => by
  obtain ⟨W, ρ, r, h⟩ := h
  rw [evS] at h
  refine goOS r h fun o ρ1 v W1 H1 e1 r1 q1 p1 => ?_
  match z : ρ1[i]?, p1 with
  | some (some (.ins C fs)), p1 =>
    simp only [z] at p1
    by_cases c : C ∈ Cs ∧ fs.length < 1000
    · rw [if_pos c] at p1
      obtain ⟨c1, c2⟩ := hC C c.1
      have fin : ∀ (W2 : Wd) (y : F), Ext W1 W2 → Rel Y W2 ρ1 σ H1 → RepF Y.K Y.ca W2 H1 (none, 0) y v → PostS Y W1 D (some (.nx (ρ1.set i (some (.ins C (putF f y fs)))))) → tVar i σ H1 fun x H2 => ∃ a C dx fs, x = .ref a ∧ H2 a = some (.ins C dx fs) ∧ Cls X.K C ∧ NoAttr X.K C f ∧ fs.length < 1000 ∧ D.nx σ (upd H2 a (.ins C dx (L2.putF f v fs))) := fun W2 y e2 r2 q2 p2 => by
        obtain ⟨p0, dx, fvs, W', h1, h2, h3, h4, h5⟩ := r2.putField z q2
        exact ⟨_, h1, p0, _, dx, fvs, rfl, h2, by rw [hK]; exact c1, by rw [hK]; exact c2, by rw [← h3]; exact c.2, p2 _ _ _ (e2.trans h4) h5⟩
      cases o with
      | f y => exact fin W1 y (Ext.refl _) r1 q1 p1
      | ins C' fs' =>
        obtain ⟨W2, e2, r2, q2⟩ := r1.frz q1
        exact fin W2 (.d (O.ins C' fs').fz) e2 r2 q2 p1
    · rw [if_neg c] at p1; exact p1.elim
  | none, p1 => simp only [z] at p1; exact p1.elim
  | some none, p1 => simp only [z] at p1; exact p1.elim
  | some (some (.f _)), p1 => simp only [z] at p1; exact p1.elim
theorem Rel.rdD {W : Wd} {ρ : Env} {σ : L2.St} {H : Hp} {j : Nat} {D : Ends} {f : O → Env → Option Out} (r : Rel Y W ρ σ H) (h : PostS Y W D ((rd j ρ).out f)) : ∃ v W' o ρ', σ[j]? = some (some v) ∧ Ext W W' ∧ Rel Y W' ρ' σ H ∧ Rep Y.K Y.ca W'.G o.fz v ∧ (∀ i, i ≠ j → ρ'[i]? = ρ[i]?) ∧ PostS Y W' D (f o ρ') := by
  unfold rd at h
  cases e : ρ[j]? with
  | none => simp only [e] at h; exact h.elim
  | some oo =>
    cases oo with
    | none => simp only [e] at h; exact h.elim
    | some o =>
      have owned : PostS Y W D (f (.f (.d o.fz)) (ρ.set j (some (.f (.d o.fz))))) → ∃ v W' o ρ', σ[j]? = some (some v) ∧ Ext W W' ∧ Rel Y W' ρ' σ H ∧ Rep Y.K Y.ca W'.G o.fz v ∧ (∀ i, i ≠ j → ρ'[i]? = ρ[i]?) ∧ PostS Y W' D (f o ρ') := fun h => by
        obtain ⟨v, W', hv, e1, r1, q1⟩ := r.fzS e
        exact ⟨v, W', .f (.d o.fz), _, hv, e1, r1, q1, fun i hi => List.getElem?_set_ne (Ne.symm hi), PostS.ext h e1⟩
      match o, e, owned, h with
      | .ins C fs, e, owned, h => simp only [e] at h; exact owned h
      | .f (.lst xs), e, owned, h => simp only [e] at h; exact owned h
      | .f (.dct xs), e, owned, h => simp only [e] at h; exact owned h
      | .f (.d x), e, owned, h =>
        simp only [e] at h
        obtain ⟨v, hv, q⟩ := r.slot j _ e
        exact ⟨v, W, .f (.d x), ρ, hv, Ext.refl _, r, q, fun _ _ => rfl, h⟩
theorem ss_appF (hK : X.K = Y.K) {i j : Nat} {x y f : Str} {Cs : List Str} {apos fpos py : Pos} (hN : X.N[i]? = some x) (hv : Vis X.env.scope x) (hd : (x == ("__debug__" : Str)) = false) (hcd : (x == ("__classdict__" : Str)) = false)
    (hN2 : X.N[j]? = some y) (hv2 : Vis X.env.scope y) (hd2 : (y == ("__debug__" : Str)) = false) (hcd2 : (y == ("__classdict__" : Str)) = false) (hC : FldOk Y f Cs) (hl : (apos.endLine == pos'.line) = true) :
    PS X (.Expr (.Call (.Attribute (.Attribute (.Name x p) f fpos) "append" apos) [.Name y py] [] pos') pos) (tSv Y (evS (.appF i f Cs j))) := by
  have hb : PE X (.Call (.Attribute (.Attribute (.Name x p) f fpos) "append" apos) [.Name y py] [] pos') (tBM X.K "list" rAppend (tFld X.K (tVar i) f) (tCons (tVar j) tNil)) := pe_bm PySem.F.plainAttrs_list PySem.F.slot_list_append PySem.F.type_list_append mt_append (pe_fld (pe_var hN hv hd hcd) rfl) (pa_cons (pe_var hN2 hv2 hd2 hcd2) pa_nil rfl) rfl rfl hl rfl rfl
  refine (ps_expr hb).imp fun D σ H h => ?_
  obtain ⟨W, ρ, r, h⟩ := h
  rw [evS] at h
  obtain ⟨v, W1, o, ρ1, hvj, e1, r1, q1, same, p1⟩ := r.rdD h
  match z : ρ1[i]?, p1 with
  | some (some (.ins C fs)), p1 =>
    simp only [z] at p1
    by_cases c : C ∈ Cs ∧ i ≠ j
    · rw [if_pos c] at p1
      obtain ⟨c1, c2⟩ := hC C c.1
      match w : fs.lookup f, p1 with
      | some (.lst xs), p1 =>
        simp only [w] at p1
        by_cases hz : xs.length < sizeLine
        · rw [if_pos hz] at p1
          obtain ⟨u, hu, p0, dx, fvs, rfl, ow, hp, l⟩ := r1.slot i _ z
          obtain ⟨wv, ew, ⟨q, vs, rfl, oq, hq, lq⟩, t⟩ := l.lookI w
          refine ⟨_, hu, p0, _, dx, fvs, _, rfl, hp, by rw [hK]; exact c1, by rw [hK]; exact c2, ew, .inl ⟨rfl, vs, SqL.of hq⟩, v, hvj, q, vs, v, rfl, rfl, hq, by rw [← lq.length]; exact hz, ?_⟩
          have h1 := @idxF_le f 1 fs
          have ne : ∀ b l, W1.Ow b = some l → l ≠ (some i, idxF f 1 fs) → b ≠ q := fun b l e n z => by
            rw [z, oq] at e; exact n (Option.some.inj e).symm
          have lq' : RepF Y.K Y.ca W1 (upd H q (.lst (vs ++ [v]))) (some i, idxF f 1 fs) (.lst (xs ++ [o.fz])) (.ref q) := ⟨q, _, rfl, oq, upd_same, lq.append (.cons q1 .nil)⟩
          refine PostS.now p1 (r1.chg (r1.ok.write oq) (Same.refl _) (fun b i' j' hn e => ⟨e, upd_ne (ne b _ e (by intro z; cases z; exact hn rfl))⟩) hu ⟨p0, dx, fvs, rfl, ow, ?_, ?_⟩)
          · rw [upd_ne (ne p0 _ ow (by intro z; have := congrArg Prod.snd z; simp only at this; omega))]; exact hp
          · rw [← t]
            exact l.put (Same.refl _) (fun b j' hj hne e => ⟨e, upd_ne (ne b _ e (by intro z; exact hne (congrArg Prod.snd z)))⟩) lq'
        · rw [if_neg hz] at p1; exact p1.elim
      | none, p1 => simp only [w] at p1; exact p1.elim
      | some (.d _), p1 => simp only [w] at p1; exact p1.elim
      | some (.dct _), p1 => simp only [w] at p1; exact p1.elim
    · rw [if_neg c] at p1; exact p1.elim
  | none, p1 => simp only [z] at p1; exact p1.elim
  | some none, p1 => simp only [z] at p1; exact p1.elim
  | some (some (.f _)), p1 => simp only [z] at p1; exact p1.elim

/-! ### loops -/
def turnS (t : Tgt) (b : List IS) (x : D) (ρ : Env) : Option Out := match t.put x ρ with
  | none => none
  | some ρ => evSs b ρ
theorem ss_for {tg iter : Expr} {body : List Stmt} {t : Tgt} {it : II} {b : List IS} (own : PassesOwn (model X.prog X.w) X.A X.env X.xe) (hc : X.calm = true) (hi : PI X tg iter (tEvI Y (evI it))) (hg : PG X tg (gPut Y t)) (hb : PSs X body (tSv Y (evSs b))) (hs : ∀ x, foldedSetIterable iter X.env x = pure x) :
    PS X (.For tg iter body [] pos) (tSv Y (evS (.for_ t it b))) := (ps_for own hc hi hg hb hs).imp fun D σ H h => by
  obtain ⟨W, ρ, r, h⟩ := h
  have h : PostS Y W D ((evI it ρ).out fun xs ρ => forL (turnS t b) xs ρ) := by rw [evS] at h; exact h
  refine ⟨W, ρ, r, PostS.bind h fun xs ρ1 J W1 H1 e1 r1 it1 p1 => ?_⟩
  refine ⟨fun i m σ H => ∃ Wk ρk, Ext W1 Wk ∧ Rel Y Wk ρk σ H ∧ m + i = xs.length ∧ PostS Y Wk D (forL (turnS t b) (xs.drop i) ρk), ⟨xs.length, W1, ρ1, Ext.refl _, r1, by omega, by rw [List.drop_zero]; exact p1⟩, fun i m σ H2 hI => ?_⟩
  obtain ⟨Wk, ρk, ek, rk, hm, pk⟩ := hI
  by_cases hi : i < xs.length
  · refine .inr ⟨it1.go i H2 (ek.g.trans rk.ok.g) hi, fun σ H => ∃ Wk ρk, Ext W1 Wk ∧ Rel Y Wk ρk σ H ∧ PostS Y Wk D (forL (turnS t b) (xs.drop (i + 1)) ρk), fun σ' H' hN => ?_, fun x H' hy => ?_⟩
    · obtain ⟨Wk, ρk, a1, a2, a3⟩ := hN
      exact ⟨m - 1, by omega, Wk, ρk, a1, a2, by omega, a3⟩
    · obtain ⟨d, hd, hy⟩ := it1.yld i x H2 H' (ek.g.trans rk.ok.g) hi hy
      obtain ⟨W2, e2, r2, q2⟩ := hy Wk ρk _ ek.g rk
      have ed : xs.drop i = d :: xs.drop (i + 1) := by
        rw [List.drop_eq_getElem_cons hi]
        rw [List.getElem?_eq_getElem hi] at hd
        rw [Option.some.inj hd]
      rw [ed] at pk
      refine ⟨W2, ρk, d, r2, q2, ?_⟩
      have pk' : PostS Y Wk D (match turnS t b d ρk with
        | some (.nx ρ) => forL (turnS t b) (xs.drop (i + 1)) ρ
        | some (.ct ρ) => forL (turnS t b) (xs.drop (i + 1)) ρ
        | some (.bk ρ) => some (.nx ρ)
        | o => o) := pk
      cases zp : t.put d ρk with
      | none =>
        have z : turnS t b d ρk = none := by unfold turnS; rw [zp]
        rw [z] at pk'; exact pk'
      | some ρ2 =>
        have z : turnS t b d ρk = evSs b ρ2 := by unfold turnS; rw [zp]
        rw [z] at pk'
        intro σ' W3 e3 r3 _
        refine ⟨W3, ρ2, r3, ?_⟩
        match y : evSs b ρ2, pk' with
        | none, pk' => exact pk'
        | some (.nx ρ'), pk' => exact fun σ'' W' H'' e' r' => ⟨W', ρ', ek.trans (e2.trans (e3.trans e')), r', PostS.ext pk' (e2.trans (e3.trans e'))⟩
        | some (.ct ρ'), pk' => exact fun σ'' W' H'' e' r' => ⟨W', ρ', ek.trans (e2.trans (e3.trans e')), r', PostS.ext pk' (e2.trans (e3.trans e'))⟩
        | some (.bk ρ'), pk' => exact fun σ'' W' H'' e' r' => pk' σ'' W' H'' (e2.trans (e3.trans e')) r'
        | some (.rt o ρ'), pk' => exact fun v σ'' W' H'' e' r' => pk' v σ'' W' H'' (e2.trans (e3.trans e')) r'
        | some (.exc o ρ'), pk' => exact fun c d σ'' W' H'' e' r' => pk' c d σ'' W' H'' (e2.trans (e3.trans e')) r'
  · refine .inl ⟨it1.stop i H2 (ek.g.trans rk.ok.g) (by omega), ?_⟩
    rw [List.drop_eq_nil_of_le (by omega)] at pk
    exact PostS.now (ρ' := ρk) pk rk
theorem ss_whl {c : Expr} {body : List Stmt} {t : IT} {b : List IS} (own : PassesOwn (model X.prog X.w) X.A X.env X.xe) (ht : PT X c (tEvT Y (evT t))) (hb : PSs X body (tSv Y (evSs b))) : PS X (.While c body [] pos) (tSv Y (evS (.whl t b))) := (ps_while own ht hb).imp fun D σ H h => by
  obtain ⟨W, ρ, r, h⟩ := h
  have h : PostS Y W D (whlL (evT t) (evSs b) fuel ρ) := by rw [evS] at h; exact h
  refine ⟨fun m σ H => ∃ Wk ρk, Rel Y Wk ρk σ H ∧ PostS Y Wk D (whlL (evT t) (evSs b) m ρk), ⟨fuel, W, ρ, r, h⟩, fun m σ H2 hI => ?_⟩
  obtain ⟨Wk, ρk, rk, pk⟩ := hI
  cases m with
  | zero => exact pk.elim
  | succ n =>
    refine goTS (f := fun k ρ => if k = true then
        match evSs b ρ with
        | some (.nx ρ) => whlL (evT t) (evSs b) n ρ
        | some (.ct ρ) => whlL (evT t) (evSs b) n ρ
        | some (.bk ρ) => some (.nx ρ)
        | o => o
      else some (.nx ρ)) rk pk fun k ρ1 W1 H1 e1 r1 p1 => ?_
    cases k with
    | false => rw [if_neg Bool.false_ne_true] at p1 ⊢; exact p1.now r1
    | true =>
      rw [if_pos rfl] at p1 ⊢
      refine ⟨fun σ H => ∃ Wk ρk, Rel Y Wk ρk σ H ∧ PostS Y Wk D (whlL (evT t) (evSs b) n ρk), fun σ' H' hN => ⟨n, Nat.lt_succ_self _, hN⟩, W1, ρ1, r1, ?_⟩
      match y : evSs b ρ1, p1 with
      | none, p1 => exact p1
      | some (.nx ρ'), p1 => exact fun σ'' W' H'' e' r' => ⟨W', ρ', r', PostS.ext p1 e'⟩
      | some (.ct ρ'), p1 => exact fun σ'' W' H'' e' r' => ⟨W', ρ', r', PostS.ext p1 e'⟩
      | some (.bk ρ'), p1 => exact p1
      | some (.rt o ρ'), p1 => exact p1
      | some (.exc o ρ'), p1 => exact p1
end

/-! ### defs -/
section
variable {K : PySem.W.Frag} {ca : Str → Addr} {W : Wd} {H : Hp}
theorem RepAs.len : ∀ {k : Nat} {bs : List Bool} {os : List O} {vs : List V}, RepAs K ca W H k bs os vs → bs.length = vs.length ∧ os.length = vs.length
  | _, [], [], [], _ => ⟨rfl, rfl⟩
  | k, b :: bs, o :: os, v :: vs, h => let ⟨h1, h2⟩ := RepAs.len h.2; ⟨congrArg (· + 1) h1, congrArg (· + 1) h2⟩
  | _, [], [], _ :: _, h => h.elim
  | _, [], _ :: _, _, h => h.elim
  | _, _ :: _, [], _, h => h.elim
  | _, _ :: _, _ :: _, [], h => h.elim
theorem RepAs.at_ : ∀ {k : Nat} {bs : List Bool} {os : List O} {vs : List V} {i : Nat} {o : O}, RepAs K ca W H k bs os vs → os[i]? = some o → ∃ v, vs[i]? = some v ∧ RepO K ca W H (some (k + i)) o v
  | _, [], [], [], _, _, _, e => by simp at e
  | k, b :: bs, o :: os, v :: vs, 0, _, h, e => by
    cases e
    refine ⟨v, rfl, ?_⟩
    cases b with
    | true => exact h.1
    | false =>
      obtain ⟨x, rfl, q⟩ := h.1
      exact q
  | k, b :: bs, o :: os, v :: vs, i + 1, o', h, e => by
    obtain ⟨v', h1, h2⟩ := RepAs.at_ (i := i) h.2 (by simpa using e)
    exact ⟨v', by simpa using h1, by rw [show k + (i + 1) = k + 1 + i by omega]; exact h2⟩
  | _, [], [], _ :: _, _, _, h, _ => h.elim
  | _, [], _ :: _, _, _, _, h, _ => h.elim
  | _, _ :: _, [], _, _, _, h, _ => h.elim
  | _, _ :: _, _ :: _, [], _, _, h, _ => h.elim
/-- the slots that are handed over, with their values -/
def pinsOf : Nat → List Bool → List V → List (Nat × V)
  | k, true :: bs, v :: vs => (k, v) :: pinsOf (k + 1) bs vs
  | k, false :: bs, _ :: vs => pinsOf (k + 1) bs vs
  | _, _, _ => []
theorem pinsOf_at : ∀ {k : Nat} {bs : List Bool} {vs : List V} {i : Nat} {v : V}, (i, v) ∈ pinsOf k bs vs → ∃ j, i = k + j ∧ vs[j]? = some v ∧ bs[j]? = some true
  | k, true :: bs, v :: vs, i, w, h => by
    rcases List.mem_cons.mp h with h | h
    · cases h; exact ⟨0, rfl, rfl, rfl⟩
    · obtain ⟨j, rfl, e1, e2⟩ := pinsOf_at h
      exact ⟨j + 1, by omega, by simpa using e1, by simpa using e2⟩
  | k, false :: bs, v :: vs, i, w, h => by
    obtain ⟨j, rfl, e1, e2⟩ := pinsOf_at (k := k + 1) (bs := bs) (vs := vs) h
    exact ⟨j + 1, by omega, by simpa using e1, by simpa using e2⟩
  | _, [], _, _, _, h => by cases h
  | _, true :: _, [], _, _, h => by cases h
  | _, false :: _, [], _, _, h => by cases h
theorem ios_back {Y : Cy} {ρ : Env} {σ : L2.St} (r : Rel Y W ρ σ H) : ∀ {k : Nat} {bs : List Bool} {vs : List V} {ios : List O}, bs.length = vs.length → (∀ p ∈ pinsOf k bs vs, p ∈ Y.pins) → iosOf bs (ρ.drop k) = some ios → RepIs Y.K Y.ca W H k bs ios vs
  | k, [], vs, ios, _, _, h => by cases h; rfl
  | k, b :: bs, [], ios, hl, _, _ => by cases hl
  | k, b :: bs, v :: vs, ios, hl, hp, h => by
    cases z : ρ.drop k with
    | nil => rw [z] at h; cases b <;> cases h
    | cons oo rest =>
      have er : rest = ρ.drop (k + 1) := by
        have := congrArg List.tail z
        rw [List.tail_drop] at this
        exact this.symm
      have ek : ρ[k]? = some oo := by
        have := congrArg List.head? z
        rw [List.head?_drop] at this
        exact this
      rw [z, er] at h
      cases b with
      | false => exact ios_back r (k := k + 1) (bs := bs) (vs := vs) (Nat.succ.inj hl) hp h
      | true =>
        cases oo with
        | none => cases h
        | some o =>
          have h' : (iosOf bs (ρ.drop (k + 1))).map (o :: ·) = some ios := h
          cases y : iosOf bs (ρ.drop (k + 1)) with
          | none => rw [y] at h'; cases h'
          | some ios' =>
            rw [y] at h'
            cases h'
            obtain ⟨u, hu, hr⟩ := r.slot k o ek
            have := r.pin k v (hp _ List.mem_cons_self)
            rw [hu] at this
            cases this
            exact ⟨hr, ios_back r (k := k + 1) (bs := bs) (vs := vs) (Nat.succ.inj hl) (fun p h => hp p (List.mem_cons_of_mem _ h)) y⟩
end
/-- where a def's body stands -/
structure BodyCx (P : Program) (w : World) (K : PySem.W.Frag) (ca : Str → Addr) (mg : Str → Option Value) (base : Heap) (N : List Str) (io : List Bool) (sc : Scope) (k : Nat) (X : Cx) (Y : Cy) : Prop where
  xprog : X.prog = P
  xw : X.w = w
  xK : X.K = K
  xmg : X.mg = mg
  xbase : X.base = base
  xN : X.N = N
  xsc : X.env.scope = sc
  calm : X.calm = true
  room : Room k X.A
  fn : ∀ x, X.fn x = true
  takes : Takes X Y.Wx
  own : PassesOwn (model X.prog X.w) X.A X.env X.xe
  yK : Y.K = K
  yca : Y.ca = ca
  pins : ∀ i v, (i, v) ∈ Y.pins → io[i]? = some true
theorem fn_sound {P : Program} {w : World} {K : PySem.W.Frag} {ca : Str → Addr} {mg : Str → Option Value} {base : Heap} {x qual : Str} {st : Stmt} {f : Addr} {fd : FuncData} {N ps : List Str} {k : Nat} {io : List Bool} {body : List IS} (F : Fun K x qual st f fd) (S : FnScope N ps (defScope st)) (hio : io.length = ps.length) (hN : ps.length ≤ N.length)
    (hb : ∀ X Y, BodyCx P w K ca mg base N io (defScope st) k X Y → PSs X (defBody st) (tSv Y (evSs body))) : FnOk P w K mg base (L2.CX P w) (k + 1) f fd ps (spD K ca (defF N.length io body)) := by
  refine F.okX S (fun vs H Q E h => ?_) (fun cdv A outer s H vs Q E hr h => ?_)
  · obtain ⟨W, os, ok, ra, _⟩ := h
    rw [← ra.len.1]; exact hio
  · obtain ⟨W, os, ok, ra, h⟩ := h
    obtain ⟨l1, l2⟩ := ra.len
    have l1' : io.length = vs.length := l1
    refine ⟨_, hb _ ⟨K, ca, pinsOf 0 io vs, fun cls d _ H => E cls d H⟩ ⟨rfl, rfl, rfl, rfl, rfl, rfl, rfl, rfl, hr, fun _ => rfl, takes_of rfl rfl rfl rfl, passes_of rfl, rfl, rfl, fun i v hm => ?_⟩, ?_⟩
    · obtain ⟨j, rfl, e1, e2⟩ := pinsOf_at hm
      rw [Nat.zero_add]; exact e2
    · refine ⟨W, os.map some ++ List.replicate (N.length - os.length) none, ⟨ok, ?_, fun i o e => ?_, fun i v hm => ?_⟩, ?_⟩
      · unfold L2.start
        simp only [List.length_append, List.length_map, List.length_replicate]
        omega
      · have hi : i < os.length := by
          refine Decidable.byContradiction fun hn => ?_
          rw [List.getElem?_append_right (by rw [List.length_map]; omega), List.getElem?_replicate] at e
          split at e <;> cases e
        rw [List.getElem?_append_left (by rw [List.length_map]; exact hi), List.getElem?_map] at e
        cases z : os[i]? with
        | none => rw [z] at e; cases e
        | some o' =>
          rw [z] at e
          cases e
          obtain ⟨v, hv, hr'⟩ := ra.at_ z
          refine ⟨v, ?_, by rw [Nat.zero_add] at hr'; exact hr'⟩
          unfold L2.start
          rw [List.getElem?_append_left (by rw [List.length_map]; omega), List.getElem?_map, hv]; rfl
      · obtain ⟨j, rfl, e1, e2⟩ := pinsOf_at hm
        rw [Nat.zero_add]
        unfold L2.start
        rw [List.getElem?_append_left (by rw [List.length_map]; exact (List.getElem?_eq_some_iff.mp e1).1), List.getElem?_map, e1]; rfl
      · have hlen : os.length = io.length := by omega
        have h2 : match runB N.length io body os with
          | none => False
          | some (.ret r ios) => ∀ v' W' H', Ext W W' → Wok W' H' → RepIs K ca W' H' 0 io ios vs → RepO K ca W' H' none r v' → Q v' H'
          | some (.exc x ios) => ∀ cls d W' H', Ext W W' → Wok W' H' → RepIs K ca W' H' 0 io ios vs → RepX K ca W' H' x cls d → E cls d H' := h
        unfold runB at h2
        rw [if_pos hlen] at h2
        have ib : ∀ {ρ' : Env} {σ' : L2.St} {W' : Wd} {H' : Hp} {ios : List O}, Rel ⟨K, ca, pinsOf 0 io vs, fun cls d _ H => E cls d H⟩ W' ρ' σ' H' → iosOf io ρ' = some ios → RepIs K ca W' H' 0 io ios vs := fun r e => ios_back r l1' (fun p hp => hp) (by rw [List.drop_zero]; exact e)
        match z : evSs body (os.map some ++ List.replicate (N.length - os.length) none), h2 with
        | none, h2 => exact h2
        | some (.bk ρ'), h2 => exact h2.elim
        | some (.ct ρ'), h2 => exact h2.elim
        | some (.nx ρ'), h2 =>
          simp only [z] at h2
          cases y : iosOf io ρ' with
          | none => rw [y] at h2; exact h2.elim
          | some ios => rw [y] at h2; exact fun σ' W' H' e' r' => h2 .non W' H' e' r'.ok (ib r' y) Rep.non
        | some (.rt o ρ'), h2 =>
          simp only [z] at h2
          cases y : iosOf io ρ' with
          | none => rw [y] at h2; exact h2.elim
          | some ios => rw [y] at h2; exact fun v σ' W' H' e' r' q' => h2 v W' H' e' r'.ok (ib r' y) q'
        | some (.exc o ρ'), h2 =>
          simp only [z] at h2
          cases y : iosOf io ρ' with
          | none => rw [y] at h2; exact h2.elim
          | some ios => rw [y] at h2; exact fun c d σ' W' H' e' r' q' => h2 c d W' H' e' r'.ok (ib r' y) q'
end Vm

set_option Elab.async false
set_option linter.all false
set_option maxRecDepth 100000
set_option maxHeartbeats 4000000
set_option autoImplicit false
/-! Vm, part J: from the text to the small language. -/
namespace Vm
open PySem L2 PyProof.Rows

/-- what a def's body may name -/
structure Gm where
  N : List Str
  io : List Bool
  fns : List (Str × Fn) := []
  mths : List (Str × Str × Fn) := []
  mks : List (Str × Fn) := []
  flds : List (Str × List Str) := []
  consts : List (Str × D) := []
def isVis (sc : Scope) (x : Str) : Bool := match sc.names.lookup x with
  | some .local => true
  | some .cell => true
  | some .free => true
  | _ => false
def isLoc (top : Bool) (sc : Scope) (x : Str) : Bool := match sc.names.lookup x with
  | some .local => true
  | some .cell => top
  | _ => false
def isGl (sc : Scope) (x : Str) : Bool := match sc.names.lookup x with
  | some .globalImplicit => true
  | _ => false
def okName (x : Str) : Bool := !(x == ("__debug__" : Str)) && !(x == ("__classdict__" : Str))
/-- the slot of a name that is seen -/
def slotOf (g : Gm) (sc : Scope) (x : Str) : Option Nat := if isVis sc x && okName x then g.N.findIdx? (· == x) else none
/-- the slot of a name that may be stored -/
def slotS (g : Gm) (top : Bool) (sc : Scope) (x : Str) : Option Nat :=
  if isLoc top sc x then match g.N.findIdx? (· == x) with
    | some i => if (g.io[i]?).getD false = false then some i else none
    | none => none
  else none
def bopOf : Operator → Option BOp
  | .Add => some .add
  | .Sub => some .sub
  | .Mult => some .mul
  | .FloorDiv => some .fdiv
  | .Mod => some .mod
  | .Pow => some .pow
  | _ => none
def copOf : CmpOp → Option COp
  | .Eq => some .eq
  | .NotEq => some .ne
  | .Lt => some .lt
  | .LtE => some .le
  | .Gt => some .gt
  | .GtE => some .ge
  | .Is => some .is_
  | .IsNot => some .isNot
  | .In => some .in_
  | .NotIn => some .notIn
def isStar : Expr → Bool
  | .Starred _ _ => true
  | _ => false
def isSlice : Expr → Bool
  | .Slice _ _ _ _ => true
  | _ => false
def isSet : Expr → Bool
  | .Set _ _ _ => true
  | _ => false
def isComp : Expr → Bool
  | .ListComp _ _ _ _ => true
  | .SetComp _ _ _ _ => true
  | .DictComp _ _ _ _ _ => true
  | _ => false
/-- an expression whose attributes are read plainly -/
def baseOk : Expr → Bool
  | .Call _ _ _ _ => false
  | _ => true
/-- a constant -/
def cC (g : Gm) (sc : Scope) : Expr → Option D
  | .Constant .none _ _ => some .non
  | .Constant (.bool b) _ _ => some (.bl b)
  | .Constant (.int i) _ _ => some (.int i)
  | .Constant (.str x) _ _ => some (.str x)
  | .UnaryOp .USub (.Constant (.int i) _ _) _ => some (.int (-i))
  | .Name x _ => if isGl sc x && okName x then g.consts.lookup x else none
  | _ => none
def bltOf (x : Str) : Option Blt :=
  if x = "len" then some .len else if x = "int" then some .int_ else if x = "abs" then some .abs_ else if x = "tuple" then some .tuple_ else if x = "list" then some .list_ else if x = "sum" then some .sum_
  else if x = "all" then some .all_ else if x = "any" then some .any_ else if x = "min" then some .min2 else if x = "max" then some .max2 else none
/-- what is assigned, as a target of plain names -/
def cTgt (g : Gm) (top : Bool) (sc : Scope) : Expr → Option Tgt
  | .Name x _ => (slotS g top sc x).map .nm
  | .Tuple es _ _ => (go es).map .tp
  | _ => none
where go : List Expr → Option (List Nat)
  | [] => some []
  | .Name x _ :: es => match slotS g top sc x with
    | some i => (go es).map (i :: ·)
    | none => none
  | _ :: _ => none
/-- a comprehension's own names with their slots -/
def ownOf (g : Gm) : Expr → Option (List (Str × Nat))
  | .Name x _ => (g.N.findIdx? (· == x)).map fun i => [(x, i)]
  | .Tuple es _ _ => go es
  | _ => none
where go : List Expr → Option (List (Str × Nat))
  | [] => some []
  | .Name x _ :: es => match g.N.findIdx? (· == x) with
    | some i => (go es).map ((x, i) :: ·)
    | none => none
  | _ :: _ => none
def noIo (g : Gm) (is : List Nat) : Bool := is.all fun i => !((g.io[i]?).getD false)
/-- the compiler one step down -/
structure Rc where
  e : Scope → Expr → Option IE
  es : Scope → List Expr → Option (List IE)
  as_ : Scope → List Bool → List Expr → Option (List IE)
  o : Scope → Option Expr → Option (Option IE)
  and_ : Scope → List Expr → Option IE
  or_ : Scope → List Expr → Option IE
  t : Scope → Expr → Option IT
  tA : Scope → List Expr → Option IT
  tO : Scope → List Expr → Option IT
  ifs : Scope → List Expr → Option (Option IT)
  i : Scope → Expr → Option II
/-- an argument -/
def cA (g : Gm) (r : Rc) (sc : Scope) (b : Bool) (e : Expr) : Option IE :=
  if b = true then match e with
    | .Name x _ => (slotOf g sc x).map .var
    | e => match r.e sc e with
      | some (.var _) => none
      | z => z
  else r.e sc e
/-- an expression -/
def cE (g : Gm) (r : Rc) (sc : Scope) (e : Expr) : Option IE := match cC g sc e with
    | some x => some (.c x)
    | none => match e with
      | .Name x _ => (slotOf g sc x).map .var
      | .Tuple es _ _ => (r.es sc es).map .tup
      | .List es _ => (r.es sc es).map .lst
      | .BinOp a op b _ => match r.e sc a, bopOf op, r.e sc b with
        | some a, some op, some b => some (.bin op a b)
        | _, _, _ => none
      | .UnaryOp .USub a _ => (r.e sc a).map .neg
      | .UnaryOp .Not a _ => (r.e sc a).map .notV
      | .Compare a [op] [b] _ => if isSet b then none else match r.e sc a, copOf op, cC g sc b with
        | some a, some op, some x => some (.cmp op a (.c x))
        | some a, some op, none => match r.e sc b with
          | some b => if b.still then none else some (.cmp op a b)
          | none => none
        | _, _, _ => none
      | .Compare a [op, op'] [b, c] _ => if isSet c then none else match r.e sc a, copOf op, copOf op', r.e sc b, r.e sc c with
        | some a, some op, some op', some b, some c => some (.chain op op' a b c)
        | _, _, _, _, _ => none
      | .BoolOp .And es _ => r.and_ sc es
      | .BoolOp .Or es _ => r.or_ sc es
      | .IfExp t a b _ => match r.t sc t, r.e sc a, r.e sc b with
        | some t, some a, some b => some (.ifx t a b)
        | _, _, _ => none
      | .Subscript (.Name x _) (.Slice lo hi none _) _ => match slotOf g sc x, r.o sc lo, r.o sc hi with
        | some k, some lo, some hi => some (.slV k lo hi)
        | _, _, _ => none
      | .Subscript a (.Slice lo hi none _) _ => match r.e sc a, r.o sc lo, r.o sc hi with
        | some a, some lo, some hi => some (.sl a lo hi)
        | _, _, _ => none
      | .Subscript (.Name x _) i _ => if isSlice i then none else match slotOf g sc x, r.e sc i with
        | some k, some i => some (.idxV k i)
        | _, _ => none
      | .Subscript a i _ => if isSlice i then none else match r.e sc a, cC g sc i with
        | some a, some x => some (.idx a (.c x))
        | some a, none => match r.e sc i with
          | some i => if i.still then none else some (.idx a i)
          | none => none
        | _, _ => none
      | .Attribute (.Name x _) f _ => match slotOf g sc x, g.flds.lookup f with
        | some i, some Cs => some (.fldV i f Cs)
        | _, _ => none
      | .Attribute a f _ => if baseOk a then match r.e sc a, g.flds.lookup f with
          | some a, some Cs => some (.fld a f Cs)
          | _, _ => none
        else none
      | .Call (.Name x _) es [] _ => if isGl sc x && okName x then match g.fns.lookup x with
          | some fn => (r.as_ sc fn.io es).map (.call fn)
          | none => match g.mks.lookup x with
            | some fn => (r.es sc es).map (.mk x fn)
            | none => match bltOf x with
              | some b => match es with
                | [a] => if isStar a then none else (r.e sc a).map (.blt1 b)
                | _ :: _ => (r.es sc es).map (.blt b)
                | [] => none
              | none => none
        else none
      | .Call (.Attribute o m apos) es [] pos => if baseOk o && (apos.endLine == pos.line) && decide (es.length < 29) then match g.mths.lookup m with
          | some (C, fn) => match fn.io with
            | b :: bs => match cA g r sc b o, r.as_ sc bs es with
              | some io, some ies => some (.mth C m fn io ies)
              | _, _ => none
            | [] => none
          | none => none
        else none
      | .ListComp elt [⟨tg, iter, ifs, 0⟩] scope _ => match ownOf g tg, cTgt g false (relS scope sc) tg, r.i sc iter, r.ifs (relS scope sc) ifs, r.e (relS scope sc) elt with
        | some own, some t, some it, some c, some e => if blkC g.N sc scope own && noIo g (own.map (·.2)) && t.slots.all (fun i => decide (i ∈ own.map (·.2))) then some (.lc (own.map (·.2)) t it c e) else none
        | _, _, _, _, _ => none
      | _ => none
/-- several, none with a star -/
def cEs (r : Rc) (sc : Scope) : List Expr → Option (List IE)
  | [] => some []
  | e :: es => if isStar e then none else match r.e sc e, r.es sc es with
    | some a, some as => some (a :: as)
    | _, _ => none
/-- the arguments of a def -/
def cAs (g : Gm) (r : Rc) (sc : Scope) : List Bool → List Expr → Option (List IE)
  | [], [] => some []
  | b :: bs, e :: es => if isStar e then none else match cA g r sc b e, r.as_ sc bs es with
    | some a, some as => some (a :: as)
    | _, _ => none
  | _, _ => none
def cO (r : Rc) (sc : Scope) : Option Expr → Option (Option IE)
  | none => some none
  | some e => (r.e sc e).map some
def cAnd (r : Rc) (sc : Scope) : List Expr → Option IE
  | [e] => r.e sc e
  | e :: es => match r.e sc e, r.and_ sc es with
    | some a, some b => some (.andV a b)
    | _, _ => none
  | [] => none
def cOr (r : Rc) (sc : Scope) : List Expr → Option IE
  | [e] => r.e sc e
  | e :: es => match r.e sc e, r.or_ sc es with
    | some a, some b => some (.orV a b)
    | _, _ => none
  | [] => none
/-- a test -/
def cT (g : Gm) (r : Rc) (sc : Scope) (e : Expr) : Option IT := match e with
    | .UnaryOp .Not a _ => (r.t sc a).map .not
    | .BoolOp .And es _ => r.tA sc es
    | .BoolOp .Or es _ => r.tO sc es
    | .IfExp _ _ _ _ => none
    | .Compare a [op] [b] _ => if isSet b then none else match r.e sc a, copOf op, cC g sc b with
      | some a, some op, some x => some (.val (.cmp op a (.c x)))
      | some a, some op, none => match r.e sc b with
        | some b => if b.still then none else some (.val (.cmp op a b))
        | none => none
      | _, _, _ => none
    | .Compare a [op, op'] [b, c] _ => if isSet c then none else match r.e sc a, copOf op, copOf op', r.e sc b, r.e sc c with
      | some a, some op, some op', some b, some c => some (.val (.chain op op' a b c))
      | _, _, _, _, _ => none
    | .Compare _ _ _ _ => none
    | e => (r.e sc e).map .tru
def cTA (r : Rc) (sc : Scope) : List Expr → Option IT
  | [e] => r.t sc e
  | e :: es => match r.t sc e, r.tA sc es with
    | some a, some b => some (.and a b)
    | _, _ => none
  | [] => none
def cTO (r : Rc) (sc : Scope) : List Expr → Option IT
  | [e] => r.t sc e
  | e :: es => match r.t sc e, r.tO sc es with
    | some a, some b => some (.or a b)
    | _, _ => none
  | [] => none
def cIf (r : Rc) (sc : Scope) : List Expr → Option (Option IT)
  | [] => some none
  | [c] => (r.t sc c).map some
  | _ => none
/-- what is walked -/
def cI (g : Gm) (r : Rc) (sc : Scope) (e : Expr) : Option II := match e with
    | .Call (.Name x _) es [] _ => if x = "range" then (if isGl sc x && decide (es.length ≤ 3) && decide (0 < es.length) then (r.es sc es).map (.rng es.length) else none) else (r.e sc e).map .seq
    | .Set _ _ _ => none
    | e => (r.e sc e).map .seq
/-- one step up -/
def Rc.up (g : Gm) (r : Rc) : Rc where
  e := cE g r
  es := cEs r
  as_ := cAs g r
  o := cO r
  and_ := cAnd r
  or_ := cOr r
  t := cT g r
  tA := cTA r
  tO := cTO r
  ifs := cIf r
  i := cI g r
def Rc.zero : Rc := ⟨fun _ _ => none, fun _ _ => none, fun _ _ _ => none, fun _ _ => none, fun _ _ => none, fun _ _ => none, fun _ _ => none, fun _ _ => none, fun _ _ => none, fun _ _ => none, fun _ _ => none⟩
def rc (g : Gm) : Nat → Rc
  | 0 => .zero
  | n + 1 => (rc g n).up g
end Vm

set_option Elab.async false
set_option linter.all false
set_option maxRecDepth 100000
set_option maxHeartbeats 4000000
set_option autoImplicit false
/-! Vm, part K: the text does what the small language says: expressions. -/
namespace Vm
open PySem L2 PyProof.Rows

structure CtxOk (g : Gm) (sc : Scope) (top : Bool) (lv : Nat) (X : Cx) (Y : Cy) : Prop where
  hK : X.K = Y.K
  hN : X.N = g.N
  nd : g.N.Nodup
  sc : X.env.scope = sc
  calm : X.calm = true
  room : Room lv X.A
  fnT : top = true → ∀ x, X.fn x = true
  takes : Takes X Y.Wx
  pins : ∀ i v, (i, v) ∈ Y.pins → g.io[i]? = some true
  fns : ∀ x fn, g.fns.lookup x = some fn → FunOk Y X lv x fn
  mths : ∀ m C fn, g.mths.lookup m = some (C, fn) → MthOk Y X lv C m fn
  mks : ∀ C fn, g.mks.lookup C = some fn → ∃ l, lv = l + 1 ∧ MkOk Y X l C fn
  flds : ∀ f Cs, g.flds.lookup f = some Cs → FldOk Y f Cs
  blt : ∀ b : Blt, X.mg b.name = none
  rng : X.mg "range" = none
  consts : ∀ x d, g.consts.lookup x = some d → ∃ v u, X.mg x = some u ∧ RelV v u ∧ ∀ G, Rep Y.K Y.ca G d v
theorem find_at {x : Str} : ∀ {N : List Str} {i : Nat}, N.findIdx? (· == x) = some i → N[i]? = some x := by
  intro N i h
  obtain ⟨hl, e, _⟩ := List.findIdx?_eq_some_iff_getElem.mp h
  rw [List.getElem?_eq_getElem hl, beq_iff_eq.mp e]
section
variable {g : Gm} {sc : Scope} {top : Bool} {lv : Nat} {X : Cx} {Y : Cy}
theorem okName_of {x : Str} (h : okName x = true) : (x == ("__debug__" : Str)) = false ∧ (x == ("__classdict__" : Str)) = false := by
  unfold okName at h
  rw [Bool.and_eq_true, Bool.not_eq_true', Bool.not_eq_true'] at h
  exact h
theorem isVis_of {x : Str} (h : isVis sc x = true) : Vis sc x := by
  unfold isVis at h
  unfold Vis
  split at h
  · rename_i e; exact .inl e
  · rename_i e; exact .inr (.inl e)
  · rename_i e; exact .inr (.inr e)
  · cases h
theorem isGl_of {x : Str} (h : isGl sc x = true) : sc.names.lookup x = some .globalImplicit := by
  unfold isGl at h
  split at h
  · rename_i e; exact e
  · cases h
theorem CtxOk.gl (c : CtxOk g sc top lv X Y) {x : Str} (h : isGl sc x = true) : Gl X x := by
  show X.env.scope.names.lookup x = _
  rw [c.sc]; exact isGl_of h
theorem CtxOk.slot (c : CtxOk g sc top lv X Y) {x : Str} {i : Nat} (h : slotOf g sc x = some i) : X.N[i]? = some x ∧ Vis X.env.scope x ∧ (x == ("__debug__" : Str)) = false ∧ (x == ("__classdict__" : Str)) = false := by
  unfold slotOf at h
  split at h
  · rename_i h1
    rw [Bool.and_eq_true] at h1
    rw [c.hN, c.sc]
    exact ⟨find_at h, isVis_of h1.1, okName_of h1.2⟩
  · cases h
theorem CtxOk.slotS (c : CtxOk g sc top lv X Y) {x : Str} {i : Nat} (h : Vm.slotS g top sc x = some i) : X.N[i]? = some x ∧ L2.Loc X.env.scope x ∧ (X.fn x = true ∨ X.env.scope.names.lookup x = some .local) ∧ NoPin Y i := by
  unfold Vm.slotS at h
  split at h
  · rename_i h1
    split at h
    · rename_i j h2
      split at h
      · rename_i h3
        cases h
        rw [c.hN, c.sc]
        refine ⟨find_at h2, ?_, ?_, fun u hu => ?_⟩
        · unfold isLoc at h1
          unfold L2.Loc
          split at h1
          · rename_i e; exact .inl e
          · rename_i e; exact .inr e
          · cases h1
        · unfold isLoc at h1
          split at h1
          · rename_i e; exact .inr e
          · exact .inl (c.fnT h1 x)
          · cases h1
        · have := c.pins _ u hu
          rw [this] at h3
          cases h3
      · cases h
    · cases h
  · cases h
theorem bopOf_of {op : Operator} {b : BOp} (h : bopOf op = some b) : op = b.op := by
  cases op <;> cases h <;> rfl
theorem copOf_of {op : CmpOp} {b : COp} (h : copOf op = some b) : op = b.op := by
  cases op <;> cases h <;> rfl
theorem bltOf_of {x : Str} {b : Blt} (h : bltOf x = some b) : x = b.name := by
  unfold bltOf at h
  repeat' split at h
  all_goals first | (cases h; assumption) | cases h
theorem noMarks {op : CmpOp} {b : Expr} (h : isSet b = false) : behindInMarks op b = false := by
  cases b <;> first | rfl | cases h
theorem noMarks2 {op op' : CmpOp} {b c : Expr} (h : isSet c = false) : lastMarks [op, op'] [b, c] = false := by
  show behindInMarks op' c = false
  exact noMarks h
theorem star_of {e : Expr} {es : List Expr} {env : PySem.Env} (h : isStar e = false) : starEach (e :: es) env = (false, eval e env) :: starEach es env := by
  cases e <;> first | rfl | cases h
theorem plainIx_of {e : Expr} (h : isSlice e = false) : PlainIx e := by
  intro o i
  cases e <;> first | rfl | cases h
theorem base_of {e : Expr} {f : Str} {env : PySem.Env} (h : baseOk e = true) : attributeBase e f env (eval e env) = eval e env := by
  cases e <;> first | rfl | cases h
/-- no star in a row -/
def allPlain : List Expr → Bool
  | [] => true
  | e :: es => !isStar e && allPlain es
theorem plain_any {pos : Pos} {env : PySem.Env} : ∀ {es : List Expr}, allPlain es = true → (backTo pos (starEach es env)).any (·.1) = false
  | [], _ => rfl
  | e :: es, h => by
    have h' : (!isStar e && allPlain es) = true := h
    rw [Bool.and_eq_true, Bool.not_eq_true'] at h'
    rw [star_of h'.1]
    show (false || (backTo pos (starEach es env)).any (·.1)) = false
    rw [plain_any h'.2]; rfl
theorem plain_few {pos : Pos} {env : PySem.Env} : ∀ {es : List Expr}, allPlain es = true → (backTo pos (starEach es env)).all (fun x => !x.1) = true
  | [], _ => rfl
  | e :: es, h => by
    have h' : (!isStar e && allPlain es) = true := h
    rw [Bool.and_eq_true, Bool.not_eq_true'] at h'
    rw [star_of h'.1]
    show (true && (backTo pos (starEach es env)).all (fun x => !x.1)) = true
    rw [plain_few h'.2]; rfl
/-- a method's call by its parts -/
theorem meth_eval {o : Expr} {m : Str} {apos pos : Pos} {es : List Expr} {env : PySem.Env} (hb : baseOk o = true) (hl : (apos.endLine == pos.line) = true) (hp : allPlain es = true) (hn : es.length < 29) :
    eval (.Call (.Attribute o m apos) es [] pos) env = (do
      let ov ← eval o env
      standAt apos.atName
      let (f, first) ← holding [ov] (getMethod ov m (do return (← importBound o env).getD true))
      callWith pos f first (backTo pos (starEach es env)) (backToKw pos (keywordEach [] env))) := by
  have hf : methodCallForm (es.length + ([] : List Keyword).length) (backTo pos (starEach es env)) (backToKw pos (keywordEach [] env)) = true := by
    unfold methodCallForm
    rw [plain_few hp]
    show (true && true && decide (es.length + 0 + 0 < 30)) = true
    rw [decide_eq_true (by omega)]; rfl
  rw [eval, base_of hb]
  unfold methodCall calleeOf methodCallPos
  rw [hf, hl]
  rfl
/-- a constant -/
theorem cC_ok (c : CtxOk g sc top lv X Y) {e : Expr} {x : D} (h : cC g sc e = some x) : ∃ v, PE X e (tC v) ∧ ∀ G, Rep Y.K Y.ca G x v := by
  unfold cC at h
  split at h
  · cases h; exact ⟨_, pe_non, fun _ => .non⟩
  · cases h; exact ⟨_, pe_bl, fun _ => .bl _⟩
  · cases h; exact ⟨_, pe_int, fun _ => .int _⟩
  · cases h; exact ⟨_, pe_str, fun _ => .str _⟩
  · rename_i i k p p'
    cases h
    exact ⟨.int (-i), (pe_un un_neg pe_int).imp fun σ H Q q => ⟨i, rfl, q⟩, fun _ => .int _⟩
  · rename_i y p
    split at h
    · rename_i hg
      rw [Bool.and_eq_true] at hg
      obtain ⟨v, u, hm, r, q⟩ := c.consts y x h
      exact ⟨v, pe_glob (c.gl hg.1) hm r (okName_of hg.2).1, q⟩
    · cases h
  · cases h
end
end Vm

set_option Elab.async false
set_option linter.all false
set_option maxRecDepth 100000
set_option maxHeartbeats 4000000
set_option autoImplicit false
/-! Vm, part L: expressions are compiled soundly. -/
namespace Vm
open PySem L2 PyProof.Rows

structure Snd (g : Gm) (r : Rc) : Prop where
  e : ∀ {sc : Scope} {top : Bool} {lv : Nat} {X : Cx} {Y : Cy}, CtxOk g sc top lv X Y → ∀ {e : Expr} {ie : IE}, r.e sc e = some ie → PE X e (tEv Y (evE ie)) ∧ PE X e (tEvP Y fun ρ => pk ie (evE ie ρ) ρ)
  es : ∀ {sc : Scope} {top : Bool} {lv : Nat} {X : Cx} {Y : Cy}, CtxOk g sc top lv X Y → ∀ {es : List Expr} {ies : List IE}, r.es sc es = some ies → PA X es (tEvs Y (evEs ies))
  len : ∀ {sc : Scope} {es : List Expr} {ies : List IE}, r.es sc es = some ies → ies.length = es.length ∧ allPlain es = true
  as_ : ∀ {sc : Scope} {top : Bool} {lv : Nat} {X : Cx} {Y : Cy}, CtxOk g sc top lv X Y → ∀ {bs : List Bool} {es : List Expr} {ies : List IE}, r.as_ sc bs es = some ies → PA X es (tEvA Y (evAs bs ies))
  alen : ∀ {sc : Scope} {bs : List Bool} {es : List Expr} {ies : List IE}, r.as_ sc bs es = some ies → ies.length = es.length ∧ allPlain es = true
  o : ∀ {sc : Scope} {top : Bool} {lv : Nat} {X : Cx} {Y : Cy}, CtxOk g sc top lv X Y → ∀ {e : Option Expr} {ie : Option IE}, r.o sc e = some ie → PO X e (tEvO Y (evO ie))
  and_ : ∀ {sc : Scope} {top : Bool} {lv : Nat} {X : Cx} {Y : Cy}, CtxOk g sc top lv X Y → ∀ {es : List Expr} {ie : IE}, r.and_ sc es = some ie → ∀ pos, PE X (.BoolOp .And es pos) (tEv Y (evE ie)) ∧ PE X (.BoolOp .And es pos) (tEvP Y fun ρ => pk ie (evE ie ρ) ρ)
  or_ : ∀ {sc : Scope} {top : Bool} {lv : Nat} {X : Cx} {Y : Cy}, CtxOk g sc top lv X Y → ∀ {es : List Expr} {ie : IE}, r.or_ sc es = some ie → ∀ pos, PE X (.BoolOp .Or es pos) (tEv Y (evE ie)) ∧ PE X (.BoolOp .Or es pos) (tEvP Y fun ρ => pk ie (evE ie ρ) ρ)
  t : ∀ {sc : Scope} {top : Bool} {lv : Nat} {X : Cx} {Y : Cy}, CtxOk g sc top lv X Y → ∀ {e : Expr} {it : IT}, r.t sc e = some it → PT X e (tEvT Y (evT it))
  tA : ∀ {sc : Scope} {top : Bool} {lv : Nat} {X : Cx} {Y : Cy}, CtxOk g sc top lv X Y → ∀ {es : List Expr} {it : IT}, r.tA sc es = some it → ∀ pos, PW X (.BoolOp .And es pos) (tEvT Y (evT it))
  tO : ∀ {sc : Scope} {top : Bool} {lv : Nat} {X : Cx} {Y : Cy}, CtxOk g sc top lv X Y → ∀ {es : List Expr} {it : IT}, r.tO sc es = some it → ∀ pos, PW X (.BoolOp .Or es pos) (tEvT Y (evT it))
  ifs : ∀ {sc : Scope} {top : Bool} {lv : Nat} {X : Cx} {Y : Cy}, CtxOk g sc top lv X Y → ∀ {es : List Expr} {c : Option IT}, r.ifs sc es = some c → PTs X es (tEvT Y (condE c))
  i : ∀ {sc : Scope} {top : Bool} {lv : Nat} {X : Cx} {Y : Cy}, CtxOk g sc top lv X Y → ∀ {e : Expr} {ii : II}, r.i sc e = some ii → ∀ tg, PI X tg e (tEvI Y (evI ii))
  iset : ∀ {sc : Scope} {e : Expr} {ii : II}, r.i sc e = some ii → isSet e = false
theorem snd0 {g : Gm} : Snd g .zero where
  e := fun _ _ _ h => nomatch h
  es := fun _ _ _ h => nomatch h
  len := fun h => nomatch h
  as_ := fun _ _ _ _ h => nomatch h
  alen := fun h => nomatch h
  o := fun _ _ _ h => nomatch h
  and_ := fun _ _ _ h => nomatch h
  or_ := fun _ _ _ h => nomatch h
  t := fun _ _ _ h => nomatch h
  tA := fun _ _ _ h => nomatch h
  tO := fun _ _ _ h => nomatch h
  ifs := fun _ _ _ h => nomatch h
  i := fun _ _ _ h => nomatch h
  iset := fun h => nomatch h
section
variable {g : Gm} {r : Rc} {sc : Scope} {top : Bool} {lv : Nat} {X : Cx} {Y : Cy}
theorem mapSome {α β : Type} {f : α → β} {x : Option α} {y : β} (h : x.map f = some y) : ∃ a, x = some a ∧ f a = y := by
  cases x with
  | none => cases h
  | some a => exact ⟨a, rfl, Option.some.inj h⟩
theorem arg_ok (S : Snd g r) (c : CtxOk g sc top lv X Y) {b : Bool} {e : Expr} {ie : IE} (h : cA g r sc b e = some ie) : PE X e (tArg Y b ie) := by
  unfold cA at h
  split at h
  · rename_i hb
    subst hb
    split at h
    · rename_i x p
      obtain ⟨i, h1, rfl⟩ := mapSome h
      obtain ⟨h1, h2, h3, h4⟩ := c.slot h1
      exact sg_io h1 h2 h3 h4
    · split at h
      · cases h
      · rename_i hn
        refine sg_v (S.e c h).1 fun r ρ => ?_
        cases ie with
        | var i => exact absurd h (hn i)
        | _ => rfl
  · rename_i hb
    refine sg_v (S.e c h).1 fun r ρ => ?_
    cases b with
    | true => exact absurd rfl hb
    | false => rfl
theorem and_1 (S : Snd g r) (c : CtxOk g sc top lv X Y) {es : List Expr} {ie : IE} (h : cAnd r sc es = some ie) (pos : Pos) : PE X (.BoolOp .And es pos) (tEv Y (evE ie)) ∧ PE X (.BoolOp .And es pos) (tEvP Y fun ρ => pk ie (evE ie ρ) ρ) := by
  cases es with
  | nil => unfold cAnd at h; cases h
  | cons e es =>
    cases es with
    | nil =>
      unfold cAnd at h
      exact ⟨pe_one (S.e c h).1, pe_one (S.e c h).2⟩
    | cons e2 es =>
      unfold cAnd at h
      dsimp only at h
      split at h
      · rename_i a b h1 h2
        cases h
        have q := se_and (S.e c h1).1 (S.and_ c h2 pos).1
        exact ⟨q, sp_of q fun _ _ => rfl⟩
      · cases h
theorem or_1 (S : Snd g r) (c : CtxOk g sc top lv X Y) {es : List Expr} {ie : IE} (h : cOr r sc es = some ie) (pos : Pos) : PE X (.BoolOp .Or es pos) (tEv Y (evE ie)) ∧ PE X (.BoolOp .Or es pos) (tEvP Y fun ρ => pk ie (evE ie ρ) ρ) := by
  cases es with
  | nil => unfold cOr at h; cases h
  | cons e es =>
    cases es with
    | nil =>
      unfold cOr at h
      exact ⟨pe_one (S.e c h).1, pe_one (S.e c h).2⟩
    | cons e2 es =>
      unfold cOr at h
      dsimp only at h
      split at h
      · rename_i a b h1 h2
        cases h
        have q := se_or (S.e c h1).1 (S.or_ c h2 pos).1
        exact ⟨q, sp_of q fun _ _ => rfl⟩
      · cases h
theorem tA_1 (S : Snd g r) (c : CtxOk g sc top lv X Y) {es : List Expr} {ie : IT} (h : cTA r sc es = some ie) (pos : Pos) : PW X (.BoolOp .And es pos) (tEvT Y (evT ie)) := by
  cases es with
  | nil => unfold cTA at h; cases h
  | cons e es =>
    cases es with
    | nil =>
      unfold cTA at h
      exact st_and1 (S.t c h)
    | cons e2 es =>
      unfold cTA at h
      dsimp only at h
      split at h
      · rename_i a b h1 h2
        cases h
        exact st_and (S.t c h1) (S.tA c h2 pos)
      · cases h
theorem tO_1 (S : Snd g r) (c : CtxOk g sc top lv X Y) {es : List Expr} {ie : IT} (h : cTO r sc es = some ie) (pos : Pos) : PW X (.BoolOp .Or es pos) (tEvT Y (evT ie)) := by
  cases es with
  | nil => unfold cTO at h; cases h
  | cons e es =>
    cases es with
    | nil =>
      unfold cTO at h
      exact st_or1 (S.t c h)
    | cons e2 es =>
      unfold cTO at h
      dsimp only at h
      split at h
      · rename_i a b h1 h2
        cases h
        exact st_or (S.t c h1) (S.tO c h2 pos)
      · cases h
theorem es_1 (S : Snd g r) (c : CtxOk g sc top lv X Y) {es : List Expr} {ies : List IE} (h : cEs r sc es = some ies) : PA X es (tEvs Y (evEs ies)) := by
  cases es with
  | nil => unfold cEs at h; cases h; exact sa_nil
  | cons e es =>
    unfold cEs at h
    dsimp only at h
    split at h
    · cases h
    · rename_i hs
      split at h
      · rename_i a as h1 h2
        cases h
        exact sa_cons (S.e c h1).1 (S.es c h2) (star_of (by simpa using hs))
      · cases h
theorem as_1 (S : Snd g r) (c : CtxOk g sc top lv X Y) {bs : List Bool} {es : List Expr} {ies : List IE} (h : cAs g r sc bs es = some ies) : PA X es (tEvA Y (evAs bs ies)) := by
  cases bs with
  | nil =>
    cases es with
    | nil => unfold cAs at h; cases h; exact sas_nil
    | cons e es => simp [cAs] at h
  | cons b bs =>
    cases es with
    | nil => simp [cAs] at h
    | cons e es =>
      unfold cAs at h
      dsimp only at h
      split at h
      · cases h
      · rename_i hs
        split at h
        · rename_i a as h1 h2
          cases h
          exact sas_cons (arg_ok S c h1) (S.as_ c h2) (star_of (by simpa using hs))
        · cases h
theorem o_1 (S : Snd g r) (c : CtxOk g sc top lv X Y) {e : Option Expr} {ie : Option IE} (h : cO r sc e = some ie) : PO X e (tEvO Y (evO ie)) := by
  cases e with
  | none => unfold cO at h; cases h; exact so_none
  | some e =>
    unfold cO at h
    obtain ⟨a, h1, rfl⟩ := mapSome h
    exact so_some (S.e c h1).1
theorem ifs_1 (S : Snd g r) (c : CtxOk g sc top lv X Y) {es : List Expr} {ic : Option IT} (h : cIf r sc es = some ic) : PTs X es (tEvT Y (condE ic)) := by
  cases es with
  | nil =>
    unfold cIf at h; cases h
    exact ⟨fun pins s σ H Q I hw => by
      obtain ⟨W, ρ, r, h⟩ := hw
      exact pts_nil.run pins s σ H Q I (Post.now h r rfl)⟩
  | cons e es =>
    cases es with
    | nil =>
      unfold cIf at h
      obtain ⟨a, h1, rfl⟩ := mapSome h
      exact pts_one (S.t c h1)
    | cons e2 es => simp [cIf] at h
theorem i_1 (S : Snd g r) (c : CtxOk g sc top lv X Y) {e : Expr} {ii : II} (h : cI g r sc e = some ii) (tg : Expr) : PI X tg e (tEvI Y (evI ii)) := by
  unfold cI at h
  split at h
  · rename_i x p es pos
    split at h
    · rename_i hx
      subst hx
      split at h
      · rename_i hc
        rw [Bool.and_eq_true, Bool.and_eq_true] at hc
        obtain ⟨⟨hg, hl⟩, hl2⟩ := hc
        obtain ⟨as, h1, rfl⟩ := mapSome h
        obtain ⟨hn, hp⟩ := S.len h1
        have q := S.es c h1
        have hG := c.gl hg
        cases es with
        | nil => simp at hl2
        | cons e1 es =>
          cases es with
          | nil =>
            match as, hn with
            | [a1], _ =>
              have s1 : isStar e1 = false := by simpa [allPlain] using hp
              exact si_rng1 hG c.rng q (star_of s1)
          | cons e2 es =>
            cases es with
            | nil =>
              match as, hn with
              | [a1, a2], _ =>
                have s1 : isStar e1 = false ∧ isStar e2 = false := by simpa [allPlain] using hp
                exact si_rng2 hG c.rng q (by rw [star_of s1.1, star_of s1.2]; rfl) (star_of s1.2)
            | cons e3 es =>
              cases es with
              | nil =>
                match as, hn with
                | [a1, a2, a3], _ =>
                  have s1 : isStar e1 = false ∧ isStar e2 = false ∧ isStar e3 = false := by simpa [allPlain] using hp
                  exact si_rng3 hG c.rng q (star_of s1.1) (plain_any (by simp [allPlain, s1.2.1, s1.2.2]))
              | cons e4 es => simp at hl
      · cases h
    · obtain ⟨a, h1, rfl⟩ := mapSome h
      exact si_seq c.hK (S.e c h1).1
  · cases h
  · obtain ⟨a, h1, rfl⟩ := mapSome h
    exact si_seq c.hK (S.e c h1).1
theorem len_1 (S : Snd g r) {es : List Expr} {ies : List IE} (h : cEs r sc es = some ies) : ies.length = es.length ∧ allPlain es = true := by
  cases es with
  | nil => unfold cEs at h; cases h; exact ⟨rfl, rfl⟩
  | cons e es =>
    unfold cEs at h
    dsimp only at h
    split at h
    · cases h
    · rename_i hs
      split at h
      · rename_i a as h1 h2
        cases h
        obtain ⟨l, p⟩ := S.len h2
        exact ⟨by simp [l], by simp [allPlain, p]; simpa using hs⟩
      · cases h
theorem alen_1 (S : Snd g r) {bs : List Bool} {es : List Expr} {ies : List IE} (h : cAs g r sc bs es = some ies) : ies.length = es.length ∧ allPlain es = true := by
  cases bs with
  | nil =>
    cases es with
    | nil => unfold cAs at h; cases h; exact ⟨rfl, rfl⟩
    | cons e es => simp [cAs] at h
  | cons b bs =>
    cases es with
    | nil => simp [cAs] at h
    | cons e es =>
      unfold cAs at h
      dsimp only at h
      split at h
      · cases h
      · rename_i hs
        split at h
        · rename_i a as h1 h2
          cases h
          obtain ⟨l, p⟩ := S.alen h2
          exact ⟨by simp [l], by simp [allPlain, p]; simpa using hs⟩
        · cases h
theorem iset_1 {e : Expr} {ii : II} (h : cI g r sc e = some ii) : isSet e = false := by
  unfold cI at h
  split at h
  · rfl
  · cases h
  · rename_i hn
    cases e <;> first | rfl | exact absurd rfl (hn _ _ _)
end
end Vm

set_option Elab.async false
set_option linter.all false
set_option maxRecDepth 100000
set_option maxHeartbeats 4000000
set_option autoImplicit false
/-! Vm, part M: targets, blocks, and the step up. -/
namespace Vm
open PySem L2 PyProof.Rows
section
variable {g : Gm} {r : Rc} {sc : Scope} {top : Bool} {lv : Nat} {X : Cx} {Y : Cy}
theorem tgtGo_ok (c : CtxOk g sc top lv X Y) : ∀ {es : List Expr} {is : List Nat}, cTgt.go g top sc es = some is → PGs X es (gPuts Y is) ∧ (assignEach es X.env).length = is.length ∧ (assignEach es X.env).findIdx? (·.1) = none
  | [], is, h => by unfold cTgt.go at h; cases h; exact ⟨sgs_nil, rfl, rfl⟩
  | e :: es, is, h => by
    unfold cTgt.go at h
    split at h
    · rename_i h2; cases h2
    · rename_i x p es' h2
      cases h2
      split at h
      · rename_i i h1
        obtain ⟨is', h2, rfl⟩ := mapSome h
        obtain ⟨q1, q2, q3⟩ := tgtGo_ok c h2
        obtain ⟨h1, h3, h4, h5⟩ := c.slotS h1
        refine ⟨sgs_cons (by rw [c.hN]; exact c.nd) h1 h3 h4 h5 q1, ?_, ?_⟩
        · show _ + 1 = _ + 1
          rw [q2]
        · show List.findIdx? _ ((false, _) :: _) = none
          rw [List.findIdx?_cons, q3]; rfl
      · cases h
    · cases h
theorem tgt_ok (c : CtxOk g sc top lv X Y) {e : Expr} {t : Tgt} (h : cTgt g top sc e = some t) : PG X e (gPut Y t) := by
  unfold cTgt at h
  split at h
  · obtain ⟨i, h1, rfl⟩ := mapSome h
    obtain ⟨h1, h3, h4, h5⟩ := c.slotS h1
    exact sg_nm (by rw [c.hN]; exact c.nd) h1 h3 h4 h5
  · obtain ⟨i, h1, rfl⟩ := mapSome h
    obtain ⟨q1, q2, q3⟩ := tgtGo_ok c h1
    exact sg_tp c.hK c.calm q1 q2 q3
  · cases h
theorem CtxOk.blk (c : CtxOk g sc top lv X Y) (scope : Scope) (s : Shared) (H : Hp) (C : Addr) (cl : List (Str × Addr)) (fp : List Addr) : CtxOk g (relS scope sc) false lv (X.blk s H scope (compEnvC scope cl C X.env) fp) Y.nox where
  hK := c.hK
  hN := c.hN
  nd := c.nd
  sc := by rw [← c.sc]; rfl
  calm := c.calm
  room := c.room
  fnT := fun h => nomatch h
  takes := fun _ _ x => by
    obtain ⟨_, _, _, _, _, _, _, _, _, _, _, _, _, _, _, _, z⟩ := x
    exact z.elim
  pins := c.pins
  fns := c.fns
  mths := c.mths
  mks := c.mks
  flds := c.flds
  blt := c.blt
  rng := c.rng
  consts := c.consts
theorem noIo_of (c : CtxOk g sc top lv X Y) {is : List Nat} (h : noIo g is = true) : ∀ i ∈ is, NoPin Y i := by
  intro i hi u hu
  unfold noIo at h
  have := List.all_eq_true.mp h i hi
  rw [c.pins i u hu] at this
  cases this
theorem both {e : Expr} {ie : IE} (q : PE X e (tEv Y (evE ie))) (hp : ∀ r ρ, pk ie r ρ = r) : PE X e (tEv Y (evE ie)) ∧ PE X e (tEvP Y fun ρ => pk ie (evE ie ρ) ρ) := ⟨q, sp_of q hp⟩
theorem isFalse_of {p : Bool} (h : ¬p = true) : p = false := by cases p with | true => exact absurd rfl h | false => rfl
theorem e_1 (S : Snd g r) (c : CtxOk g sc top lv X Y) {e : Expr} {ie : IE} (h : cE g r sc e = some ie) : PE X e (tEv Y (evE ie)) ∧ PE X e (tEvP Y fun ρ => pk ie (evE ie ρ) ρ) := by
  unfold cE at h
  split at h
  · rename_i x hx
    cases h
    obtain ⟨v, q, hv⟩ := cC_ok c hx
    exact both (se_c q hv) fun _ _ => rfl
  split at h
  · obtain ⟨i, h1, rfl⟩ := mapSome h
    obtain ⟨h1, h2, h3, h4⟩ := c.slot h1
    exact ⟨se_var h1 h2 h3 h4, sp_var h1 h2 h3 h4⟩
  · obtain ⟨as, h1, rfl⟩ := mapSome h
    exact both (se_tup (S.es c h1)) fun _ _ => rfl
  · obtain ⟨as, h1, rfl⟩ := mapSome h
    exact both (se_lst (S.es c h1)) fun _ _ => rfl
  · split at h
    · rename_i h1 h2 h3
      cases h
      rw [bopOf_of h2]
      exact both (se_bin c.hK _ (S.e c h1).1 (S.e c h3).1) fun _ _ => rfl
    · cases h
  · obtain ⟨a, h1, rfl⟩ := mapSome h
    exact both (se_neg (S.e c h1).1) fun _ _ => rfl
  · obtain ⟨a, h1, rfl⟩ := mapSome h
    exact both (se_not (S.e c h1).1) fun _ _ => rfl
  · split at h
    · cases h
    · rename_i hs
      split at h
      · rename_i h1 h2 h3
        cases h
        rw [copOf_of h2]
        obtain ⟨v, q, hv⟩ := cC_ok c h3
        exact both (se_cmpC c.hK c.room.units _ (S.e c h1).2 q hv (noMarks (isFalse_of hs))) fun _ _ => rfl
      · rename_i h1 h2 h3
        split at h
        · rename_i h4
          split at h
          · cases h
          · rename_i h5
            cases h
            rw [copOf_of h2]
            exact both (se_cmp c.hK c.room.units _ (isFalse_of h5) (S.e c h1).1 (S.e c h4).2 (noMarks (isFalse_of hs))) fun _ _ => rfl
        · cases h
      · cases h
  · split at h
    · cases h
    · rename_i hs
      split at h
      · rename_i h1 h2 h3 h4 h5
        cases h
        rw [copOf_of h2, copOf_of h3]
        exact both (se_chain c.hK c.room.units _ _ (S.e c h1).1 (S.e c h4).1 (S.e c h5).1 (noMarks2 (isFalse_of hs))) fun _ _ => rfl
      · cases h
  · exact S.and_ c h _
  · exact S.or_ c h _
  · split at h
    · rename_i h1 h2 h3
      cases h
      exact both (se_ifx (S.t c h1) (S.e c h2).1 (S.e c h3).1) fun _ _ => rfl
    · cases h
  · split at h
    · rename_i h1 h2 h3
      cases h
      obtain ⟨q1, q2, q3, q4⟩ := c.slot h1
      exact both (se_slV c.hK q1 q2 q3 q4 (S.o c h2) (S.o c h3)) fun _ _ => rfl
    · cases h
  · split at h
    · rename_i h1 h2 h3
      cases h
      exact both (se_sl c.hK (S.e c h1).1 (S.o c h2) (S.o c h3)) fun _ _ => rfl
    · cases h
  · split at h
    · cases h
    · rename_i hs
      split at h
      · rename_i h1 h2
        cases h
        obtain ⟨q1, q2, q3, q4⟩ := c.slot h1
        exact both (se_idxV c.hK q1 q2 q3 q4 (S.e c h2).1 (plainIx_of (isFalse_of hs))) fun _ _ => rfl
      · cases h
  · split at h
    · cases h
    · rename_i hs
      split at h
      · rename_i h1 h2
        cases h
        obtain ⟨v, q, hv⟩ := cC_ok c h2
        exact both (se_idxC c.hK (S.e c h1).2 q hv (plainIx_of (isFalse_of hs))) fun _ _ => rfl
      · rename_i h1 h2
        split at h
        · rename_i h3
          split at h
          · cases h
          · rename_i h4
            cases h
            exact both (se_idx c.hK (isFalse_of h4) (S.e c h1).1 (S.e c h3).1 (plainIx_of (isFalse_of hs))) fun _ _ => rfl
        · cases h
      · cases h
  · split at h
    · rename_i h1 h2
      cases h
      obtain ⟨q1, q2, q3, q4⟩ := c.slot h1
      exact ⟨se_fldV c.hK q1 q2 q3 q4 (c.flds _ _ h2), sp_fldV c.hK q1 q2 q3 q4 (c.flds _ _ h2)⟩
    · cases h
  · split at h
    · rename_i hb
      split at h
      · rename_i h1 h2
        cases h
        exact both (se_fld c.hK (S.e c h1).1 (base_of hb) (c.flds _ _ h2)) fun _ _ => rfl
      · cases h
    · cases h
  · rename_i x xp es pos hcc
    split at h
    · rename_i hg
      rw [Bool.and_eq_true] at hg
      have hG := c.gl hg.1
      have hd := (okName_of hg.2).1
      split at h
      · rename_i fn hf
        obtain ⟨as, h1, rfl⟩ := mapSome h
        obtain ⟨hn, hp⟩ := S.alen h1
        cases es with
        | nil =>
          cases as with
          | nil => exact both (se_call0 (c.fns _ _ hf) c.room c.takes hG hd) fun _ _ => rfl
          | cons _ _ => cases hn
        | cons e es =>
          have s1 : isStar e = false ∧ allPlain es = true := by simpa [allPlain] using hp
          exact both (se_call (c.fns _ _ hf) c.room c.takes hG (S.as_ c h1) hd (star_of s1.1) (plain_any s1.2)) fun _ _ => rfl
      · split at h
        · rename_i fn hf
          obtain ⟨as, h1, rfl⟩ := mapSome h
          obtain ⟨hn, hp⟩ := S.len h1
          obtain ⟨l, rfl, F⟩ := c.mks _ _ hf
          cases es with
          | nil =>
            cases as with
            | nil => exact both (se_mk0 F c.room c.takes hG hd) fun _ _ => rfl
            | cons _ _ => cases hn
          | cons e es =>
            have s1 : isStar e = false ∧ allPlain es = true := by simpa [allPlain] using hp
            exact both (se_mk F c.room c.takes hG (S.es c h1) hd (star_of s1.1) (plain_any s1.2)) fun _ _ => rfl
        · split at h
          · rename_i b hb
            have := bltOf_of hb
            subst this
            split at h
            · split at h
              · cases h
              · rename_i hs
                obtain ⟨a, h1, rfl⟩ := mapSome h
                exact both (se_blt1 c.hK c.calm hG (c.blt b) (S.e c h1).2 (star_of (isFalse_of hs))) fun _ _ => rfl
            · obtain ⟨as, h1, rfl⟩ := mapSome h
              obtain ⟨hn, hp⟩ := S.len h1
              rename_i e es _
              have s1 : isStar e = false ∧ allPlain es = true := by simpa [allPlain] using hp
              exact both (se_blt c.hK c.calm hG (c.blt b) (S.es c h1) (star_of s1.1) (plain_any s1.2)) fun _ _ => rfl
            · cases h
          · cases h
    · cases h
  · rename_i o m apos es pos hcc
    split at h
    · rename_i hg
      rw [Bool.and_eq_true, Bool.and_eq_true] at hg
      obtain ⟨⟨hb, hl⟩, hn⟩ := hg
      split at h
      · rename_i C fn hf
        split at h
        · rename_i b bs hio
          split at h
          · rename_i io ies h1 h2
            cases h
            obtain ⟨hn2, hp⟩ := S.alen h2
            have M := meth_eval (m := m) (env := X.env) hb hl hp (of_decide_eq_true hn)
            cases es with
            | nil =>
              cases ies with
              | nil => exact both (se_mth0 hio (c.mths _ _ _ hf) c.room c.takes (arg_ok S c h1) M) fun _ _ => rfl
              | cons _ _ => cases hn2
            | cons e es =>
              have s1 : isStar e = false ∧ allPlain es = true := by simpa [allPlain] using hp
              exact both (se_mth hio (c.mths _ _ _ hf) c.room c.takes (arg_ok S c h1) (S.as_ c h2) (star_of s1.1) (plain_any s1.2) M) fun _ _ => rfl
          · cases h
        · cases h
      · cases h
    · cases h
  · split at h
    · rename_i own t it ic ie' h1 h2 h3 h4 h5
      split at h
      · rename_i hb
        rw [Bool.and_eq_true, Bool.and_eq_true] at hb
        obtain ⟨⟨hb, hi⟩, ht⟩ := hb
        cases h
        refine both (se_lc c.calm (by rw [c.hN]; exact c.nd) (noIo_of c hi) (fun i hi => of_decide_eq_true (List.all_eq_true.mp ht i hi)) (S.i c h3 _) (by rw [c.hN, c.sc]; exact blkOk_by hb) (fun s H C cl fp => tgt_ok (c.blk _ s H C cl fp) h2) (fun s H C cl fp => S.ifs (c.blk _ s H C cl fp) h4) (fun s H C cl fp => (S.e (c.blk _ s H C cl fp) h5).1) ?_) fun _ _ => rfl
        intro x
        have := S.iset h3
        rename_i iter _ _ _ _ _ _ _ _ _
        cases iter <;> first | rfl | cases this
      · cases h
    · cases h
  · cases h
theorem t_1 (S : Snd g r) (c : CtxOk g sc top lv X Y) {e : Expr} {it : IT} (h : cT g r sc e = some it) : PT X e (tEvT Y (evT it)) := by
  unfold cT at h
  split at h
  · obtain ⟨a, h1, rfl⟩ := mapSome h
    exact st_not (S.t c h1)
  · exact (S.tA c h _).pt
  · exact (S.tO c h _).pt
  · cases h
  · split at h
    · cases h
    · rename_i hs
      split at h
      · rename_i h1 h2 h3
        cases h
        rw [copOf_of h2]
        obtain ⟨v, q, hv⟩ := cC_ok c h3
        exact st_cmpC c.hK c.room.units _ (S.e c h1).2 q hv (noMarks (isFalse_of hs))
      · rename_i h1 h2 h3
        split at h
        · rename_i h4
          split at h
          · cases h
          · rename_i h5
            cases h
            rw [copOf_of h2]
            exact st_cmp c.hK c.room.units _ (isFalse_of h5) (S.e c h1).1 (S.e c h4).2 (noMarks (isFalse_of hs))
        · cases h
      · cases h
  · split at h
    · cases h
    · rename_i hs
      split at h
      · rename_i h1 h2 h3 h4 h5
        cases h
        rw [copOf_of h2, copOf_of h3]
        exact st_chain c.hK c.room.units _ _ (S.e c h1).1 (S.e c h4).1 (S.e c h5).1 (noMarks2 (isFalse_of hs))
      · cases h
  · cases h
  · obtain ⟨a, h1, rfl⟩ := mapSome h
    refine st_tru c.hK (S.e c h1).2 fun whole => ?_
    cases e with
    | UnaryOp op a p =>
      cases op with
      | Not => rename_i hn _ _ _ _ _ _; exact absurd rfl (hn _ _)
      | _ => rfl
    | BoolOp op a p => cases op <;> simp at *
    | IfExp a b d p => exact (‹∀ (x y z : Expr) (q : Pos), Expr.IfExp a b d p = Expr.IfExp x y z q → False› _ _ _ _ rfl).elim
    | Compare a b d p => exact (‹∀ (x : Expr) (y : List CmpOp) (z : List Expr) (q : Pos), Expr.Compare a b d p = Expr.Compare x y z q → False› _ _ _ _ rfl).elim
    | _ => rfl
theorem snd_up (S : Snd g r) : Snd g (r.up g) where
  e := fun c _ _ h => e_1 S c h
  es := fun c _ _ h => es_1 S c h
  len := fun h => len_1 S h
  as_ := fun c _ _ _ h => as_1 S c h
  alen := fun h => alen_1 S h
  o := fun c _ _ h => o_1 S c h
  and_ := fun c _ _ h => and_1 S c h
  or_ := fun c _ _ h => or_1 S c h
  t := fun c _ _ h => t_1 S c h
  tA := fun c _ _ h => tA_1 S c h
  tO := fun c _ _ h => tO_1 S c h
  ifs := fun c _ _ h => ifs_1 S c h
  i := fun c _ _ h => i_1 S c h
  iset := fun h => iset_1 (g := g) h
theorem rc_ok : ∀ n, Snd g (rc g n)
  | 0 => snd0
  | n + 1 => snd_up (rc_ok n)
end
end Vm

set_option Elab.async false
set_option linter.all false
set_option maxRecDepth 100000
set_option maxHeartbeats 4000000
set_option autoImplicit false
/-! Vm, part N: statements. -/
namespace Vm
open PySem L2 PyProof.Rows

def isLocal (sc : Scope) (x : Str) : Bool := match sc.names.lookup x with
  | some .local => true
  | _ => false
def isFn (sc : Scope) : Bool := match sc.kind with
  | .function => true
  | _ => false
def noStar : List Expr → Bool
  | [] => true
  | e :: es => !isStar e && noStar es
def isTup : Expr → Bool
  | .Tuple _ _ _ => true
  | _ => false
/-- whether a comprehension is stored ahead of what it hid -/
def swB (sc : Scope) (y : Str) (py p : Pos) (scope : Scope) : Bool := isLocal sc y && (py.line == p.line) && !(scope.names.any fun (n, k) => n == y && (k == .local || k == .cell))
/-- a row of plain targets and as many values, stored from behind -/
def cPar (g : Gm) (r : Rc) (sc : Scope) (ts vs : List Expr) : Option IS := match ts with
  | [.Name x px, .Name y py] => match vs with
    | [a, b] => match slotS g true sc x, slotS g true sc y, r.es sc [a, b] with
      | some i, some j, some [ia, ib] => if isFn sc && isLocal sc x && isLocal sc y && (py.line == px.line) && !(x == y) && decide (i ≠ j) && !([a, b].all (foldedForSure 8)) && !([a, b].all (constantsAlone 8)) then some (.par [i, j] [ia, ib]) else none
      | _, _, _ => none
    | _ => none
  | [.Name x px, .Name y py, .Name z pz] => match vs with
    | [a, b, c] => match slotS g true sc x, slotS g true sc y, slotS g true sc z, r.es sc [a, b, c] with
      | some i, some j, some l, some [ia, ib, ic] => if isFn sc && isLocal sc x && isLocal sc y && isLocal sc z && (py.line == px.line) && (pz.line == px.line) && !(x == y) && !(x == z) && !(y == z) && decide (i ≠ j) && decide (i ≠ l) && decide (j ≠ l) && !([a, b, c].all (foldedForSure 8)) && !([a, b, c].all (constantsAlone 8)) then some (.par [i, j, l] [ia, ib, ic]) else none
      | _, _, _, _ => none
    | _ => none
  | _ => none
def cS (g : Gm) (r : Rc) (ss : List Stmt → Option (List IS)) (sc : Scope) : Stmt → Option IS
  | .Pass _ => some .pass
  | .Break _ => some .brk
  | .Continue _ => some .cnt
  | .Return none _ => some .retN
  | .Return (some e) _ => match e with
    | .Name x _ => match slotOf g sc x with
      | some i => if (g.io[i]?).getD false = false then some (.retV i) else some (.ret (.var i))
      | none => (r.e sc e).map .ret
    | e => (r.e sc e).map .ret
  | .Assign [.Name y py] (.ListComp elt [⟨tg, iter, ifs, 0⟩] scope p) _ => match slotS g true sc y, r.e sc (.ListComp elt [⟨tg, iter, ifs, 0⟩] scope p) with
    | some i, some e => if swB sc y py p scope then (if isFn sc then (match ownOf g tg, cTgt g false (relS scope sc) tg, r.i sc iter, r.ifs (relS scope sc) ifs, r.e (relS scope sc) elt with
        | some own, some t, some it, some c, some e => if blkC g.N sc scope own && noIo g (own.map (·.2)) && t.slots.all (fun i => decide (i ∈ own.map (·.2))) then some (.asg (.nm i) (.lc (own.map (·.2)) t it c e)) else none
        | _, _, _, _, _ => none) else none) else some (.asg (.nm i) e)
    | _, _ => none
  | .Assign [.Name y py] e _ => if isComp e then none else match slotS g true sc y, r.e sc e with
    | some i, some e => some (.asg (.nm i) e)
    | _, _ => none
  | .Assign [.Tuple ts kt pt] (.Tuple vs k2 pt2) _ => cPar g r sc ts vs
  | .Assign [.Tuple ts kt pt] e _ => if isComp e || isTup e then none else match cTgt g true sc (.Tuple ts kt pt), r.e sc e with
    | some t, some e => some (.asg t e)
    | _, _ => none
  | .Assign [.Subscript (.Name x _) i _] e _ => if isComp e || isSlice i then none else match slotOf g sc x, r.e sc i, r.e sc e with
    | some k, some i, some e => some (.setI k i e)
    | _, _, _ => none
  | .Assign [.Attribute (.Name x _) f _] e _ => match slotOf g sc x, g.flds.lookup f, r.e sc e with
    | some k, some Cs, some e => some (.setF k f Cs e)
    | _, _, _ => none
  | .AugAssign (.Name x _) op e _ => match slotS g true sc x, bopOf op, r.e sc e with
    | some i, some op, some e => some (.aug i op e)
    | _, _, _ => none
  | .Expr (.Call (.Attribute (.Name x xp) m apos) [e] [] pos') _ => if m = "append" then
      (if isStar e then none else if apos.endLine == pos'.line then match slotOf g sc x, r.e sc e with
        | some i, some e => some (.app i e)
        | _, _ => none else none)
    else (r.e sc (.Call (.Attribute (.Name x xp) m apos) [e] [] pos')).map .ex
  | .Expr (.Call (.Attribute (.Attribute (.Name x _) f _) m apos) [.Name y _] [] pos') _ => if m = "append" then
      (if apos.endLine == pos'.line then match slotOf g sc x, g.flds.lookup f, slotOf g sc y with
        | some i, some Cs, some j => some (.appF i f Cs j)
        | _, _, _ => none else none)
    else none
  | .Expr e _ => if isComp e then none else (r.e sc e).map .ex
  | .If c a b _ => match r.t sc c, ss a, ss b with
    | some c, some a, some b => some (.ifs c a b)
    | _, _, _ => none
  | .For tg iter body [] _ => match cTgt g true sc tg, r.i sc iter, ss body with
    | some t, some it, some b => some (.for_ t it b)
    | _, _, _ => none
  | .While c body [] _ => match r.t sc c, ss body with
    | some c, some b => some (.whl c b)
    | _, _ => none
  | _ => none
def cSs (g : Gm) (r : Rc) (sc : Scope) : Nat → List Stmt → Option (List IS)
  | 0, _ => none
  | _ + 1, [] => some []
  | n + 1, s :: rest => match cS g r (cSs g r sc n) sc s, cSs g r sc n rest with
    | some a, some b => some (a :: b)
    | _, _ => none
section
variable {g : Gm} {r : Rc} {sc : Scope} {lv : Nat} {X : Cx} {Y : Cy}
theorem isLocal_of {x : Str} (h : isLocal sc x = true) : sc.names.lookup x = some .local := by
  unfold isLocal at h
  split at h
  · assumption
  · cases h
theorem isFn_of (h : isFn sc = true) : sc.kind = .function := by
  unfold isFn at h
  split at h
  · assumption
  · cases h
theorem swNo {e : Expr} {t : Option Expr} {l : Nat} {env : PySem.Env} (h : isComp e = false) : swapsWith e t l env = pure false := by
  cases e <;> first | rfl | cases h
theorem swNoA {e o : Expr} {f : Str} {p : Pos} {l : Nat} {env : PySem.Env} : swapsWith e (some (.Attribute o f p)) l env = pure false := by
  cases e <;> rfl
theorem kind_loc (c : X.env.scope = sc) {y : Str} : (X.env.kindOf y == some NameKind.local) = isLocal sc y := by
  unfold Env.kindOf isLocal
  rw [c]
  cases sc.names.lookup y with
  | none => rfl
  | some k => cases k <;> rfl
theorem swNoB (c : X.env.scope = sc) {elt : Expr} {gs : List Comprehension} {scope : Scope} {p py : Pos} {y : Str} {l : Nat} (h : swB sc y py p scope = false) : swapsWith (.ListComp elt gs scope p) (some (.Name y py)) l X.env = pure false := by
  unfold swapsWith
  dsimp only
  rw [kind_loc c]
  unfold swB at h
  have e : (X.env.blockKind == ScopeKind.function && isLocal sc y && py.line == (Expr.ListComp elt gs scope p).pos.line && !(scope.names.any fun (n, k) => n == y && (k == .local || k == .cell))) = false := by
    rw [Bool.and_assoc, Bool.and_assoc, ← Bool.and_assoc (isLocal sc y)]
    show (_ && (isLocal sc y && (py.line == p.line) && _)) = false
    rw [h, Bool.and_false]
  rw [e]
theorem stNo {ts : List Expr} {k : Nat} {p : Pos} {e : Expr} {env : PySem.Env} (h : isTup e = false) : swappedStores [.Tuple ts k p] e env = pure none := by
  cases e <;> first | rfl | cases h
theorem stNoS {o i : Expr} {p : Pos} {e : Expr} {env : PySem.Env} : swappedStores [.Subscript o i p] e env = pure none := by
  cases e <;> rfl
theorem blk_fn (c : X.env.scope = sc) (hf : isFn sc = true) : (X.env.blockKind != ScopeKind.function) = false := by
  unfold Env.blockKind
  rw [c, isFn_of hf]; rfl
theorem noStar_any : ∀ {es : List Expr}, allPlain es = true → (es.any fun | .Starred .. => true | _ => false) = false
  | [], _ => rfl
  | e :: es, h => by
    have h' : (!isStar e && allPlain es) = true := h
    rw [Bool.and_eq_true, Bool.not_eq_true'] at h'
    rw [List.any_cons, noStar_any h'.2]
    cases e <;> first | rfl | cases h'.1
theorem par2_names (c : X.env.scope = sc) {x y : Str} {px py pt p2 : Pos} {a b : Expr} {k k2 : Nat} (hf : isFn sc = true) (hx : isLocal sc x = true) (hy : isLocal sc y = true) (hl : (py.line == px.line) = true) (hxy : (x == y) = false) (ha : allPlain [a, b] = true)
    (h1 : [a, b].all (foldedForSure 8) = false) (h2 : [a, b].all (constantsAlone 8) = false) : swappedStores [.Tuple [.Name x px, .Name y py] k pt] (.Tuple [a, b] k2 p2) X.env = pure (some [x, y]) := by
  have kx : (X.env.kindOf x == some NameKind.local) = true := by rw [kind_loc c]; exact hx
  have ky : (X.env.kindOf y == some NameKind.local) = true := by rw [kind_loc c]; exact hy
  have hl0 : (px.line == px.line) = true := beq_self_eq_true _
  have hd : ([x, y].eraseDups.length != [x, y].length) = false := by
    have e : [x, y].eraseDups = [x, y] := by
      rw [List.eraseDups_cons]
      have : (y == x) = false := by rw [BEq.comm]; exact hxy
      simp [this, List.eraseDups_cons]
    rw [e]; rfl
  unfold swappedStores
  simp only [blk_fn c hf, h1, h2]
  refine (if_neg (by simp)).trans ?_
  refine (if_neg fun h => Bool.noConfusion ((noStar_any ha).symm.trans h)).trans ?_
  simp only [List.head?_cons, Option.map_some, Option.getD_some, Expr.pos, List.filterMap_cons, List.filterMap_nil, kx, ky, hl, hl0, Bool.and_self, if_true]
  rw [hd]
  rfl
theorem par3_names (c : X.env.scope = sc) {x y z : Str} {px py pz pt p2 : Pos} {a b d : Expr} {k k2 : Nat} (hf : isFn sc = true) (hx : isLocal sc x = true) (hy : isLocal sc y = true) (hz : isLocal sc z = true) (hl : (py.line == px.line) = true) (hl3 : (pz.line == px.line) = true) (hxy : (x == y) = false) (hxz : (x == z) = false) (hyz : (y == z) = false) (ha : allPlain [a, b, d] = true)
    (h1 : [a, b, d].all (foldedForSure 8) = false) (h2 : [a, b, d].all (constantsAlone 8) = false) : swappedStores [.Tuple [.Name x px, .Name y py, .Name z pz] k pt] (.Tuple [a, b, d] k2 p2) X.env = pure (some [x, y, z]) := by
  have kx : (X.env.kindOf x == some NameKind.local) = true := by rw [kind_loc c]; exact hx
  have ky : (X.env.kindOf y == some NameKind.local) = true := by rw [kind_loc c]; exact hy
  have kz : (X.env.kindOf z == some NameKind.local) = true := by rw [kind_loc c]; exact hz
  have hl0 : (px.line == px.line) = true := beq_self_eq_true _
  have hd : ([x, y, z].eraseDups.length != [x, y, z].length) = false := by
    have e : [x, y, z].eraseDups = [x, y, z] := by
      have q1 : (y == x) = false := by rw [BEq.comm]; exact hxy
      have q2 : (z == x) = false := by rw [BEq.comm]; exact hxz
      have q3 : (z == y) = false := by rw [BEq.comm]; exact hyz
      simp [q1, q2, q3, List.eraseDups_cons]
    rw [e]; rfl
  unfold swappedStores
  simp only [blk_fn c hf, h1, h2]
  refine (if_neg (by simp)).trans ?_
  refine (if_neg fun h => Bool.noConfusion ((noStar_any ha).symm.trans h)).trans ?_
  simp only [List.head?_cons, Option.map_some, Option.getD_some, Expr.pos, List.filterMap_cons, List.filterMap_nil, kx, ky, kz, hl, hl3, hl0, Bool.and_self, if_true]
  rw [hd]
  rfl
end
end Vm

set_option Elab.async false
set_option linter.all false
set_option maxRecDepth 100000
set_option maxHeartbeats 4000000
set_option autoImplicit false
/-! Vm, part O: statements are compiled soundly; a def by its compiled body. -/
namespace Vm
open PySem L2 PyProof.Rows
section
variable {g : Gm} {r : Rc} {sc : Scope} {lv : Nat} {X : Cx} {Y : Cy}
theorem par_1 (S : Snd g r) (c : CtxOk g sc true lv X Y) {ts vs : List Expr} {is : IS} {k k2 : Nat} {p p2 pos : Pos} (h : cPar g r sc ts vs = some is) : PS X (.Assign [.Tuple ts k p] (.Tuple vs k2 p2) pos) (tSv Y (evS is)) := by
  have hN : X.N.Nodup := by rw [c.hN]; exact c.nd
  unfold cPar at h
  split at h
  · rename_i x px y py
    split at h
    · rename_i a b
      split at h
      · rename_i i j ia ib hi hj hab
        split at h
        · rename_i hc
          simp only [Bool.and_eq_true, Bool.not_eq_true', decide_eq_true_eq] at hc
          obtain ⟨⟨⟨⟨⟨⟨⟨h1, h2⟩, h3⟩, h4⟩, h5⟩, h6⟩, h7⟩, h8⟩ := hc
          cases h
          obtain ⟨a1, a2, a3, a4⟩ := c.slotS hi
          obtain ⟨b1, b2, b3, b4⟩ := c.slotS hj
          exact ss_par2 c.calm hN a1 b1 h6 (by rw [c.sc]; exact isLocal_of h2) (by rw [c.sc]; exact isLocal_of h3) a4 b4 (S.es c hab) (par2_names c.sc h1 h2 h3 h4 h5 (S.len hab).2 h7 h8) rfl
        · cases h
      · cases h
    · cases h
  · rename_i x px y py z pz
    split at h
    · rename_i a b d
      split at h
      · rename_i i j l ia ib id hi hj hl hab
        split at h
        · rename_i hc
          simp only [Bool.and_eq_true, Bool.not_eq_true', decide_eq_true_eq] at hc
          obtain ⟨⟨⟨⟨⟨⟨⟨⟨⟨⟨⟨⟨⟨h1, h2⟩, h3⟩, h4⟩, h5⟩, h6⟩, h7⟩, h8⟩, h9⟩, k1⟩, k2⟩, k3⟩, k4⟩, k5⟩ := hc
          cases h
          obtain ⟨a1, a2, a3, a4⟩ := c.slotS hi
          obtain ⟨b1, b2, b3, b4⟩ := c.slotS hj
          obtain ⟨c1, c2, c3, c4⟩ := c.slotS hl
          exact ss_par3 c.calm hN a1 b1 c1 k1 k2 k3 (by rw [c.sc]; exact isLocal_of h2) (by rw [c.sc]; exact isLocal_of h3) (by rw [c.sc]; exact isLocal_of h4) a4 b4 c4 (S.es c hab) (par3_names c.sc h1 h2 h3 h4 h5 h6 h7 h8 h9 (S.len hab).2 k4 k5) rfl
        · cases h
      · cases h
    · cases h
  · cases h
theorem nofold (S : Snd g r) {iter : Expr} {it : II} (h : r.i sc iter = some it) {env : PySem.Env} (x : Value) : foldedSetIterable iter env x = pure x := by
  have := S.iset h
  cases iter <;> first | rfl | cases this
theorem sole {t e : Expr} {l : Nat} {env : PySem.Env} (h : isComp e = false) : swapsWithSole [t] e l env = pure false := by
  unfold swapsWithSole; exact swNo h
theorem setI_go {o ix : Expr} {p : Pos} {env : PySem.Env} (h : isSlice ix = false) : ∀ v, assign (.Subscript o ix p) env v = (do
    let ov ← holding [v] (eval o env)
    let iv ← holding [v, ov] (eval ix env)
    standAt p
    holding [v, ov, iv] (setItem ov iv v)
    release [v, ov, iv] []) := by
  intro v
  cases ix <;> first | rfl | cases h
theorem ss_1 (S : Snd g r) (c : CtxOk g sc true lv X Y) (own : PassesOwn (model X.prog X.w) X.A X.env X.xe) {ss : List Stmt → Option (List IS)} (hss : ∀ {b : List Stmt} {ib : List IS}, ss b = some ib → PSs X b (tSv Y (evSs ib))) {st : Stmt} {is : IS} (h : cS g r ss sc st = some is) : PS X st (tSv Y (evS is)) := by
  have hN : X.N.Nodup := by rw [c.hN]; exact c.nd
  unfold cS at h
  split at h
  · cases h; exact ss_pass
  · cases h; exact ss_brk
  · cases h; exact ss_cnt
  · cases h; exact ss_retN
  · split at h
    · split at h
      · rename_i i hi
        obtain ⟨a1, a2, a3, a4⟩ := c.slot hi
        split at h
        · cases h; exact ss_retV a1 a2 a3 a4
        · cases h; exact ss_ret (se_var a1 a2 a3 a4)
      · obtain ⟨a, h1, rfl⟩ := mapSome h
        exact ss_ret (S.e c h1).1
    · obtain ⟨a, h1, rfl⟩ := mapSome h
      exact ss_ret (S.e c h1).1
  · split at h
    · rename_i i e hi he
      obtain ⟨a1, a2, a3, a4⟩ := c.slotS hi
      split at h
      · rename_i hw
        split at h
        · rename_i hf
          split at h
          · rename_i own' t it ic ie' h1 h2 h3 h4 h5
            split at h
            · rename_i hb
              rw [Bool.and_eq_true, Bool.and_eq_true] at hb
              obtain ⟨⟨hb, hi2⟩, ht⟩ := hb
              unfold swB at hw
              rw [Bool.and_eq_true, Bool.and_eq_true, Bool.not_eq_true'] at hw
              obtain ⟨⟨w1, w2⟩, w3⟩ := hw
              cases h
              exact ss_setLc c.calm hN a1 (by rw [c.sc]; exact isLocal_of w1) a4 (sw_true (by rw [c.sc]; exact isFn_of hf) (by rw [c.sc]; exact isLocal_of w1) w2 w3) (noIo_of c hi2) (fun i hi => of_decide_eq_true (List.all_eq_true.mp ht i hi)) (S.i c h3 _) (by rw [c.hN, c.sc]; exact blkOk_by hb)
                (fun s H C cl fp => tgt_ok (c.blk _ s H C cl fp) h2) (fun s H C cl fp => S.ifs (c.blk _ s H C cl fp) h4) (fun s H C cl fp => (S.e (c.blk _ s H C cl fp) h5).1) (nofold S h3)
            · cases h
          · cases h
        · cases h
      · rename_i hw
        cases h
        exact ss_set hN a1 a2 a3 a4 (S.e c he).1 (swNoB c.sc (isFalse_of hw))
    · cases h
  · split at h
    · cases h
    · rename_i hs
      split at h
      · rename_i i e hi he
        obtain ⟨a1, a2, a3, a4⟩ := c.slotS hi
        cases h
        exact ss_set hN a1 a2 a3 a4 (S.e c he).1 (swNo (isFalse_of hs))
      · cases h
  · exact par_1 S c h
  · split at h
    · cases h
    · rename_i hs
      have hs := isFalse_of hs
      rw [Bool.or_eq_false_iff] at hs
      split at h
      · rename_i t e ht he
        cases h
        have G := tgt_ok c ht
        obtain ⟨is, _, rfl⟩ := mapSome (show (cTgt.go g true sc _).map Tgt.tp = some t from ht)
        exact ss_asg (S.e c he).1 (so_tp G) (sole hs.1) (stNo hs.2) rfl
      · cases h
  · split at h
    · cases h
    · rename_i hs
      have hs := isFalse_of hs
      rw [Bool.or_eq_false_iff] at hs
      split at h
      · rename_i k i e hk hi he
        cases h
        obtain ⟨a1, a2, a3, a4⟩ := c.slot hk
        exact ss_setI a1 a2 a3 a4 (S.e c he).1 (S.e c hi).1 (sole hs.1) stNoS (setI_go hs.2)
      · cases h
  · split at h
    · rename_i k Cs e hk hC he
      cases h
      obtain ⟨a1, a2, a3, a4⟩ := c.slot hk
      exact ss_setF c.hK a1 a2 a3 a4 (c.flds _ _ hC) (S.e c he).1 swNoA
    · cases h
  · split at h
    · rename_i i op e hi ho he
      cases h
      rw [bopOf_of ho]
      obtain ⟨a1, a2, a3, a4⟩ := c.slotS hi
      exact ss_aug hN a1 a2 a3 a4 (S.e c he).1
    · cases h
  · split at h
    · rename_i hm
      subst hm
      split at h
      · cases h
      · rename_i hs
        split at h
        · rename_i hl
          split at h
          · rename_i i e hi he
            cases h
            obtain ⟨a1, a2, a3, a4⟩ := c.slot hi
            exact ss_app a1 a2 a3 a4 (S.e c he).1 (star_of (isFalse_of hs)) hl
          · cases h
        · cases h
    · obtain ⟨a, h1, rfl⟩ := mapSome h
      exact ss_ex (S.e c h1).1 (swNo rfl)
  · split at h
    · rename_i hm
      subst hm
      split at h
      · rename_i hl
        split at h
        · rename_i i Cs j hi hC hj
          cases h
          obtain ⟨a1, a2, a3, a4⟩ := c.slot hi
          obtain ⟨b1, b2, b3, b4⟩ := c.slot hj
          exact ss_appF c.hK a1 a2 a3 a4 b1 b2 b3 b4 (c.flds _ _ hC) hl
        · cases h
      · cases h
    · cases h
  · split at h
    · cases h
    · rename_i hs
      obtain ⟨a, h1, rfl⟩ := mapSome h
      exact ss_ex (S.e c h1).1 (swNo (isFalse_of hs))
  · split at h
    · rename_i h1 h2 h3
      cases h
      exact ss_if (S.t c h1) (hss h2) (hss h3)
    · cases h
  · split at h
    · rename_i h1 h2 h3
      cases h
      exact ss_for own c.calm (S.i c h2 _) (tgt_ok c h1) (hss h3) (nofold S h2)
    · cases h
  · split at h
    · rename_i h1 h2
      cases h
      exact ss_whl own (S.t c h1) (hss h2)
    · cases h
  · cases h
theorem sss_1 (S : Snd g r) (c : CtxOk g sc true lv X Y) (own : PassesOwn (model X.prog X.w) X.A X.env X.xe) : ∀ {n : Nat} {b : List Stmt} {ib : List IS}, cSs g r sc n b = some ib → PSs X b (tSv Y (evSs ib))
  | 0, _, _, h => by unfold cSs at h; cases h
  | n + 1, [], _, h => by unfold cSs at h; cases h; exact sss_nil
  | n + 1, s :: rest, ib, h => by
    unfold cSs at h
    split at h
    · rename_i h1 h2
      cases h
      exact sss_cons (ss_1 S c own (fun h => sss_1 S c own h) h1) (sss_1 S c own h2)
    · cases h
end
end Vm

set_option Elab.async false
set_option linter.all false
set_option maxRecDepth 100000
set_option maxHeartbeats 4000000
set_option autoImplicit false
/-! Vm, part P: a def by its text. -/
namespace Vm
open PySem L2 PyProof.Rows
def AllOf {α : Type} (p : α → Prop) : List α → Prop
  | [] => True
  | a :: l => p a ∧ AllOf p l
theorem AllOf.of {β : Type} {p : Str × β → Prop} {x : Str} {b : β} : ∀ {l : List (Str × β)}, AllOf p l → l.lookup x = some b → p (x, b)
  | [], _, h => by cases h
  | (y, c) :: l, h, e => by
    rw [List.lookup_cons] at e
    split at e
    · rename_i q
      cases e
      rw [beq_iff_eq.mp q]; exact h.1
    · exact AllOf.of h.2 e
/-- what the defs need of the world -/
structure GmOk (P : Program) (w : World) (K : PySem.W.Frag) (ca : Str → Addr) (mg : Str → Option Value) (base : Heap) (k : Nat) (g : Gm) : Prop where
  fns : AllOf (fun p => ∃ (f : Addr) (fd : FuncData) (ps : List Str), FnOk P w K mg base (L2.CX P w) k f fd ps (spD K ca p.2) ∧ mg p.1 = some (.ref f) ∧ PySem.W.keepIn K (.ref f) = true ∧ Binds K fd ps []) g.fns
  mths : AllOf (fun p => ∃ (f : Addr) (fd : FuncData) (ps : List Str), FnOk P w K mg base (L2.CX P w) k f fd ps (spD K ca p.2.2) ∧ Cls K (ca p.2.1) ∧ Meth K (ca p.2.1) p.1 f ∧ Binds K fd ps []) g.mths
  mks : AllOf (fun p => ∃ l, k = l + 1 ∧ ∃ (f : Addr) (fd : FuncData) (ps : List Str), FnOk P w K mg base (L2.CX P w) l f fd ps (spD K ca p.2) ∧ Mk K (ca p.1) f ∧ mg p.1 = some (.ref (ca p.1)) ∧ Binds K fd ps []) g.mks
  flds : AllOf (fun p => ∀ C ∈ p.2, Cls K (ca C) ∧ NoAttr K (ca C) p.1) g.flds
  blt : ∀ b : Blt, mg b.name = none
  rng : mg "range" = none
  consts : AllOf (fun p => ∃ v u, mg p.1 = some u ∧ RelV v u ∧ ∀ G, Rep K ca G p.2 v) g.consts
/-- a def's scope, by computation -/
def scopeC (N ps : List Str) (sc : Scope) : Bool :=
  isFn sc && !sc.isCoroutine && !sc.isGenerator && decide N.Nodup && decide (N.take ps.length = ps) && (ps.all fun x => isLoc true sc x) && (sc.names.all fun y => match y.2 with | .free => false | _ => true)
theorem scope_of {N ps : List Str} {sc : Scope} (h : scopeC N ps sc = true) : FnScope N ps sc := by
  unfold scopeC at h
  simp only [Bool.and_eq_true, Bool.not_eq_true', decide_eq_true_eq, List.all_eq_true] at h
  obtain ⟨⟨⟨⟨⟨⟨h1, h2⟩, h3⟩, h4⟩, h5⟩, h6⟩, h7⟩ := h
  refine ⟨isFn_of h1, h2, h3, h4, h5, fun x hx => ?_, fun y hy e => ?_⟩
  · have q := h6 x hx
    unfold isLoc at q
    split at q
    · rename_i e; exact .inl e
    · rename_i e; exact .inr e
    · cases q
  · have q := h7 y hy
    rw [e] at q
    cases q
/-- a def compiled -/
def cDef (g : Gm) (n : Nat) (ps : List Str) (st : Stmt) : Option (List IS) :=
  if scopeC g.N ps (defScope st) && decide (g.io.length = ps.length) && decide (ps.length ≤ g.N.length) then cSs g (rc g n) (defScope st) n (defBody st) else none
theorem def_sound {P : Program} {w : World} {K : PySem.W.Frag} {ca : Str → Addr} {mg : Str → Option Value} {base : Heap} {x qual : Str} {st : Stmt} {f : Addr} {fd : FuncData} {ps : List Str} {k n : Nat} {g : Gm} {body : List IS}
    (h : cDef g n ps st = some body) (F : Fun K x qual st f fd) (G : GmOk P w K ca mg base k g) : FnOk P w K mg base (L2.CX P w) (k + 1) f fd ps (spD K ca (defF g.N.length g.io body)) := by
  unfold cDef at h
  split at h
  · rename_i hc
    simp only [Bool.and_eq_true, decide_eq_true_eq] at hc
    obtain ⟨⟨h1, h2⟩, h3⟩ := hc
    have S := scope_of h1
    refine fn_sound F S h2 h3 fun X Y B => ?_
    obtain ⟨b1, b2, b3, b4, b5, b6, b7, b8, b9, b10, b11, b12, b13, b14, b15⟩ := B
    obtain ⟨yK, yca, yp, yW⟩ := Y
    subst b1 b2 b3 b4 b5
    dsimp only at b13 b14 b15
    subst b13 b14
    refine sss_1 (rc_ok n) (lv := k) ?_ b12 h
    exact {
      hK := rfl
      hN := b6
      nd := S.nd
      sc := b7
      calm := b8
      room := b9
      fnT := fun _ => b10
      takes := b11
      pins := b15
      fns := fun x fn e => G.fns.of e
      mths := fun m C fn e => G.mths.of e
      mks := fun C fn e => G.mks.of e
      flds := fun f Cs e => G.flds.of e
      blt := G.blt
      rng := G.rng
      consts := fun x d e => G.consts.of e }
  · cases h
end Vm

set_option Elab.async false
set_option linter.all false
set_option maxRecDepth 100000
set_option maxHeartbeats 4000000
set_option autoImplicit false
/-! Vm, part Q: the end of a law. -/
namespace Vm
open PySem L2 PyProof.Rows
theorem repL_ints {K : PySem.W.Frag} {ca : Str → Addr} {G : Hp} : ∀ ns : List Int, RepL K ca G (ns.map D.int) (ns.map V.int)
  | [] => .nil
  | i :: ns => .cons (.int i) (repL_ints ns)
theorem law_sp {K : PySem.W.Frag} {ca : Str → Addr} {fn : Fn} {H : Hp} {a : Addr} {ns : List Int} {E : XK} (hio : fn.io = [false]) (hr : fn.run [.f (.d (.ro (ns.map .int)))] = some (.ret (.f (.d (.bl true))) [])) (hS : SqL K H a (ns.map V.int)) :
    spD K ca fn [.ref a] H (fun v _ => v = .bl true) E := by
  refine ⟨⟨H, fun _ => none, fun _ => none⟩, [.f (.d (.ro (ns.map .int)))], ⟨Same.refl _, (fun _ _ h => nomatch h), (fun _ _ h => nomatch h), (fun _ _ h => nomatch h)⟩, ?_, ?_⟩
  · rw [hio]
    exact ⟨by rw [if_neg Bool.false_ne_true]; exact ⟨_, rfl, .ro hS (repL_ints ns)⟩, trivial⟩
  · rw [hr]
    intro v' W' H' _ _ _ r
    have r' : Rep K ca W'.G (.bl true) v' := r
    cases r'
    rfl
theorem cx_none {P : Program} {w : World} {H : Hp} {s : Shared} {e : Value} {s' : Shared} (h : L2.CX P w [] H s (fun _ _ _ => False) e s') : False := by
  obtain ⟨_, _, _, _, _, _, _, _, _, _, _, _, h⟩ := h
  exact h
end Vm

set_option Elab.async false
set_option linter.all false
set_option maxRecDepth 100000
set_option maxHeartbeats 4000000
set_option autoImplicit false
/-! Vm, part X: stepping through a body by rewriting. -/
namespace Vm
open PySem L2 PyProof.Rows
structure Tg {γ : Type} (f : γ) : Type where
/-- bind, out, seq: what follows is not looked at ahead of its time -/
def M.bd {α β : Type} (m : M α) (f : α → Env → M β) (t : Tg f := {}) (h : True := trivial) : M β := M.bind m f
def M.ot {α : Type} (m : M α) (f : α → Env → Option Out) (t : Tg f := {}) (h : True := trivial) : Option Out := M.out m f
def Out.sq (m : Option Out) (f : Env → Option Out) (t : Tg f := {}) (h : True := trivial) : Option Out := Out.seq m f
abbrev oi (i : Int) : O := .f (.d (.int i))
abbrev ob (i : Bool) : O := .f (.d (.bl i))
def minI (i j : Int) : Int := if j < i then j else i
def maxI (i j : Int) : Int := if j > i then j else i
abbrev od (x : D) : O := .f (.d x)
section
variable {α β : Type} {ρ : Env}
@[simp] theorem bind_ok {a : α} {f : α → Env → M β} : M.bd (ok a ρ) f = f a ρ := rfl
@[simp] theorem out_ok {a : α} {f : α → Env → Option Out} : M.ot (ok a ρ) f = f a ρ := rfl
@[simp] theorem bind_ite {c : Prop} [Decidable c] {a b : M α} {f : α → Env → M β} : M.bd (if c then a else b) f = if c then M.bd a f else M.bd b f := by split <;> rfl
@[simp] theorem out_ite {c : Prop} [Decidable c] {a b : M α} {f : α → Env → Option Out} : M.ot (if c then a else b) f = if c then M.ot a f else M.ot b f := by split <;> rfl
@[simp] theorem seq_nx {f : Env → Option Out} : Out.sq (some (.nx ρ)) f = f ρ := rfl
@[simp] theorem seq_rt {f : Env → Option Out} {o : O} : Out.sq (some (.rt o ρ)) f = some (.rt o ρ) := rfl
@[simp] theorem seq_bk {f : Env → Option Out} : Out.sq (some (.bk ρ)) f = some (.bk ρ) := rfl
@[simp] theorem seq_ct {f : Env → Option Out} : Out.sq (some (.ct ρ)) f = some (.ct ρ) := rfl
@[simp] theorem seq_ite {c : Prop} [Decidable c] {a b : Option Out} {f : Env → Option Out} : Out.sq (if c then a else b) f = if c then Out.sq a f else Out.sq b f := by split <;> rfl
/-- a truth value that decides -/
def bK {γ : Type} (x : O) (t e : Unit → M γ) (tt : Tg t := {}) (te : Tg e := {}) (h : True := trivial) : M γ := match x with
  | .f (.d (.bl true)) => t ()
  | .f (.d (.bl false)) => e ()
  | _ => none
@[simp] theorem bK_ob {γ : Type} {k : Bool} {t e : Unit → M γ} : bK (ob k) t e = if k = true then t () else e () := by cases k <;> rfl
def chK (x : Option Bool) (t : Unit → M O) (ρ : Env) (tt : Tg t := {}) (h : True := trivial) : M O := match x with
  | some true => t ()
  | some false => ok (ob false) ρ
  | none => none
@[simp] theorem chK_some {k : Bool} {t : Unit → M O} : chK (some k) t ρ = if k = true then t () else ok (ob false) ρ := by cases k <;> rfl
theorem chK_pure {k q : Bool} : chK (some k) (fun _ => ok (ob q) ρ) ρ = ok (ob (k && q)) ρ := by cases k <;> rfl
/-- a slot that is looked at -/
def look (i : Nat) (ρ : Env) : M O := match ρ[i]? with
  | some (some o) => ok o ρ
  | _ => none
end
section
variable {ρ : Env} {a b c : IE} {op op' : BOp}
@[simp] theorem x_var {i : Nat} : evE (.var i) ρ = rd i ρ := by rw [evE]
@[simp] theorem x_c {x : D} : evE (.c x) ρ = ok (od x) ρ := by rw [evE]
@[simp] theorem x_tup {es : List IE} : evE (.tup es) ρ = (evEs es ρ).bd fun xs ρ => if xs.length ≤ sizeLine then ok (od (.tup xs)) ρ else none := by rw [evE]; rfl
@[simp] theorem x_lst {es : List IE} : evE (.lst es) ρ = (evEs es ρ).bd fun xs ρ => if xs.length ≤ sizeLine then ok (.f (.lst xs)) ρ else none := by rw [evE]; rfl
@[simp] theorem x_bin {op : BOp} : evE (.bin op a b) ρ = (evE a ρ).bd fun x ρ => (evE b ρ).bd fun y ρ => liftF (op.ap x.fz y.fz) ρ := by rw [evE]; rfl
def negK (x : O) (ρ : Env) : M O := match x.int? with
  | some i => ok (oi (-i)) ρ
  | none => none
@[simp] theorem negK_oi {i : Int} : negK (oi i) ρ = ok (oi (-i)) ρ := rfl
@[simp] theorem x_neg : evE (.neg a) ρ = (evE a ρ).bd negK := by rw [evE]; rfl
@[simp] theorem x_cmp {op : COp} : evE (.cmp op a b) ρ = (pkIf b.still a (evE a ρ) ρ).bd fun x ρ => (pk b (evE b ρ) ρ).bd fun y ρ => liftB (op.ap x.fz y.fz) ρ := by rw [evE]; rfl
@[simp] theorem x_chain {op op' : COp} : evE (.chain op op' a b c) ρ = (evE a ρ).bd fun x ρ => (evE b ρ).bd fun y ρ => chK (op.ap x.fz y.fz) (fun _ => (evE c ρ).bd fun z ρ => liftB (op'.ap y.fz z.fz) ρ) ρ := by
  rw [evE]; rfl
@[simp] theorem x_and : evE (.andV a b) ρ = (evE a ρ).bd fun x ρ => bK x (fun _ => evE b ρ) (fun _ => ok (ob false) ρ) := by
  rw [evE]; rfl
@[simp] theorem x_or : evE (.orV a b) ρ = (evE a ρ).bd fun x ρ => bK x (fun _ => ok (ob true) ρ) (fun _ => evE b ρ) := by
  rw [evE]; rfl
def notK (x : O) (ρ : Env) : M O := match x with
  | .f (.d (.bl b)) => ok (ob (!b)) ρ
  | _ => none
@[simp] theorem notK_ob {k : Bool} : notK (ob k) ρ = ok (ob (!k)) ρ := rfl
@[simp] theorem x_not : evE (.notV a) ρ = (evE a ρ).bd notK := by rw [evE]; rfl
@[simp] theorem x_ifx {t : IT} : evE (.ifx t a b) ρ = (evT t ρ).bd fun k ρ => if k = true then evE a ρ else evE b ρ := by rw [evE]; rfl
@[simp] theorem x_call {fn : Fn} {as : List IE} : evE (.call fn as) ρ = (evAs fn.io as ρ).bd fun xs ρ => callF fn xs ρ := by rw [evE]; rfl
@[simp] theorem x_mk {C : Str} {fn : Fn} {as : List IE} : evE (.mk C fn as) ρ = (evEs as ρ).bd fun xs ρ => mkF C fn xs ρ := by rw [evE]; rfl
@[simp] theorem x_mth {C m : Str} {fn : Fn} {o : IE} {as : List IE} : evE (.mth C m fn o as) ρ = (argE (fn.io.headD false) o (evE o ρ) ρ).bd fun x ρ => if x.isIns C m ρ = true then (evAs fn.io.tail as ρ).bd fun xs ρ => callF fn (x :: xs) ρ else none := by rw [evE]; rfl
@[simp] theorem x_blt1 {f : Blt} : evE (.blt1 f a) ρ = (pk a (evE a ρ) ρ).bd fun x ρ => liftF (f.ap [x.fz]) ρ := by rw [evE]; rfl
@[simp] theorem x_blt {f : Blt} {as : List IE} : evE (.blt f as) ρ = (evEs as ρ).bd fun xs ρ => liftF (f.ap xs) ρ := by rw [evE]; rfl
@[simp] theorem x_idxV {k : Nat} : evE (.idxV k a) ρ = (look k ρ).bd fun _ ρ => (evE a ρ).bd fun y ρ => (look k ρ).bd fun o ρ => liftF ((o.fz.at? y.fz).map .d) ρ := by
  rw [evE]
  unfold look
  cases h : ρ[k]? with
  | none => rfl
  | some z =>
    cases z with
    | none => rfl
    | some o =>
      show M.bind (evE a ρ) _ = M.bind (evE a ρ) _
      congr 1
      funext y ρ'
      cases ρ'[k]? with
      | none => rfl
      | some z => cases z <;> rfl
@[simp] theorem x_idx : evE (.idx a b) ρ = (pkIf b.still a (evE a ρ) ρ).bd fun x ρ => (evE b ρ).bd fun y ρ => liftF ((x.fz.at? y.fz).map .d) ρ := by rw [evE]; rfl
@[simp] theorem x_slV {k : Nat} {lo hi : Option IE} : evE (.slV k lo hi) ρ = (look k ρ).bd fun _ ρ => (evO lo ρ).bd fun l ρ => (evO hi ρ).bd fun h ρ => (look k ρ).bd fun o ρ => liftF (o.fz.cut? l h) ρ := by
  rw [evE]
  unfold look
  cases h : ρ[k]? with
  | none => rfl
  | some z =>
    cases z with
    | none => rfl
    | some o =>
      show M.bind (evO lo ρ) _ = M.bind (evO lo ρ) _
      congr 1
      funext y ρ1
      show M.bind (evO hi ρ1) _ = M.bind (evO hi ρ1) _
      congr 1
      funext y ρ'
      cases ρ'[k]? with
      | none => rfl
      | some z => cases z <;> rfl
@[simp] theorem x_sl {lo hi : Option IE} : evE (.sl a lo hi) ρ = (evE a ρ).bd fun x ρ => (evO lo ρ).bd fun l ρ => (evO hi ρ).bd fun h ρ => liftF (x.fz.cut? l h) ρ := by rw [evE]; rfl
@[simp] theorem x_fldV {i : Nat} {f : Str} {Cs : List Str} : evE (.fldV i f Cs) ρ = rdF i f Cs ρ := by rw [evE]
/-- a turn of a comprehension -/
def lcS {α β : Type} (m : M α) (f : α → Env → M β) (tt : Tg f := {}) (h : True := trivial) : M β := match m with
  | some (.ok a ρ) => f a ρ
  | _ => none
@[simp] theorem lcS_ok {α β : Type} {x : α} {f : α → Env → M β} : lcS (ok x ρ) f = f x ρ := rfl
@[simp] theorem lcS_ite {α β : Type} {p : Prop} [Decidable p] {x y : M α} {f : α → Env → M β} : lcS (if p then x else y) f = if p then lcS x f else lcS y f := by split <;> rfl
def lcK (turn : D → Env → M (Option D)) (xs : List D) (acc : List D) (r : Option D) (ρ : Env) : M (List D) := match r with
  | none => lcL turn xs ρ acc
  | some y => if acc.length < sizeLine then lcL turn xs ρ (acc ++ [y]) else none
@[simp] theorem lcK_none {turn : D → Env → M (Option D)} {xs acc : List D} : lcK turn xs acc none ρ = lcL turn xs ρ acc := rfl
@[simp] theorem lcK_some {turn : D → Env → M (Option D)} {xs acc : List D} {y : D} : lcK turn xs acc (some y) ρ = if acc.length < sizeLine then lcL turn xs ρ (acc ++ [y]) else none := rfl
@[simp] theorem lcL_nil {turn : D → Env → M (Option D)} {acc : List D} : lcL turn [] ρ acc = ok acc ρ := rfl
@[simp] theorem lcL_cons {turn : D → Env → M (Option D)} {x : D} {xs acc : List D} : lcL turn (x :: xs) ρ acc = lcS (turn x ρ) (lcK turn xs acc) := by
  rw [lcL]
  unfold lcS lcK
  cases turn x ρ with
  | none => rfl
  | some r =>
    cases r with
    | exc x ρ => rfl
    | ok a ρ => cases a <;> rfl
theorem x_lc {own : List Nat} {t : Tgt} {it : II} {c : Option IT} {e : IE} : evE (.lc own t it c e) ρ = (evI it ρ).bd fun xs ρ1 => if own.all (plainAt ρ1) = true then (lcL (turnE own t c e) xs (wipeE own ρ1) []).bd fun ys ρ => ok (.f (.lst ys)) (backE own ρ1 ρ) else none := evE_lc
theorem ite_ob {p : Prop} [Decidable p] {q : Bool} : (if p then ok (ob q) ρ else ok (ob false) ρ) = ok (ob (decide p && q)) ρ := by
  by_cases h : p
  · rw [if_pos h, decide_eq_true h, Bool.true_and]
  · rw [if_neg h, decide_eq_false h, Bool.false_and]
def putK (x : Option Env) (f : Env → M (Option D)) (tt : Tg f := {}) (h : True := trivial) : M (Option D) := match x with
  | none => none
  | some ρ => f ρ
@[simp] theorem putK_some {f : Env → M (Option D)} : putK (some ρ) f = f ρ := rfl
@[simp] theorem turn_none {own : List Nat} {t : Tgt} {e : IE} {x : D} : turnE own t none e x ρ = putK (t.put x ρ) fun ρ => (evE e ρ).bd fun y ρ => ok (some y.fz) (wipeE own ρ) := by
  unfold turnE putK condE
  cases t.put x ρ with
  | none => rfl
  | some ρ' =>
    have z : (if true = true then (evE e ρ').bind (fun y ρ => ok (some y.fz) (wipeE own ρ)) else ok none (wipeE own ρ')) = (evE e ρ').bind (fun y ρ => ok (some y.fz) (wipeE own ρ)) := if_pos rfl
    exact z
@[simp] theorem turn_some {own : List Nat} {t : Tgt} {e : IE} {c : IT} {x : D} : turnE own t (some c) e x ρ = putK (t.put x ρ) fun ρ => (evT c ρ).bd fun k ρ => if k = true then (evE e ρ).bd fun y ρ => ok (some y.fz) (wipeE own ρ) else ok none (wipeE own ρ) := by
  unfold turnE putK condE
  cases t.put x ρ <;> rfl
@[simp] theorem xo_none : evO none ρ = ok none ρ := by rw [evO]
def intK (x : O) (ρ : Env) : M (Option Int) := match x.int? with
  | some i => ok (some i) ρ
  | none => none
@[simp] theorem intK_oi {i : Int} : intK (oi i) ρ = ok (some i) ρ := rfl
@[simp] theorem xo_some : evO (some a) ρ = (evE a ρ).bd intK := by rw [evO]; rfl
@[simp] theorem xs_nil : evEs [] ρ = ok [] ρ := by rw [evEs]
@[simp] theorem xs_cons {es : List IE} : evEs (a :: es) ρ = (evE a ρ).bd fun x ρ => (evEs es ρ).bd fun xs ρ => ok (x.fz :: xs) ρ := by rw [evEs]; rfl
@[simp] theorem xa_nil : evAs [] [] ρ = ok [] ρ := by rw [evAs]
@[simp] theorem xa_false {es : List IE} {bs : List Bool} : evAs (false :: bs) (a :: es) ρ = (evE a ρ).bd fun x ρ => (evAs bs es ρ).bd fun xs ρ => ok (.v x.fz :: xs) ρ := by
  rw [evAs]
  show M.bd (M.bd _ _) _ = _
  cases evE a ρ with
  | none => rfl
  | some r => cases r <;> rfl
@[simp] theorem xa_io {i : Nat} {es : List IE} {bs : List Bool} : evAs (true :: bs) (.var i :: es) ρ = (look i ρ).bd fun _ ρ => (evAs bs es ρ).bd fun xs ρ => ok (.io i :: xs) ρ := by
  rw [evAs]
  unfold argE look
  dsimp only
  cases ρ[i]? with
  | none => rfl
  | some z => cases z <;> rfl
def tvK (x : O) (ρ : Env) : M Bool := match x with
  | .f (.d (.bl b)) => ok b ρ
  | _ => none
@[simp] theorem tvK_ob {k : Bool} : tvK (ob k) ρ = ok k ρ := rfl
@[simp] theorem xt_val : evT (.val a) ρ = (evE a ρ).bd tvK := by rw [evT]; rfl
def trK (x : O) (ρ : Env) : M Bool := match x.fz.truth with
  | some b => ok b ρ
  | none => none
@[simp] theorem trK_ob {k : Bool} : trK (ob k) ρ = ok k ρ := rfl
@[simp] theorem trK_oi {k : Int} : trK (oi k) ρ = ok (k != 0) ρ := rfl
@[simp] theorem xt_tru : evT (.tru a) ρ = (pk a (evE a ρ) ρ).bd trK := by rw [evT]; rfl
@[simp] theorem xt_and {t u : IT} : evT (.and t u) ρ = (evT t ρ).bd fun k ρ => if k = true then evT u ρ else ok false ρ := by rw [evT]; rfl
@[simp] theorem xt_or {t u : IT} : evT (.or t u) ρ = (evT t ρ).bd fun k ρ => if k = true then ok true ρ else evT u ρ := by rw [evT]; rfl
@[simp] theorem xt_not {t : IT} : evT (.not t) ρ = (evT t ρ).bd fun k ρ => ok (!k) ρ := by rw [evT]; rfl
def seqK (x : O) (ρ : Env) : M (List D) := match x.fz with
  | .lst xs => ok xs ρ
  | .ro xs => ok xs ρ
  | .tup xs => ok xs ρ
  | .str z => ok (signsD z) ρ
  | _ => none
@[simp] theorem seqK_l {xs : List D} : seqK (.f (.lst xs)) ρ = ok xs ρ := rfl
@[simp] theorem seqK_dl {xs : List D} : seqK (od (.lst xs)) ρ = ok xs ρ := rfl
@[simp] theorem seqK_ro {xs : List D} : seqK (od (.ro xs)) ρ = ok xs ρ := rfl
@[simp] theorem seqK_t {xs : List D} : seqK (od (.tup xs)) ρ = ok xs ρ := rfl
@[simp] theorem xi_seq : evI (.seq a) ρ = (evE a ρ).bd seqK := by
  rw [evI]
  rfl
@[simp] theorem xi_rng {k : Nat} {es : List IE} : evI (.rng k es) ρ = (evEs es ρ).bd fun xs ρ => rngD k xs ρ := by rw [evI]; rfl
/-- a call's answer -/
def runK (io : List Bool) (as : List Arg) (ρ : Env) (r : Option RetF) : M O := match r with
  | some (.ret r ios) => some (.ok r (putAll io as ios ρ))
  | some (.exc x ios) => some (.exc x (putAll io as ios ρ))
  | none => none
@[simp] theorem runK_ret {io : List Bool} {as : List Arg} {r : O} {ios : List O} : runK io as ρ (some (.ret r ios)) = ok r (putAll io as ios ρ) := rfl
def argK (x : Option (List O)) (f : List O → M O) (tt : Tg f := {}) (h : True := trivial) : M O := match x with
  | none => none
  | some os => f os
@[simp] theorem argK_some {os : List O} {f : List O → M O} : argK (some os) f = f os := rfl
@[simp] theorem x_callF {fn : Fn} {as : List Arg} : callF fn as ρ = if (ioOf as).Nodup ∧ fits fn.io as = true then argK (argsO ρ as) fun os => runK fn.io as ρ (fn.run os) else none := by
  unfold callF argK runK
  rfl
end
section
variable {ρ : Env} {e : IE} {ss : List IS}
@[simp] theorem s_nil : evSs [] ρ = some (.nx ρ) := by rw [evSs]
@[simp] theorem s_cons {s : IS} : evSs (s :: ss) ρ = Out.sq (evS s ρ) fun ρ => evSs ss ρ := by rw [evSs]; rfl
@[simp] theorem s_asg {t : Tgt} : evS (.asg t e) ρ = (evE e ρ).ot fun x ρ => (t.putO x ρ).map .nx := by rw [evS]; rfl
@[simp] theorem s_par {is : List Nat} {es : List IE} : evS (.par is es) ρ = (evEs es ρ).ot fun xs ρ => (setAll is xs ρ).map .nx := by rw [evS]; rfl
def setK (i : Nat) (x k o : O) (ρ : Env) : Option Out := match o with
  | .f (.lst xs) => match k.int? with
    | some k => match ixN xs.length k with
      | some j => some (.nx (ρ.set i (some (.f (.lst (xs.set j x.fz))))))
      | none => none
    | none => none
  | _ => none
@[simp] theorem setK_l {i : Nat} {x : O} {k : Int} {xs : List D} : setK i x (oi k) (.f (.lst xs)) ρ = match ixN xs.length k with
      | some j => some (.nx (ρ.set i (some (.f (.lst (xs.set j x.fz))))))
      | none => none := rfl
@[simp] theorem s_setI {i : Nat} {ix : IE} : evS (.setI i ix e) ρ = (evE e ρ).ot fun x ρ => (look i ρ).ot fun _ ρ => (evE ix ρ).ot fun k ρ => (look i ρ).ot fun o ρ => setK i x k o ρ := by
  rw [evS]
  congr 1
  funext x ρ
  unfold look
  cases ρ[i]? with
  | none => rfl
  | some z =>
    cases z with
    | none => rfl
    | some o =>
      show M.out (evE ix ρ) _ = M.out (evE ix ρ) _
      congr 1
      funext k ρ
      cases ρ[i]? with
      | none => rfl
      | some z =>
        cases z with
        | none => rfl
        | some o =>
          cases o with
          | ins C fs => rfl
          | f y => cases y <;> rfl
def isL (o : O) : Bool := match o with
  | .f (.lst _) => true
  | _ => false
def appK (i : Nat) (x o : O) (ρ : Env) : Option Out := match o with
  | .f (.lst xs) => if xs.length < sizeLine then some (.nx (ρ.set i (some (.f (.lst (xs ++ [x.fz])))))) else none
  | _ => none
@[simp] theorem appK_l {i : Nat} {x : O} {xs : List D} : appK i x (.f (.lst xs)) ρ = if xs.length < sizeLine then some (.nx (ρ.set i (some (.f (.lst (xs ++ [x.fz])))))) else none := rfl
@[simp] theorem isL_l {xs : List D} : isL (.f (.lst xs)) = true := rfl
@[simp] theorem s_app {i : Nat} : evS (.app i e) ρ = (look i ρ).ot fun o ρ => if isL o = true then (evE e ρ).ot fun x ρ => (look i ρ).ot fun o ρ => appK i x o ρ else none := by
  rw [evS]
  unfold look
  cases ρ[i]? with
  | none => rfl
  | some z =>
    cases z with
    | none => rfl
    | some o =>
      cases o with
      | ins C fs => rfl
      | f y =>
        cases y with
        | d y => rfl
        | dct y => rfl
        | lst y =>
          show M.out (evE e ρ) _ = M.out (evE e ρ) _
          congr 1
          funext k ρ
          cases ρ[i]? with
          | none => rfl
          | some z =>
            cases z with
            | none => rfl
            | some o =>
              cases o with
              | ins C fs => rfl
              | f y => cases y <;> rfl
@[simp] theorem s_ex : evS (.ex e) ρ = (evE e ρ).ot fun _ ρ => some (.nx ρ) := by rw [evS]; rfl
@[simp] theorem s_ret : evS (.ret e) ρ = (evE e ρ).ot fun x ρ => some (.rt x ρ) := by rw [evS]; rfl
@[simp] theorem s_retV {i : Nat} : evS (.retV i) ρ = (look i ρ).ot fun o ρ => some (.rt o (ρ.set i none)) := by
  rw [evS]
  unfold look
  cases ρ[i]? with
  | none => rfl
  | some z => cases z <;> rfl
@[simp] theorem s_retN : evS .retN ρ = some (.rt (od .non) ρ) := by rw [evS]
@[simp] theorem s_pass : evS .pass ρ = some (.nx ρ) := by rw [evS]
@[simp] theorem s_brk : evS .brk ρ = some (.bk ρ) := by rw [evS]
@[simp] theorem s_cnt : evS .cnt ρ = some (.ct ρ) := by rw [evS]
@[simp] theorem s_if {t : IT} {a b : List IS} : evS (.ifs t a b) ρ = (evT t ρ).ot fun k ρ => if k = true then evSs a ρ else evSs b ρ := by rw [evS]; rfl
@[simp] theorem s_for {t : Tgt} {it : II} {b : List IS} : evS (.for_ t it b) ρ = (evI it ρ).ot fun xs ρ => forL (turnS t b) xs ρ := by
  rw [evS]
  congr 1
def outK (io : List Bool) (x : Option Out) : Option RetF := match x with
  | some (.nx ρ) => (iosOf io ρ).map (.ret (.f (.d .non)))
  | some (.rt o ρ) => (iosOf io ρ).map (.ret o)
  | some (.exc x ρ) => (iosOf io ρ).map (.exc x)
  | _ => none
@[simp] theorem outK_rt {io : List Bool} {o : O} : outK io (some (.rt o ρ)) = (iosOf io ρ).map (.ret o) := rfl
@[simp] theorem outK_nx {io : List Bool} : outK io (some (.nx ρ)) = (iosOf io ρ).map (.ret (.f (.d .non))) := rfl
@[simp] theorem outK_ite {io : List Bool} {p : Prop} [Decidable p] {a b : Option Out} : outK io (if p then a else b) = if p then outK io a else outK io b := by split <;> rfl
theorem run_def {k : Nat} {io : List Bool} {body : List IS} {os : List O} (h : os.length = io.length) : (defF k io body).run os = outK io (evSs body (os.map some ++ List.replicate (k - os.length) none)) := by
  show runB k io body os = _
  unfold runB
  rw [if_pos h]
  rfl
theorem ap_max {i j : Int} : Blt.ap .max2 [.int i, .int j] = some (.d (.int (maxI i j))) := rfl
theorem ap_min {i j : Int} : Blt.ap .min2 [.int i, .int j] = some (.d (.int (minI i j))) := rfl
theorem ap_len {xs : List D} : Blt.ap .len [.lst xs] = some (.d (.int xs.length)) := rfl
theorem ap_lenR {xs : List D} : Blt.ap .len [.ro xs] = some (.d (.int xs.length)) := rfl
theorem ap_lenT {xs : List D} : Blt.ap .len [.tup xs] = some (.d (.int xs.length)) := rfl
theorem ap_int {i : Int} : Blt.ap .int_ [.int i] = some (.d (.int i)) := rfl
theorem ap_intb {i : Bool} : Blt.ap .int_ [.bl i] = some (.d (.int (if i then 1 else 0))) := rfl
theorem ap_abs {i : Int} : Blt.ap .abs_ [.int i] = some (.d (.int (if i < 0 then -i else i))) := rfl
theorem ap_tup {xs : List D} : Blt.ap .tuple_ [.lst xs] = some (.d (.tup xs)) := rfl
theorem ap_list {xs : List D} : Blt.ap .list_ [.lst xs] = some (.lst xs) := rfl
@[simp] theorem leLine {n : Nat} (h : n ≤ 1000) : n ≤ sizeLine := Nat.le_of_lt (small1000 h)
@[simp] theorem ltLine {n : Nat} (h : n ≤ 1000) : n < sizeLine := small1000 h
def forS (o : Option Out) (f : Env → Option Out) (tt : Tg f := {}) (h : True := trivial) : Option Out := match o with
  | some (.nx ρ) => f ρ
  | some (.ct ρ) => f ρ
  | some (.bk ρ) => some (.nx ρ)
  | o => o
@[simp] theorem forS_nx {f : Env → Option Out} : forS (some (.nx ρ)) f = f ρ := rfl
@[simp] theorem forS_ct {f : Env → Option Out} : forS (some (.ct ρ)) f = f ρ := rfl
@[simp] theorem forS_bk {f : Env → Option Out} : forS (some (.bk ρ)) f = some (.nx ρ) := rfl
@[simp] theorem forS_rt {f : Env → Option Out} {o : O} : forS (some (.rt o ρ)) f = some (.rt o ρ) := rfl
@[simp] theorem forS_ite {p : Prop} [Decidable p] {a b : Option Out} {f : Env → Option Out} : forS (if p then a else b) f = if p then forS a f else forS b f := by split <;> rfl
@[simp] theorem forL_nil {turn : D → Env → Option Out} : forL turn [] ρ = some (.nx ρ) := rfl
@[simp] theorem forL_cons {turn : D → Env → Option Out} {x : D} {xs : List D} : forL turn (x :: xs) ρ = forS (turn x ρ) (forL turn xs) := by
  rw [forL]
  unfold forS
  cases turn x ρ with
  | none => rfl
  | some o => cases o <;> rfl
def putS (o : Option Env) (f : Env → Option Out) (tt : Tg f := {}) (h : True := trivial) : Option Out := match o with
  | none => none
  | some ρ => f ρ
@[simp] theorem putS_some {f : Env → Option Out} : putS (some ρ) f = f ρ := rfl
@[simp] theorem turnS_put {t : Tgt} {b : List IS} {x : D} : turnS t b x ρ = putS (t.put x ρ) (evSs b) := by
  unfold turnS putS
  cases t.put x ρ <;> rfl
@[simp] theorem liftF_some {y : F} : liftF (some y) ρ = ok (.f y) ρ := rfl
@[simp] theorem liftB_some {y : Bool} : liftB (some y) ρ = ok (ob y) ρ := rfl
@[simp] theorem eq_int {i j : Int} : (D.int i).eq? (.int j) = some (decide (i = j)) := by
  unfold D.eq?
  simp [D.py, SeqAt.shaped, PyData.canLay0, PyData.depth, PyData.eqv]
  rfl
end
end Vm

set_option Elab.async false
set_option linter.all false
set_option maxRecDepth 100000
set_option maxHeartbeats 4000000
set_option autoImplicit false
/-! Vm, part S: loops, digits of a number, the start of a law's turn. -/
namespace Vm
open PySem L2 PyProof.Rows
theorem forL_cnt {turn : D → Env → Option Out} {P : Nat → Env → Prop} {n : Nat} {xs0 : List D} (step : ∀ j ρ x, j < n → x ∈ xs0 → P j ρ → ∃ ρ', turn x ρ = some (.nx ρ') ∧ P (j + 1) ρ') :
    ∀ (xs : List D) (j : Nat) (ρ : Env), (∀ x ∈ xs, x ∈ xs0) → j + xs.length ≤ n → P j ρ → ∃ ρ', forL turn xs ρ = some (.nx ρ') ∧ P (j + xs.length) ρ'
  | [], j, ρ, _, _, h => ⟨ρ, rfl, h⟩
  | x :: xs, j, ρ, hm, hn, h => by
    rw [List.length_cons] at hn
    obtain ⟨ρ1, e1, h1⟩ := step j ρ x (by omega) (hm x (List.mem_cons_self)) h
    obtain ⟨ρ2, e2, h2⟩ := forL_cnt step xs (j + 1) ρ1 (fun y hy => hm y (List.mem_cons_of_mem _ hy)) (by omega) h1
    refine ⟨ρ2, ?_, by rw [List.length_cons]; rw [show j + (xs.length + 1) = j + 1 + xs.length by omega]; exact h2⟩
    rw [forL, e1]; exact e2
/-- every turn goes on, or the loop is left with an answer -/
theorem forL_inv {turn : D → Env → Option Out} {P : Env → Prop} : ∀ {xs : List D} {ρ : Env}, (∀ x ∈ xs, ∀ ρ, P ρ → ∃ ρ', turn x ρ = some (.nx ρ') ∧ P ρ') → P ρ → ∃ ρ', forL turn xs ρ = some (.nx ρ') ∧ P ρ'
  | [], ρ, _, h => ⟨ρ, rfl, h⟩
  | x :: xs, ρ, step, h => by
    obtain ⟨ρ1, e1, h1⟩ := step x (List.mem_cons_self) ρ h
    obtain ⟨ρ2, e2, h2⟩ := forL_inv (xs := xs) (fun y hy => step y (List.mem_cons_of_mem _ hy)) h1
    exact ⟨ρ2, by rw [forL, e1]; exact e2, h2⟩
theorem rngL_mem {lo c : Int} {n : Nat} {x : D} (h : x ∈ rngL lo n c) : ∃ k : Nat, k < n ∧ x = .int (lo + k * c) := by
  unfold rngL at h
  obtain ⟨k, hk, rfl⟩ := List.mem_map.mp h
  exact ⟨k, List.mem_range.mp hk, rfl⟩
theorem rngL_len {lo c : Int} {n : Nat} : (rngL lo n c).length = n := by
  unfold rngL; rw [List.length_map, List.length_range]
/-! ### the start -/
def tStart : List IS := [.asg (.nm 3) (.c (.int (618970019642690137449562111))),
  .asg (.nm 4) (.bin .mod (.blt1 .int_ (.bin .add (.bin .add (.bin .mul (.var 2) (.c (.int (2654435761)))) (.bin .mul (.bin .add (.var 1) (.c (.int (1)))) (.c (.int (6700417))))) (.c (.int (11))))) (.var 3)),
  .asg (.nm 5) (.c (.int (0))),
  .for_ (.nm 6) (.rng 1 [(.c (.int (6)))]) [.asg (.nm 4) (.bin .mod (.blt1 .int_ (.bin .add (.bin .add (.bin .add (.bin .add (.bin .mul (.var 4) (.var 4)) (.bin .mul (.c (.int (7))) (.var 4))) (.bin .mul (.c (.int (131))) (.var 1))) (.var 6)) (.c (.int (3))))) (.var 3)),
    .asg (.nm 5) (.bin .add (.bin .mul (.var 5) (.var 3)) (.var 4))],
  .ret (.lst [(.var 5)])]
def bStart : List IS := [.asg (.nm 2) (.c (.int (0))),
  .ifs (.val (.cmp .gt (.blt1 .len (.var 0)) (.c (.int (0))))) [.asg (.nm 2) (.blt1 .int_ (.idxV 0 (.bin .mod (.blt1 .int_ (.var 1)) (.blt1 .len (.var 0)))))] [],
  .ifs (.and (.val (.cmp .lt (.var 1) (.blt1 .len (.var 0)))) (.val (.cmp .ge (.blt1 .abs_ (.var 2)) (.bin .pow (.c (.int (10))) (.c (.int (18))))))) [.ret (.lst [(.blt1 .abs_ (.var 2))])] []] ++ tStart
def fStart : Fn := defF 7 [false, false] bStart
theorem mulOk_r {i j : Int} (h : -(2 ^ 64) < j ∧ j < 2 ^ 64) : mulOk i j = true := by
  unfold mulOk
  simp only [Bool.or_eq_true, Bool.and_eq_true, decide_eq_true_eq]
  exact .inl (.inr h)
theorem mulOk_l {i j : Int} (h : -(2 ^ 64) < i ∧ i < 2 ^ 64) : mulOk i j = true := by
  unfold mulOk
  simp only [Bool.or_eq_true, Bool.and_eq_true, decide_eq_true_eq]
  exact .inl (.inl h)
theorem mulOk_b {i j : Int} {m n : Nat} (hi : Builtin.Int.intBits i ≤ m) (hj : Builtin.Int.intBits j ≤ n) (h : m + n ≤ 134217728) : mulOk i j = true := by
  unfold mulOk
  simp only [Bool.or_eq_true, Bool.and_eq_true, decide_eq_true_eq]
  right; omega
abbrev prime89 : Int := 618970019642690137449562111
theorem bits89 {i : Int} (h0 : 0 ≤ i) (h : i < 2 ^ 89) : Builtin.Int.intBits i ≤ 89 := by
  refine PySem.intBits_le_iff.mpr ?_
  omega
/-- what a turn of the start's loop keeps -/
def StartP (s : Option O) (k : Int) (c : Option O) (j : Nat) (ρ : Env) : Prop := ∃ (m n : Int) (t : Option O), ρ = [s, some (oi k), c, some (oi prime89), some (oi m), some (oi n), t] ∧ 0 ≤ m ∧ m < 2 ^ 89 ∧ 0 ≤ n ∧ Builtin.Int.intBits n ≤ 200 * j
theorem start_turn {s c : Option O} {k : Int} {j : Nat} {ρ : Env} {t : Int} (hj : j < 6) (h : StartP s k c j ρ) :
    ∃ ρ', turnS (.nm 6) [.asg (.nm 4) (.bin .mod (.blt1 .int_ (.bin .add (.bin .add (.bin .add (.bin .add (.bin .mul (.var 4) (.var 4)) (.bin .mul (.c (.int (7))) (.var 4))) (.bin .mul (.c (.int (131))) (.var 1))) (.var 6)) (.c (.int (3))))) (.var 3)),
      .asg (.nm 5) (.bin .add (.bin .mul (.var 5) (.var 3)) (.var 4))] (.int t) ρ = some (.nx ρ') ∧ StartP s k c (j + 1) ρ' := by
  obtain ⟨m, n, t0, rfl, h1, h2, h3, h4⟩ := h
  have b1 := bits89 h1 h2
  have k1 : mulOk m m = true := mulOk_b b1 b1 (by omega)
  have k2 : mulOk 7 m = true := mulOk_l (by omega)
  have k3 : mulOk 131 k = true := mulOk_l (by omega)
  have bp : Builtin.Int.intBits prime89 ≤ 89 := bits89 (by decide) (by decide)
  have hp : (0 : Int) < prime89 := by decide
  have hp2 : prime89 < 2 ^ 89 := by decide
  have k4 : mulOk n prime89 = true := mulOk_b h4 bp (by omega)
  have hm0 := Int.emod_nonneg (m * m + 7 * m + 131 * k + t + 3) (show prime89 ≠ 0 by decide)
  have hm1 := Int.emod_lt_of_pos (m * m + 7 * m + 131 * k + t + 3) (show (0 : Int) < prime89 by decide)
  refine ⟨[s, some (oi k), c, some (oi prime89), some (oi ((m * m + 7 * m + 131 * k + t + 3) % prime89)), some (oi (n * prime89 + (m * m + 7 * m + 131 * k + t + 3) % prime89)), some (oi t)], ?_, (m * m + 7 * m + 131 * k + t + 3) % prime89, n * prime89 + (m * m + 7 * m + 131 * k + t + 3) % prime89, some (oi t), rfl, hm0, by omega, by
    have : 0 ≤ n * prime89 := Int.mul_nonneg h3 (by decide)
    omega, ?_⟩
  · simp [Tgt.put, Tgt.putO, rd, look, pk, pkIf, IE.still, BOp.ap, O.fz, F.fz, ap_int, k1, k2, k3, k4, hp]
  · have q1 := PySem.intBits_mul_le h4 bp
    have q2 := bits89 hm0 (by omega)
    have q3 := PySem.intBits_add_le q1 q2
    refine Nat.le_trans q3 ?_
    omega
theorem run_start (ns : List Int) (k : Int) (hk : 0 ≤ k) : ∃ n : Int, 0 ≤ n ∧ fStart.run [od (.ro (ns.map .int)), oi k] = some (.ret (.f (.lst [.int n])) []) := by
  have hp : (0 : Int) < prime89 := by decide
  have hp2 : prime89 < 2 ^ 89 := by decide
  have big : powOk 10 18 = true := by decide
  have kk : mulOk (k + 1) 6700417 = true := mulOk_r (by omega)
  have loop : ∀ (s c : Option O) (m : Int), 0 ≤ m → m < 2 ^ 89 → ∃ m' n' t', 0 ≤ n' ∧ forL (turnS (.nm 6) [.asg (.nm 4) (.bin .mod (.blt1 .int_ (.bin .add (.bin .add (.bin .add (.bin .add (.bin .mul (.var 4) (.var 4)) (.bin .mul (.c (.int (7))) (.var 4))) (.bin .mul (.c (.int (131))) (.var 1))) (.var 6)) (.c (.int (3))))) (.var 3)),
    .asg (.nm 5) (.bin .add (.bin .mul (.var 5) (.var 3)) (.var 4))]) (rngL 0 6 1) [s, some (oi k), c, some (oi prime89), some (oi m), some (oi 0), none] = some (.nx [s, some (oi k), c, some (oi prime89), some (oi m'), some (oi n'), t']) := by
    intro s c m h1 h2
    obtain ⟨ρ', e, m', n', t', rfl, _, _, h3, _⟩ := forL_cnt (P := StartP s k c) (n := 6) (xs0 := rngL 0 6 1) (fun j ρ x hj hx h => by
      obtain ⟨i, _, rfl⟩ := rngL_mem hx
      exact start_turn hj h) (rngL 0 6 1) 0 [s, some (oi k), c, some (oi prime89), some (oi m), some (oi 0), none] (fun _ h => h) (by rw [rngL_len]; exact Nat.le_refl _) ⟨m, 0, none, rfl, h1, h2, Int.le_refl _, by decide⟩
    exact ⟨m', n', t', h3, e⟩
  have tail : ∀ (s : Option O) (c : Int), ∃ n, 0 ≤ n ∧ outK [false, false] (evSs tStart [s, some (oi k), some (oi c), none, none, none, none]) = some (.ret (.f (.lst [.int n])) []) := by
    intro s c
    have kc : mulOk c 2654435761 = true := mulOk_r (by omega)
    obtain ⟨m', n', t', h3, e⟩ := loop s (some (oi c)) ((c * 2654435761 + (k + 1) * 6700417 + 11) % prime89) (Int.emod_nonneg _ (by decide)) (Int.lt_trans (Int.emod_lt_of_pos _ hp) hp2)
    refine ⟨n', h3, ?_⟩
    unfold tStart
    simp [Tgt.put, Tgt.putO, rd, look, pk, pkIf, IE.still, BOp.ap, O.fz, F.fz, ap_int, kk, kc, hp, rngD, small62, e, iosOf]
  unfold fStart bStart
  rw [run_def rfl]
  show ∃ n, 0 ≤ n ∧ outK [false, false] (evSs (_ :: _ :: _ :: tStart) [some (od (.ro (ns.map .int))), some (oi k), none, none, none, none, none]) = _
  by_cases hl : 0 < ns.length
  · obtain ⟨c, hc⟩ : ∃ c : Int, atI (ns.map D.int) (k % ((ns.map D.int).length : Int)) = some (.int c) := by
      have h0 := Int.emod_nonneg k (show ((ns.map D.int).length : Int) ≠ 0 by rw [List.length_map]; omega)
      have h1 := Int.emod_lt_of_pos k (show (0 : Int) < ((ns.map D.int).length : Int) by rw [List.length_map]; omega)
      generalize k % ((ns.map D.int).length : Int) = i at h0 h1
      unfold atI ixN
      rw [if_pos h0, if_pos h1]
      have hi : i.toNat < ns.length := by rw [List.length_map] at h1; omega
      exact ⟨ns[i.toNat], by simp [hi]⟩
    obtain ⟨n, hn, e⟩ := tail (some (od (.ro (ns.map .int)))) c
    rw [List.length_map] at hc
    by_cases hb : k < (ns.length : Int) ∧ 10 ^ 18 ≤ (if c < 0 then -c else c)
    · refine ⟨if c < 0 then -c else c, by split <;> omega, ?_⟩
      obtain ⟨hb1, hb2⟩ := hb
      have hb3 : (1000000000000000000 : Int) ≤ (if c < 0 then -c else c) := hb2
      simp [Tgt.put, Tgt.putO, rd, look, pk, pkIf, IE.still, BOp.ap, COp.ap, D.at?, O.fz, F.fz, ap_int, ap_lenR, ap_abs, hl, hc, big, hb1, hb3, iosOf]
    · refine ⟨n, hn, ?_⟩
      by_cases hb1 : k < (ns.length : Int)
      · have hb2 : ¬ (1000000000000000000 : Int) ≤ (if c < 0 then -c else c) := fun z => hb ⟨hb1, z⟩
        simp [Tgt.put, Tgt.putO, rd, look, pk, pkIf, IE.still, BOp.ap, COp.ap, D.at?, O.fz, F.fz, ap_int, ap_lenR, ap_abs, hl, hc, big, hb1, hb2, e]
      · simp [Tgt.put, Tgt.putO, rd, look, pk, pkIf, IE.still, BOp.ap, COp.ap, D.at?, O.fz, F.fz, ap_int, ap_lenR, ap_abs, hl, hc, big, hb1, e]
  · obtain ⟨n, hn, e⟩ := tail (some (od (.ro (ns.map .int)))) 0
    have hb1 : ¬ k < (ns.length : Int) := by omega
    refine ⟨n, hn, ?_⟩
    simp [Tgt.put, Tgt.putO, rd, look, pk, pkIf, IE.still, BOp.ap, COp.ap, D.at?, O.fz, F.fz, ap_int, ap_lenR, ap_abs, hl, hb1, e]
/-! ### a digit -/
def bDigit : List IS := [.asg (.nm 2) (.bin .mod (.blt1 .int_ (.idxV 0 (.c (.int (0))))) (.var 1)),
  .setI 0 (.c (.int (0))) (.bin .fdiv (.idxV 0 (.c (.int (0)))) (.var 1)),
  .retV 2]
def fDigit : Fn := defF 3 [true, false] bDigit
theorem divOk_pos {j : Int} (h : divOk j = true) : 0 < j := by
  unfold divOk at h
  rw [Bool.and_eq_true, decide_eq_true_eq] at h
  exact h.1
theorem run_digit (n m : Int) (h : divOk m = true) : fDigit.run [.f (.lst [.int n]), oi m] = some (.ret (oi (n % m)) [.f (.lst [.int (n / m)])]) := by
  have hp := divOk_pos h
  unfold fDigit bDigit
  rw [run_def rfl]
  simp [Tgt.put, Tgt.putO, rd, look, pk, pkIf, IE.still, BOp.ap, COp.ap, D.at?, O.fz, F.fz, ap_int, atI, ixN, h, hp, iosOf]
theorem divOk_small {m : Int} (h0 : 0 < m) (h : m < 2 ^ 64) : divOk m = true := by
  unfold divOk
  rw [Bool.and_eq_true, decide_eq_true_eq, decide_eq_true_eq]
  refine ⟨h0, ?_⟩
  have : m.natAbs < 2 ^ 64 := by omega
  have := (Nat.log2_lt (by omega)).mpr this
  omega
end Vm

set_option Elab.async false
set_option linter.all false
set_option maxRecDepth 100000
set_option maxHeartbeats 4000000
namespace Vm
open PySem L2 PyProof.Rows
def topS (i : Nat) : Stmt := PySem.Challenge.pw_sillwatch_k40_whole_places_of_popups_tur.main.body.getD i (.Pass ⟨0, 0, 0, 0⟩)
def clsS (i j : Nat) : Stmt := match topS i with
  | .ClassDef _ _ _ b _ _ _ _ _ _ _ => b.getD j (.Pass ⟨0, 0, 0, 0⟩)
  | s => s

/-! lies_in -/
def b_lies_in : List IS := [.ret (.andV (.cmp .le (.idxV 2 (.c (.int (0)))) (.var 0)) (.cmp .le (.bin .add (.var 0) (.var 1)) (.bin .add (.idxV 2 (.c (.int (0)))) (.idxV 2 (.c (.int (1)))))))]
def f_lies_in : Fn := defF 3 [false, false, false] b_lies_in
def g_lies_in : Gm := { N := ["begin", "length", "room"], io := [false, false, false] }
theorem c_lies_in : cDef g_lies_in 60 ["begin", "length", "room"] (topS 1) = some b_lies_in := by rfl
/-! point_of -/
def b_point_of : List IS := [.ifs (.val (.cmp .lt (.var 0) (.c (.int (0))))) [.retV 1] [],
  .ifs (.val (.cmp .eq (.var 0) (.c (.int (0))))) [.ret (.bin .add (.var 1) (.bin .fdiv (.var 2) (.c (.int (2)))))] [],
  .ret (.bin .add (.var 1) (.var 2))]
def f_point_of : Fn := defF 3 [false, false, false] b_point_of
def g_point_of : Gm := { N := ["sign", "begin", "length"], io := [false, false, false] }
theorem c_point_of : cDef g_point_of 60 ["sign", "begin", "length"] (topS 2) = some b_point_of := by rfl
/-! begin_of -/
def b_begin_of : List IS := [.asg (.nm 6) (.call f_point_of [(.var 0), (.var 2), (.var 3)]),
  .ifs (.val (.cmp .lt (.var 1) (.c (.int (0))))) [.ret (.bin .add (.bin .sub (.var 6) (.var 4)) (.var 5))] [],
  .ifs (.val (.cmp .eq (.var 1) (.c (.int (0))))) [.ret (.bin .add (.bin .sub (.var 6) (.bin .fdiv (.var 4) (.c (.int (2))))) (.var 5))] [],
  .ret (.bin .add (.var 6) (.var 5))]
def f_begin_of : Fn := defF 7 [false, false, false, false, false, false] b_begin_of
def g_begin_of : Gm := { N := ["anchor", "gravity", "begin", "length", "size", "offset", "point"], io := [false, false, false, false, false, false], fns := [("point_of", f_point_of)] }
theorem c_begin_of : cDef g_begin_of 60 ["anchor", "gravity", "begin", "length", "size", "offset"] (topS 3) = some b_begin_of := by rfl
/-! slid -/
def b_slid : List IS := [.asg (.nm 4) (.idxV 3 (.c (.int (0)))),
  .asg (.nm 5) (.bin .sub (.bin .add (.idxV 3 (.c (.int (0)))) (.idxV 3 (.c (.int (1))))) (.var 1)),
  .ifs (.val (.cmp .lt (.var 2) (.c (.int (0))))) [.ret (.blt .min2 [(.blt .max2 [(.var 0), (.var 4)]), (.var 5)])] [],
  .ret (.blt .max2 [(.blt .min2 [(.var 0), (.var 5)]), (.var 4)])]
def f_slid : Fn := defF 6 [false, false, false, false] b_slid
def g_slid : Gm := { N := ["begin", "size", "gravity", "room", "first", "last"], io := [false, false, false, false] }
theorem c_slid : cDef g_slid 60 ["begin", "size", "gravity", "room"] (topS 4) = some b_slid := by rfl
/-! place_axis -/
def b_place_axis : List IS := [.asg (.nm 8) (.call f_begin_of [(.var 0), (.var 1), (.var 2), (.var 3), (.var 4), (.var 5)]),
  .ifs (.tru (.call f_lies_in [(.var 8), (.var 4), (.var 6)])) [.ret (.tup [(.var 8), (.var 4)])] [],
  .ifs (.tru (.idxV 7 (.c (.int (0))))) [.asg (.nm 9) (.call f_begin_of [(.neg (.var 0)), (.neg (.var 1)), (.var 2), (.var 3), (.var 4), (.neg (.var 5))]),
    .ifs (.tru (.call f_lies_in [(.var 9), (.var 4), (.var 6)])) [.ret (.tup [(.var 9), (.var 4)])] []] [],
  .ifs (.tru (.idxV 7 (.c (.int (1))))) [.asg (.nm 8) (.call f_slid [(.var 8), (.var 4), (.var 1), (.var 6)]),
    .ifs (.tru (.call f_lies_in [(.var 8), (.var 4), (.var 6)])) [.ret (.tup [(.var 8), (.var 4)])] []] [],
  .ifs (.tru (.idxV 7 (.c (.int (2))))) [.asg (.nm 10) (.blt .max2 [(.var 8), (.idxV 6 (.c (.int (0))))]),
    .asg (.nm 11) (.blt .min2 [(.bin .add (.var 8) (.var 4)), (.bin .add (.idxV 6 (.c (.int (0)))) (.idxV 6 (.c (.int (1)))))]),
    .ifs (.val (.cmp .lt (.var 10) (.var 11))) [.ret (.tup [(.var 10), (.bin .sub (.var 11) (.var 10))])] []] [],
  .ret (.tup [(.var 8), (.var 4)])]
def f_place_axis : Fn := defF 12 [false, false, false, false, false, false, false, false] b_place_axis
def g_place_axis : Gm := { N := ["anchor", "gravity", "begin", "length", "size", "offset", "room", "bits", "at", "other", "first", "last"], io := [false, false, false, false, false, false, false, false], fns := [("begin_of", f_begin_of), ("lies_in", f_lies_in), ("slid", f_slid)] }
theorem c_place_axis : cDef g_place_axis 60 ["anchor", "gravity", "begin", "length", "size", "offset", "room", "bits"] (topS 5) = some b_place_axis := by rfl
/-! has_bit -/
def b_has_bit : List IS := [.ret (.cmp .eq (.bin .mod (.bin .fdiv (.var 0) (.var 1)) (.c (.int (2)))) (.c (.int (1))))]
def f_has_bit : Fn := defF 2 [false, false] b_has_bit
def g_has_bit : Gm := { N := ["number", "bit"], io := [false, false] }
theorem c_has_bit : cDef g_has_bit 60 ["number", "bit"] (topS 6) = some b_has_bit := by rfl
/-! place_popup -/
def b_place_popup : List IS := [.asg (.tp [2, 3, 4, 5, 6, 7, 8, 9, 10, 11, 12, 13, 14]) (.var 0),
  .asg (.nm 15) (.tup [(.call f_has_bit [(.var 14), (.c (.int (1)))]), (.call f_has_bit [(.var 14), (.c (.int (4)))]), (.call f_has_bit [(.var 14), (.c (.int (16)))])]),
  .asg (.nm 16) (.tup [(.call f_has_bit [(.var 14), (.c (.int (2)))]), (.call f_has_bit [(.var 14), (.c (.int (8)))]), (.call f_has_bit [(.var 14), (.c (.int (32)))])]),
  .asg (.tp [17, 18]) (.call f_place_axis [(.var 6), (.var 8), (.var 2), (.var 4), (.var 10), (.var 12), (.tup [(.idxV 1 (.c (.int (0)))), (.idxV 1 (.c (.int (2))))]), (.var 15)]),
  .asg (.tp [19, 20]) (.call f_place_axis [(.var 7), (.var 9), (.var 3), (.var 5), (.var 11), (.var 13), (.tup [(.idxV 1 (.c (.int (1)))), (.idxV 1 (.c (.int (3))))]), (.var 16)]),
  .ret (.tup [(.var 17), (.var 19), (.var 18), (.var 20)])]
def f_place_popup : Fn := defF 21 [false, false] b_place_popup
def g_place_popup : Gm := { N := ["positioner", "room", "ax", "ay", "aw", "ah", "anchor_x", "anchor_y", "gravity_x", "gravity_y", "width", "height", "dx", "dy", "adjust", "sideways", "upright", "left", "wide", "top", "high"], io := [false, false], fns := [("has_bit", f_has_bit), ("place_axis", f_place_axis)] }
theorem c_place_popup : cDef g_place_popup 60 ["positioner", "room"] (topS 7) = some b_place_popup := by rfl
/-! _law_start -/
def b__law_start : List IS := [.asg (.nm 2) (.c (.int (0))),
  .ifs (.val (.cmp .gt (.blt1 .len (.var 0)) (.c (.int (0))))) [.asg (.nm 2) (.blt1 .int_ (.idxV 0 (.bin .mod (.blt1 .int_ (.var 1)) (.blt1 .len (.var 0)))))] [],
  .ifs (.and (.val (.cmp .lt (.var 1) (.blt1 .len (.var 0)))) (.val (.cmp .ge (.blt1 .abs_ (.var 2)) (.bin .pow (.c (.int (10))) (.c (.int (18))))))) [.ret (.lst [(.blt1 .abs_ (.var 2))])] [],
  .asg (.nm 3) (.c (.int (618970019642690137449562111))),
  .asg (.nm 4) (.bin .mod (.blt1 .int_ (.bin .add (.bin .add (.bin .mul (.var 2) (.c (.int (2654435761)))) (.bin .mul (.bin .add (.var 1) (.c (.int (1)))) (.c (.int (6700417))))) (.c (.int (11))))) (.var 3)),
  .asg (.nm 5) (.c (.int (0))),
  .for_ (.nm 6) (.rng 1 [(.c (.int (6)))]) [.asg (.nm 4) (.bin .mod (.blt1 .int_ (.bin .add (.bin .add (.bin .add (.bin .add (.bin .mul (.var 4) (.var 4)) (.bin .mul (.c (.int (7))) (.var 4))) (.bin .mul (.c (.int (131))) (.var 1))) (.var 6)) (.c (.int (3))))) (.var 3)),
    .asg (.nm 5) (.bin .add (.bin .mul (.var 5) (.var 3)) (.var 4))],
  .ret (.lst [(.var 5)])]
def f__law_start : Fn := defF 7 [false, false] b__law_start
def g__law_start : Gm := { N := ["script", "k", "cell", "prime", "mixed", "number", "turn"], io := [false, false] }
theorem c__law_start : cDef g__law_start 60 ["script", "k"] (topS 9) = some b__law_start := by rfl
/-! _law_digit -/
def b__law_digit : List IS := [.asg (.nm 2) (.bin .mod (.blt1 .int_ (.idxV 0 (.c (.int (0))))) (.var 1)),
  .setI 0 (.c (.int (0))) (.bin .fdiv (.idxV 0 (.c (.int (0)))) (.var 1)),
  .retV 2]
def f__law_digit : Fn := defF 3 [true, false] b__law_digit
def g__law_digit : Gm := { N := ["state", "many", "digit"], io := [true, false] }
theorem c__law_digit : cDef g__law_digit 60 ["state", "many"] (topS 10) = some b__law_digit := by rfl
/-! _law_axis -/
def b__law_axis : List IS := [.asg (.nm 8) (.lst []),
  .for_ (.nm 9) (.seq (.tup [(.c (.int (1))), (.bin .sub (.c (.int (0))) (.c (.int (1))))])) [.asg (.nm 10) (.bin .add (.var 2) (.idx (.lst [(.c (.int (0))), (.bin .fdiv (.var 3) (.c (.int (2)))), (.var 3)]) (.bin .sub (.bin .add (.c (.int (1))) (.blt1 .int_ (.cmp .gt (.bin .mul (.var 9) (.var 0)) (.c (.int (0)))))) (.blt1 .int_ (.cmp .lt (.bin .mul (.var 9) (.var 0)) (.c (.int (0)))))))),
    .asg (.nm 11) (.bin .sub (.var 10) (.idx (.lst [(.var 4), (.bin .fdiv (.var 4) (.c (.int (2)))), (.c (.int (0)))]) (.bin .sub (.bin .add (.c (.int (1))) (.blt1 .int_ (.cmp .gt (.bin .mul (.var 9) (.var 1)) (.c (.int (0)))))) (.blt1 .int_ (.cmp .lt (.bin .mul (.var 9) (.var 1)) (.c (.int (0)))))))),
    .app 8 (.bin .add (.var 11) (.bin .mul (.var 9) (.var 5)))],
  .par [12, 13] [(.idxV 6 (.c (.int (0)))), (.bin .sub (.bin .add (.idxV 6 (.c (.int (0)))) (.idxV 6 (.c (.int (1))))) (.var 4))],
  .asg (.nm 14) (.idxV 8 (.c (.int (0)))),
  .ifs (.val (.chain .le .le (.var 12) (.var 14) (.var 13))) [.ret (.tup [(.var 14), (.var 4)])] [],
  .ifs (.and (.tru (.idxV 7 (.c (.int (0))))) (.val (.chain .le .le (.var 12) (.idxV 8 (.c (.int (1)))) (.var 13)))) [.ret (.tup [(.idxV 8 (.c (.int (1)))), (.var 4)])] [],
  .ifs (.tru (.idxV 7 (.c (.int (1))))) [.asg (.nm 14) (.ifx (.val (.cmp .lt (.var 1) (.c (.int (0))))) (.blt .min2 [(.blt .max2 [(.var 14), (.var 12)]), (.var 13)]) (.blt .max2 [(.blt .min2 [(.var 14), (.var 13)]), (.var 12)])),
    .ifs (.val (.chain .le .le (.var 12) (.var 14) (.var 13))) [.ret (.tup [(.var 14), (.var 4)])] []] [],
  .par [2, 15] [(.blt .max2 [(.var 14), (.var 12)]), (.blt .min2 [(.bin .add (.var 14) (.var 4)), (.bin .add (.idxV 6 (.c (.int (0)))) (.idxV 6 (.c (.int (1)))))])],
  .ifs (.and (.tru (.idxV 7 (.c (.int (2))))) (.val (.cmp .lt (.var 2) (.var 15)))) [.ret (.tup [(.var 2), (.bin .sub (.var 15) (.var 2))])] [],
  .ret (.tup [(.var 14), (.var 4)])]
def f__law_axis : Fn := defF 16 [false, false, false, false, false, false, false, false] b__law_axis
def g__law_axis : Gm := { N := ["anchor", "gravity", "begin", "length", "size", "offset", "room", "bits", "starts", "way", "point", "start", "first", "last", "at", "end"], io := [false, false, false, false, false, false, false, false] }
theorem c__law_axis : cDef g__law_axis 60 ["anchor", "gravity", "begin", "length", "size", "offset", "room", "bits"] (topS 11) = some b__law_axis := by rfl
/-! _law_exchanged -/
def b__law_exchanged : List IS := [.asg (.nm 1) (.idxV 0 (.c (.int (12)))),
  .asg (.nm 2) (.c (.int (0))),
  .for_ (.tp [3, 4]) (.seq (.tup [(.tup [(.c (.int (1))), (.c (.int (2)))]), (.tup [(.c (.int (4))), (.c (.int (8)))]), (.tup [(.c (.int (16))), (.c (.int (32)))])])) [.asg (.nm 2) (.bin .add (.bin .add (.var 2) (.bin .mul (.var 4) (.bin .mod (.blt1 .int_ (.bin .fdiv (.var 1) (.var 3))) (.c (.int (2)))))) (.bin .mul (.var 3) (.bin .mod (.blt1 .int_ (.bin .fdiv (.var 1) (.var 4))) (.c (.int (2))))))],
  .ret (.tup [(.idxV 0 (.c (.int (1)))), (.idxV 0 (.c (.int (0)))), (.idxV 0 (.c (.int (3)))), (.idxV 0 (.c (.int (2)))), (.idxV 0 (.c (.int (5)))), (.idxV 0 (.c (.int (4)))), (.idxV 0 (.c (.int (7)))), (.idxV 0 (.c (.int (6)))), (.idxV 0 (.c (.int (9)))), (.idxV 0 (.c (.int (8)))), (.idxV 0 (.c (.int (11)))), (.idxV 0 (.c (.int (10)))), (.var 2)])]
def f__law_exchanged : Fn := defF 5 [false] b__law_exchanged
def g__law_exchanged : Gm := { N := ["row", "adjust", "found", "one", "other"], io := [false] }
theorem c__law_exchanged : cDef g__law_exchanged 60 ["row"] (topS 12) = some b__law_exchanged := by rfl
/-! law -/
def b_law : List IS := [.for_ (.nm 1) (.rng 1 [(.c (.int (30)))]) [.asg (.nm 2) (.call f__law_start [(.var 0), (.var 1)]),
    .asg (.nm 3) (.idx (.lst [(.c (.int (9))), (.c (.int (40))), (.c (.int (300)))]) (.call f__law_digit [(.var 2), (.c (.int (3)))])),
    .asg (.nm 4) (.lst [(.bin .sub (.call f__law_digit [(.var 2), (.bin .mul (.c (.int (2))) (.var 3))]) (.var 3)), (.bin .sub (.call f__law_digit [(.var 2), (.bin .mul (.c (.int (2))) (.var 3))]) (.var 3)), (.call f__law_digit [(.var 2), (.var 3)]), (.call f__law_digit [(.var 2), (.var 3)])]),
    .asg (.nm 4) (.bin .add (.bin .add (.var 4) (.lc [5] (.nm 5) (.rng 1 [(.c (.int (4)))]) none (.bin .sub (.call f__law_digit [(.var 2), (.c (.int (5)))]) (.c (.int (2)))))) (.lst [(.bin .add (.c (.int (1))) (.call f__law_digit [(.var 2), (.var 3)])), (.bin .add (.c (.int (1))) (.call f__law_digit [(.var 2), (.var 3)]))])),
    .asg (.nm 4) (.blt1 .tuple_ (.bin .add (.var 4) (.lst [(.bin .sub (.call f__law_digit [(.var 2), (.bin .mul (.c (.int (2))) (.var 3))]) (.var 3)), (.bin .sub (.call f__law_digit [(.var 2), (.bin .mul (.c (.int (2))) (.var 3))]) (.var 3)), (.call f__law_digit [(.var 2), (.c (.int (128)))])]))),
    .asg (.nm 6) (.tup [(.bin .sub (.call f__law_digit [(.var 2), (.bin .mul (.c (.int (2))) (.var 3))]) (.var 3)), (.bin .sub (.call f__law_digit [(.var 2), (.bin .mul (.c (.int (2))) (.var 3))]) (.var 3)), (.bin .add (.c (.int (1))) (.call f__law_digit [(.var 2), (.var 3)])), (.bin .add (.c (.int (1))) (.call f__law_digit [(.var 2), (.var 3)]))]),
    .asg (.nm 7) (.lc [8] (.nm 8) (.seq (.tup [(.c (.int (1))), (.c (.int (4))), (.c (.int (16))), (.c (.int (2))), (.c (.int (8))), (.c (.int (32)))])) none (.cmp .eq (.bin .mod (.blt1 .int_ (.bin .fdiv (.idxV 4 (.c (.int (12)))) (.var 8))) (.c (.int (2)))) (.c (.int (1))))),
    .asg (.nm 9) (.call f__law_axis [(.idxV 4 (.c (.int (4)))), (.idxV 4 (.c (.int (6)))), (.idxV 4 (.c (.int (0)))), (.idxV 4 (.c (.int (2)))), (.idxV 4 (.c (.int (8)))), (.idxV 4 (.c (.int (10)))), (.tup [(.idxV 6 (.c (.int (0)))), (.idxV 6 (.c (.int (2))))]), (.slV 7 none (some (.c (.int (3)))))]),
    .asg (.nm 10) (.call f__law_axis [(.idxV 4 (.c (.int (5)))), (.idxV 4 (.c (.int (7)))), (.idxV 4 (.c (.int (1)))), (.idxV 4 (.c (.int (3)))), (.idxV 4 (.c (.int (9)))), (.idxV 4 (.c (.int (11)))), (.tup [(.idxV 6 (.c (.int (1)))), (.idxV 6 (.c (.int (3))))]), (.slV 7 (some (.c (.int (3)))) none)]),
    .asg (.nm 11) (.call f_place_popup [(.var 4), (.var 6)]),
    .ifs (.or (.val (.cmp .ne (.var 11) (.tup [(.idxV 9 (.c (.int (0)))), (.idxV 10 (.c (.int (0)))), (.idxV 9 (.c (.int (1)))), (.idxV 10 (.c (.int (1))))]))) (.val (.cmp .ne (.call f_place_axis [(.idxV 4 (.c (.int (4)))), (.idxV 4 (.c (.int (6)))), (.idxV 4 (.c (.int (0)))), (.idxV 4 (.c (.int (2)))), (.idxV 4 (.c (.int (8)))), (.idxV 4 (.c (.int (10)))), (.tup [(.idxV 6 (.c (.int (0)))), (.idxV 6 (.c (.int (2))))]), (.blt1 .tuple_ (.slV 7 none (some (.c (.int (3))))))]) (.var 9)))) [.ret (.c (.bl false))] [],
    .par [12, 13] [(.bin .sub (.call f__law_digit [(.var 2), (.c (.int (999)))]) (.c (.int (500)))), (.bin .sub (.call f__law_digit [(.var 2), (.c (.int (999)))]) (.c (.int (500))))],
    .asg (.nm 14) (.call f_place_popup [(.bin .add (.tup [(.bin .add (.idxV 4 (.c (.int (0)))) (.var 12)), (.bin .add (.idxV 4 (.c (.int (1)))) (.var 13))]) (.slV 4 (some (.c (.int (2)))) none)), (.bin .add (.tup [(.bin .add (.idxV 6 (.c (.int (0)))) (.var 12)), (.bin .add (.idxV 6 (.c (.int (1)))) (.var 13))]) (.slV 6 (some (.c (.int (2)))) none))]),
    .ifs (.val (.cmp .ne (.var 14) (.bin .add (.tup [(.bin .add (.idxV 11 (.c (.int (0)))) (.var 12)), (.bin .add (.idxV 11 (.c (.int (1)))) (.var 13))]) (.slV 11 (some (.c (.int (2)))) none)))) [.ret (.c (.bl false))] [],
    .ifs (.val (.cmp .ne (.call f_place_popup [(.call f__law_exchanged [(.var 4)]), (.tup [(.idxV 6 (.c (.int (1)))), (.idxV 6 (.c (.int (0)))), (.idxV 6 (.c (.int (3)))), (.idxV 6 (.c (.int (2))))])]) (.tup [(.idxV 11 (.c (.int (1)))), (.idxV 11 (.c (.int (0)))), (.idxV 11 (.c (.int (3)))), (.idxV 11 (.c (.int (2))))]))) [.ret (.c (.bl false))] [],
    .ifs (.and (.tru (.idxV 7 (.c (.int (1))))) (.and (.val (.cmp .le (.idxV 4 (.c (.int (8)))) (.idxV 6 (.c (.int (2)))))) (.not (.val (.chain .le .le (.idxV 6 (.c (.int (0)))) (.idxV 11 (.c (.int (0)))) (.bin .sub (.bin .add (.idxV 6 (.c (.int (0)))) (.idxV 6 (.c (.int (2))))) (.idxV 4 (.c (.int (8)))))))))) [.ret (.c (.bl false))] [],
    .ifs (.and (.tru (.idxV 7 (.c (.int (1))))) (.and (.tru (.idxV 7 (.c (.int (2))))) (.and (.val (.cmp .gt (.idxV 4 (.c (.int (8)))) (.idxV 6 (.c (.int (2)))))) (.val (.cmp .ne (.tup [(.idxV 11 (.c (.int (0)))), (.idxV 11 (.c (.int (2))))]) (.tup [(.idxV 6 (.c (.int (0)))), (.idxV 6 (.c (.int (2))))])))))) [.ret (.c (.bl false))] [],
    .ifs (.or (.and (.not (.tru (.idxV 7 (.c (.int (2)))))) (.val (.cmp .ne (.idxV 11 (.c (.int (2)))) (.idxV 4 (.c (.int (8))))))) (.and (.not (.tru (.idxV 7 (.c (.int (5)))))) (.val (.cmp .ne (.idxV 11 (.c (.int (3)))) (.idxV 4 (.c (.int (9)))))))) [.ret (.c (.bl false))] []],
  .ret (.c (.bl true))]
def f_law : Fn := defF 15 [false] b_law
def g_law : Gm := { N := ["script", "turn", "state", "wide", "row", "k", "room", "bits", "one", "x", "y", "told", "dx", "dy", "moved"], io := [false], fns := [("_law_axis", f__law_axis), ("_law_digit", f__law_digit), ("_law_exchanged", f__law_exchanged), ("_law_start", f__law_start), ("place_axis", f_place_axis), ("place_popup", f_place_popup)] }
theorem c_law : cDef g_law 60 ["script"] (topS 13) = some b_law := by rfl
end Vm

set_option Elab.async false
set_option linter.all false
set_option maxRecDepth 100000
set_option maxHeartbeats 4000000
namespace Vm
open PySem L2 PyProof.Rows
abbrev ot2 (a b : Int) : O := od (.tup [.int a, .int b])
def liesIn (b l r0 r1 : Int) : Bool := decide (r0 ≤ b) && decide (b + l ≤ r0 + r1)
@[simp] theorem run_lies_in (b l r0 r1 : Int) : f_lies_in.run [oi b, oi l, od (.tup [.int r0, .int r1])] = some (.ret (ob (liesIn b l r0 r1)) []) := by
  unfold f_lies_in b_lies_in liesIn
  rw [run_def rfl]
  simp [rd, look, pk, pkIf, IE.still, BOp.ap, COp.ap, D.at?, O.fz, F.fz, iosOf, atI, ixN]
  by_cases h : r0 ≤ b <;> simp [h]
def pointOf (s b l : Int) : Int := if s < 0 then b else if s = 0 then b + l / 2 else b + l
@[simp] theorem run_point_of (s b l : Int) : f_point_of.run [oi s, oi b, oi l] = some (.ret (oi (pointOf s b l)) []) := by
  unfold f_point_of b_point_of pointOf
  rw [run_def rfl]
  simp [rd, look, pk, pkIf, IE.still, BOp.ap, COp.ap, D.at?, O.fz, F.fz, iosOf, atI, ixN, divOk]
  split
  · rfl
  · split <;> rfl
def beginOf (a g b l s o : Int) : Int := if g < 0 then pointOf a b l - s + o else if g = 0 then pointOf a b l - s / 2 + o else pointOf a b l + o
@[simp] theorem io_point_of : f_point_of.io = [false, false, false] := rfl
@[simp] theorem io_lies_in : f_lies_in.io = [false, false, false] := rfl
@[simp] theorem run_begin_of (a g b l s o : Int) : f_begin_of.run [oi a, oi g, oi b, oi l, oi s, oi o] = some (.ret (oi (beginOf a g b l s o)) []) := by
  unfold f_begin_of b_begin_of beginOf
  rw [run_def rfl]
  simp [rd, look, pk, pkIf, IE.still, BOp.ap, COp.ap, D.at?, O.fz, F.fz, iosOf, atI, ixN, divOk, ioOf, fits, argsO, putAll, Tgt.putO]
  split
  · rfl
  · split <;> rfl
@[simp] theorem io_begin_of : f_begin_of.io = [false, false, false, false, false, false] := rfl
def slidI (b s g r0 r1 : Int) : Int := if g < 0 then minI (maxI b r0) (r0 + r1 - s) else maxI (minI b (r0 + r1 - s)) r0
@[simp] theorem run_slid (b s g r0 r1 : Int) : f_slid.run [oi b, oi s, oi g, ot2 r0 r1] = some (.ret (oi (slidI b s g r0 r1)) []) := by
  unfold f_slid b_slid slidI
  rw [run_def rfl]
  simp [rd, look, pk, pkIf, IE.still, BOp.ap, COp.ap, D.at?, O.fz, F.fz, iosOf, atI, ixN, divOk, ioOf, fits, argsO, putAll, Tgt.putO, ap_max, ap_min]
  split <;> rfl
@[simp] theorem io_slid : f_slid.io = [false, false, false, false] := rfl
def placeAxis (a g b l s o r0 r1 : Int) (k0 k1 k2 : Bool) : Int × Int :=
  let at0 := beginOf a g b l s o
  if liesIn at0 s r0 r1 = true then (at0, s)
  else if k0 = true ∧ liesIn (beginOf (-a) (-g) b l s (-o)) s r0 r1 = true then (beginOf (-a) (-g) b l s (-o), s)
  else
    let at1 := if k1 = true then slidI at0 s g r0 r1 else at0
    if k1 = true ∧ liesIn at1 s r0 r1 = true then (at1, s)
    else if k2 = true ∧ maxI at1 r0 < minI (at1 + s) (r0 + r1) then (maxI at1 r0, minI (at1 + s) (r0 + r1) - maxI at1 r0)
    else (at1, s)
def retP (p : Int × Int) : Option RetF := some (.ret (ot2 p.1 p.2) [])
theorem retP_ite {c : Prop} [Decidable c] {a b : Int × Int} : retP (if c then a else b) = if c then retP a else retP b := by split <;> rfl
theorem run_place_axis' (a g b l s o r0 r1 : Int) (k0 k1 k2 : Bool) : f_place_axis.run [oi a, oi g, oi b, oi l, oi s, oi o, ot2 r0 r1, od (.tup [.bl k0, .bl k1, .bl k2])] = retP (placeAxis a g b l s o r0 r1 k0 k1 k2) := by
  unfold f_place_axis b_place_axis placeAxis
  rw [run_def rfl]
  cases k0 <;> cases k1 <;> cases k2 <;>
  simp [rd, look, pk, pkIf, IE.still, BOp.ap, COp.ap, D.at?, O.fz, F.fz, iosOf, atI, ixN, divOk, ioOf, fits, argsO, putAll, Tgt.putO, ap_max, ap_min, retP_ite] <;> rfl
@[simp] theorem run_place_axis (a g b l s o r0 r1 : Int) (k0 k1 k2 : Bool) : f_place_axis.run [oi a, oi g, oi b, oi l, oi s, oi o, ot2 r0 r1, od (.tup [.bl k0, .bl k1, .bl k2])] = some (.ret (ot2 (placeAxis a g b l s o r0 r1 k0 k1 k2).1 (placeAxis a g b l s o r0 r1 k0 k1 k2).2) []) := run_place_axis' a g b l s o r0 r1 k0 k1 k2
@[simp] theorem io_place_axis : f_place_axis.io = [false, false, false, false, false, false, false, false] := rfl
def hasBit (n b : Int) : Bool := decide (n / b % 2 = 1)
@[simp] theorem run_has_bit (n b : Int) (hb : divOk b = true) : f_has_bit.run [oi n, oi b] = some (.ret (ob (hasBit n b)) []) := by
  unfold f_has_bit b_has_bit hasBit
  rw [run_def rfl]
  simp [rd, look, pk, pkIf, IE.still, BOp.ap, COp.ap, D.at?, O.fz, F.fz, iosOf, atI, ixN, hb]
@[simp] theorem io_has_bit : f_has_bit.io = [false, false] := rfl
end Vm

set_option Elab.async false
set_option linter.all false
set_option maxRecDepth 100000
set_option maxHeartbeats 4000000
namespace Vm
/-! the plain law of places -/
theorem point_move (s b l d : Int) : pointOf s (b + d) l = pointOf s b l + d := by
  unfold pointOf; split
  · omega
  · split <;> omega
theorem begin_move (a g b l s o d : Int) : beginOf a g (b + d) l s o = beginOf a g b l s o + d := by
  unfold beginOf; rw [point_move]; split
  · omega
  · split <;> omega
theorem lies_move (b l r0 r1 d : Int) : liesIn (b + d) l (r0 + d) r1 = liesIn b l r0 r1 := by
  unfold liesIn
  rw [decide_eq_decide.mpr (show r0 + d ≤ b + d ↔ r0 ≤ b by omega), decide_eq_decide.mpr (show b + d + l ≤ r0 + d + r1 ↔ b + l ≤ r0 + r1 by omega)]
theorem min_move (x y d : Int) : minI (x + d) (y + d) = minI x y + d := by
  unfold minI; split <;> split <;> omega
theorem max_move (x y d : Int) : maxI (x + d) (y + d) = maxI x y + d := by
  unfold maxI; split <;> split <;> omega
theorem slid_move (b s g r0 r1 d : Int) : slidI (b + d) s g (r0 + d) r1 = slidI b s g r0 r1 + d := by
  unfold slidI
  rw [show r0 + d + r1 - s = (r0 + r1 - s) + d by omega, max_move, min_move, min_move, max_move]
  split <;> rfl
theorem place_move (a g b l s o r0 r1 d : Int) (k0 k1 k2 : Bool) : placeAxis a g (b + d) l s o (r0 + d) r1 k0 k1 k2 = ((placeAxis a g b l s o r0 r1 k0 k1 k2).1 + d, (placeAxis a g b l s o r0 r1 k0 k1 k2).2) := by
  unfold placeAxis
  simp only [begin_move, lies_move]
  rw [slid_move]
  have e : (if k1 = true then slidI (beginOf a g b l s o) s g r0 r1 + d else beginOf a g b l s o + d) = (if k1 = true then slidI (beginOf a g b l s o) s g r0 r1 else beginOf a g b l s o) + d := by split <;> rfl
  rw [e]
  generalize (if k1 = true then slidI (beginOf a g b l s o) s g r0 r1 else beginOf a g b l s o) = z
  have e1 : maxI (z + d) (r0 + d) = maxI z r0 + d := max_move _ _ _
  have e2 : minI (z + d + s) (r0 + d + r1) = minI (z + s) (r0 + r1) + d := by
    rw [show z + d + s = z + s + d by omega, show r0 + d + r1 = r0 + r1 + d by omega, min_move]
  rw [e1, e2, lies_move]
  have e3 : (maxI z r0 + d < minI (z + s) (r0 + r1) + d) ↔ maxI z r0 < minI (z + s) (r0 + r1) := by omega
  simp only [e3]
  split
  · rfl
  · split
    · rfl
    · split
      · rfl
      · split
        · congr 1; omega
        · rfl
theorem place_in (a g b l s o r0 r1 : Int) (k0 k2 : Bool) (h : s ≤ r1) : r0 ≤ (placeAxis a g b l s o r0 r1 k0 true k2).1 ∧ (placeAxis a g b l s o r0 r1 k0 true k2).1 ≤ r0 + r1 - s := by
  have hs : liesIn (slidI (beginOf a g b l s o) s g r0 r1) s r0 r1 = true := by
    unfold liesIn slidI minI maxI
    rw [Bool.and_eq_true, decide_eq_true_eq, decide_eq_true_eq]
    repeat' split
    all_goals omega
  have li : ∀ z, liesIn z s r0 r1 = true → r0 ≤ z ∧ z ≤ r0 + r1 - s := by
    intro z hz
    unfold liesIn at hz
    rw [Bool.and_eq_true, decide_eq_true_eq, decide_eq_true_eq] at hz
    omega
  unfold placeAxis
  simp only [if_true, hs, and_self]
  split
  · rename_i h; exact li _ h
  · split
    · rename_i h; exact li _ h.2
    · exact li _ hs
theorem place_cut (a g b l s o r0 r1 : Int) (k0 : Bool) (h : r1 < s) (hr : 1 ≤ r1) : placeAxis a g b l s o r0 r1 k0 true true = (r0, r1) := by
  have no : ∀ z, liesIn z s r0 r1 = false := by
    intro z
    unfold liesIn
    rw [Bool.and_eq_false_iff, decide_eq_false_iff_not, decide_eq_false_iff_not]
    omega
  have e1 : maxI (slidI (beginOf a g b l s o) s g r0 r1) r0 = r0 := by
    unfold slidI minI maxI
    repeat' split
    all_goals omega
  have e2 : minI (slidI (beginOf a g b l s o) s g r0 r1 + s) (r0 + r1) = r0 + r1 := by
    unfold slidI minI maxI
    repeat' split
    all_goals omega
  unfold placeAxis
  simp only [no, if_true, e1, e2, Bool.false_eq_true, and_false, if_false, true_and]
  rw [if_pos (by omega)]
  congr 1; omega
theorem place_size (a g b l s o r0 r1 : Int) (k0 k1 : Bool) : (placeAxis a g b l s o r0 r1 k0 k1 false).2 = s := by
  unfold placeAxis
  simp only [Bool.false_eq_true, false_and, if_false]
  repeat' split
  all_goals rfl
end Vm

set_option Elab.async false
set_option linter.all false
set_option maxRecDepth 100000
set_option maxHeartbeats 4000000
namespace Vm
open PySem L2 PyProof.Rows
@[simp] theorem f_digit : f__law_digit = fDigit := rfl
@[simp] theorem f_start : f__law_start = fStart := rfl
@[simp] theorem io_digit : fDigit.io = [true, false] := rfl
@[simp] theorem io_start : fStart.io = [false, false] := rfl
abbrev ot4 (a b c d : Int) : O := od (.tup [.int a, .int b, .int c, .int d])
abbrev row13 (r0 r1 r2 r3 r4 r5 r6 r7 r8 r9 r10 r11 r12 : Int) : D := .tup [.int r0, .int r1, .int r2, .int r3, .int r4, .int r5, .int r6, .int r7, .int r8, .int r9, .int r10, .int r11, .int r12]
theorem run_popup (r0 r1 r2 r3 r4 r5 r6 r7 r8 r9 r10 r11 r12 o0 o1 o2 o3 : Int) : f_place_popup.run [od (row13 r0 r1 r2 r3 r4 r5 r6 r7 r8 r9 r10 r11 r12), ot4 o0 o1 o2 o3] =
    some (.ret (ot4 (placeAxis r4 r6 r0 r2 r8 r10 o0 o2 (hasBit r12 1) (hasBit r12 4) (hasBit r12 16)).1 (placeAxis r5 r7 r1 r3 r9 r11 o1 o3 (hasBit r12 2) (hasBit r12 8) (hasBit r12 32)).1
      (placeAxis r4 r6 r0 r2 r8 r10 o0 o2 (hasBit r12 1) (hasBit r12 4) (hasBit r12 16)).2 (placeAxis r5 r7 r1 r3 r9 r11 o1 o3 (hasBit r12 2) (hasBit r12 8) (hasBit r12 32)).2) []) := by
  unfold f_place_popup b_place_popup
  rw [run_def rfl]
  have d1 : divOk 1 = true := by decide
  have d2 : divOk 2 = true := by decide
  have d4 : divOk 4 = true := by decide
  have d8 : divOk 8 = true := by decide
  have d16 : divOk 16 = true := by decide
  have d32 : divOk 32 = true := by decide
  simp [rd, look, pk, pkIf, IE.still, D.at?, O.fz, F.fz, iosOf, atI, ixN, ioOf, fits, argsO, putAll, Tgt.putO, setAll, d1, d2, d4, d8, d16, d32]
@[simp] theorem io_popup : f_place_popup.io = [false, false] := rfl
/-! the law's own axis -/
theorem tri (A : Int) : (A < 0 ∧ ¬ 0 < A ∧ ¬ A = 0) ∨ A = 0 ∨ (0 < A ∧ ¬ A < 0 ∧ ¬ A = 0) := by omega
theorem axis_turn {w a g b l s o x9 x10 x11 : _} {z6 z7 z12 z13 z14 z15 : Option O} {xs : List D} (hw : w = 1 ∨ w = -1) (hx : xs.length < 900) :
    turnS (.nm 9) [.asg (.nm 10) (.bin .add (.var 2) (.idx (.lst [(.c (.int (0))), (.bin .fdiv (.var 3) (.c (.int (2)))), (.var 3)]) (.bin .sub (.bin .add (.c (.int (1))) (.blt1 .int_ (.cmp .gt (.bin .mul (.var 9) (.var 0)) (.c (.int (0)))))) (.blt1 .int_ (.cmp .lt (.bin .mul (.var 9) (.var 0)) (.c (.int (0)))))))),
    .asg (.nm 11) (.bin .sub (.var 10) (.idx (.lst [(.var 4), (.bin .fdiv (.var 4) (.c (.int (2)))), (.c (.int (0)))]) (.bin .sub (.bin .add (.c (.int (1))) (.blt1 .int_ (.cmp .gt (.bin .mul (.var 9) (.var 1)) (.c (.int (0)))))) (.blt1 .int_ (.cmp .lt (.bin .mul (.var 9) (.var 1)) (.c (.int (0)))))))),
    .app 8 (.bin .add (.var 11) (.bin .mul (.var 9) (.var 5)))] (.int w) [some (oi a), some (oi g), some (oi b), some (oi l), some (oi s), some (oi o), z6, z7, some (.f (.lst xs)), x9, x10, x11, z12, z13, z14, z15] =
    some (.nx [some (oi a), some (oi g), some (oi b), some (oi l), some (oi s), some (oi o), z6, z7, some (.f (.lst (xs ++ [.int (beginOf (w * a) (w * g) b l s (w * o))]))), some (oi w), some (oi (pointOf (w * a) b l)), some (oi (beginOf (w * a) (w * g) b l s 0)), z12, z13, z14, z15]) := by
  have ma : mulOk w a = true := mulOk_l (by omega)
  have mg : mulOk w g = true := mulOk_l (by omega)
  have mo : mulOk w o = true := mulOk_l (by omega)
  have d2 : divOk 2 = true := by decide
  have hx' : xs.length < sizeLine := small1000 (by omega)
  unfold beginOf pointOf
  generalize hA : w * a = A
  generalize hG : w * g = G
  generalize hO : w * o = Oo
  rcases tri A with ⟨h1, h2, h3⟩ | rfl | ⟨h1, h2, h3⟩ <;> rcases tri G with ⟨h4, h5, h6⟩ | rfl | ⟨h4, h5, h6⟩ <;>
  simp [Tgt.put, Tgt.putO, rd, look, pk, pkIf, IE.still, BOp.ap, COp.ap, D.at?, O.fz, F.fz, iosOf, atI, ixN, ap_intb, ma, mg, mo, hA, hG, hO, d2, hx', *]
end Vm

set_option Elab.async false
set_option linter.all false
set_option maxRecDepth 100000
set_option maxHeartbeats 4000000
namespace Vm
open PySem L2 PyProof.Rows
theorem liesIn_alt (b l r0 r1 : Int) : liesIn b l r0 r1 = (decide (r0 ≤ b) && decide (b ≤ r0 + r1 - l)) := by
  unfold liesIn
  congr 1
  exact decide_eq_decide.mpr (by omega)
theorem m1 (a : Int) : (-1 : Int) * a = -a := by omega
theorem run_axis (a g b l s o r0 r1 : Int) (k0 k1 k2 : Bool) : f__law_axis.run [oi a, oi g, oi b, oi l, oi s, oi o, ot2 r0 r1, od (.lst [.bl k0, .bl k1, .bl k2])] = some (.ret (ot2 (placeAxis a g b l s o r0 r1 k0 k1 k2).1 (placeAxis a g b l s o r0 r1 k0 k1 k2).2) []) := by
  show _ = retP _
  unfold f__law_axis b__law_axis placeAxis
  rw [run_def rfl]
  by_cases hg : g < 0 <;> cases k0 <;> cases k1 <;> cases k2 <;>
  simp [-turnS_put, ite_ob, axis_turn, m1, liesIn_alt, slidI, Tgt.putO, setAll, rd, look, pk, pkIf, IE.still, BOp.ap, COp.ap, D.at?, O.fz, F.fz, iosOf, atI, ixN, ap_max, ap_min, retP_ite, hg] <;> rfl
@[simp] theorem io_axis : f__law_axis.io = [false, false, false, false, false, false, false, false] := rfl
def exch (n : Int) : Int := 2 * (n / 1 % 2) + 1 * (n / 2 % 2) + 8 * (n / 4 % 2) + 4 * (n / 8 % 2) + 32 * (n / 16 % 2) + 16 * (n / 32 % 2)
theorem run_exchanged (r0 r1 r2 r3 r4 r5 r6 r7 r8 r9 r10 r11 r12 : Int) : f__law_exchanged.run [od (row13 r0 r1 r2 r3 r4 r5 r6 r7 r8 r9 r10 r11 r12)] = some (.ret (od (row13 r1 r0 r3 r2 r5 r4 r7 r6 r9 r8 r11 r10 (exch r12))) []) := by
  unfold f__law_exchanged b__law_exchanged exch
  rw [run_def rfl]
  have d1 : divOk 1 = true := by decide
  have d2 : divOk 2 = true := by decide
  have d4 : divOk 4 = true := by decide
  have d8 : divOk 8 = true := by decide
  have d16 : divOk 16 = true := by decide
  have d32 : divOk 32 = true := by decide
  simp [Tgt.put, Tgt.putO, setAll, rd, look, pk, pkIf, IE.still, BOp.ap, COp.ap, D.at?, O.fz, F.fz, iosOf, atI, ixN, ap_int, d1, d2, d4, d8, d16, d32, mulOk_l]
@[simp] theorem io_exchanged : f__law_exchanged.io = [false] := rfl
end Vm

set_option Elab.async false
set_option linter.all false
set_option maxRecDepth 100000
set_option maxHeartbeats 4000000
namespace Vm
open PySem L2 PyProof.Rows
def bodyL : List IS := match b_law with
  | [.for_ _ _ b, _] => b
  | _ => []
def w (i : Nat) : IS := bodyL.getD i .pass
theorem body_eq : bodyL = [w 0, w 1, w 2, w 3, w 4, w 5, w 6, w 7, w 8, w 9, w 10, w 11, w 12, w 13, w 14, w 15, w 16, w 17] := rfl
section
variable {scr z1 z2 z3 z4 z6 z7 z9 z10 z11 z12 z13 z14 : Option O}
theorem e0 (ns : List Int) (k : Int) (hk : 0 ≤ k) : ∃ n : Int, evS (w 0) [some (od (.ro (ns.map .int))), some (oi k), z2, z3, z4, none, z6, z7, none, z9, z10, z11, z12, z13, z14] = some (.nx [some (od (.ro (ns.map .int))), some (oi k), some (.f (.lst [.int n])), z3, z4, none, z6, z7, none, z9, z10, z11, z12, z13, z14]) := by
  obtain ⟨n, _, e⟩ := run_start ns k hk
  refine ⟨n, ?_⟩
  show evS (.asg (.nm 2) (.call f__law_start [(.var 0), (.var 1)])) _ = _
  simp [Tgt.put, Tgt.putO, setAll, rd, look, pk, pkIf, IE.still, BOp.ap, COp.ap, D.at?, D.cut?, O.fz, F.fz, iosOf, ioOf, fits, argsO, putAll, ap_int, ap_intb, ap_tup, e]
abbrev St (scr z1 : Option O) (n : Int) (z3 z4 z6 z7 z9 z10 z11 z12 z13 z14 : Option O) : Env := [scr, z1, some (.f (.lst [.int n])), z3, z4, none, z6, z7, none, z9, z10, z11, z12, z13, z14]
theorem e1 (n : Int) : ∃ n' v : Int, (v = 9 ∨ v = 40 ∨ v = 300) ∧ evS (w 1) (St scr z1 n z3 z4 z6 z7 z9 z10 z11 z12 z13 z14) = some (.nx (St scr z1 n' (some (oi v)) z4 z6 z7 z9 z10 z11 z12 z13 z14)) := by
  have d3 := run_digit n 3 (by decide)
  show ∃ n' v : Int, _ ∧ evS (.asg (.nm 3) (.idx (.lst [(.c (.int (9))), (.c (.int (40))), (.c (.int (300)))]) (.call f__law_digit [(.var 2), (.c (.int (3)))]))) _ = _
  have h : n % 3 = 0 ∨ n % 3 = 1 ∨ n % 3 = 2 := by omega
  rcases h with h | h | h
  · exact ⟨n / 3, 9, .inl rfl, by simp [Tgt.put, Tgt.putO, setAll, rd, look, pk, pkIf, IE.still, BOp.ap, COp.ap, D.at?, D.cut?, O.fz, F.fz, iosOf, ioOf, fits, argsO, putAll, ap_int, ap_intb, ap_tup, d3, atI, ixN, h]⟩
  · exact ⟨n / 3, 40, .inr (.inl rfl), by simp [Tgt.put, Tgt.putO, setAll, rd, look, pk, pkIf, IE.still, BOp.ap, COp.ap, D.at?, D.cut?, O.fz, F.fz, iosOf, ioOf, fits, argsO, putAll, ap_int, ap_intb, ap_tup, d3, atI, ixN, h]⟩
  · exact ⟨n / 3, 300, .inr (.inr rfl), by simp [Tgt.put, Tgt.putO, setAll, rd, look, pk, pkIf, IE.still, BOp.ap, COp.ap, D.at?, D.cut?, O.fz, F.fz, iosOf, ioOf, fits, argsO, putAll, ap_int, ap_intb, ap_tup, d3, atI, ixN, h]⟩
theorem e2 (n v : Int) (hv : v = 9 ∨ v = 40 ∨ v = 300) : ∃ n' a b c d : Int, evS (w 2) (St scr z1 n (some (oi v)) z4 z6 z7 z9 z10 z11 z12 z13 z14) = some (.nx (St scr z1 n' (some (oi v)) (some (.f (.lst [.int a, .int b, .int c, .int d]))) z6 z7 z9 z10 z11 z12 z13 z14)) := by
  have dv : divOk v = true := divOk_small (by omega) (by omega)
  have d2 : divOk (2 * v) = true := divOk_small (by omega) (by omega)
  have m2 : mulOk 2 v = true := mulOk_l (by omega)
  have r1 := fun n => run_digit n v dv
  have r2 := fun n => run_digit n (2 * v) d2
  unfold w bodyL b_law
  simp [Tgt.put, Tgt.putO, setAll, rd, look, pk, pkIf, IE.still, BOp.ap, COp.ap, D.at?, D.cut?, O.fz, F.fz, iosOf, ioOf, fits, argsO, putAll, ap_int, ap_intb, ap_tup, r1, r2, m2]
theorem e3 (n v a b c d : Int) (hv : v = 9 ∨ v = 40 ∨ v = 300) : ∃ n' p0 p1 p2 p3 q0 q1 : Int, evS (w 3) (St scr z1 n (some (oi v)) (some (.f (.lst [.int a, .int b, .int c, .int d]))) z6 z7 z9 z10 z11 z12 z13 z14) = some (.nx (St scr z1 n' (some (oi v)) (some (.f (.lst [.int a, .int b, .int c, .int d, .int p0, .int p1, .int p2, .int p3, .int q0, .int q1]))) z6 z7 z9 z10 z11 z12 z13 z14)) := by
  have dv : divOk v = true := divOk_small (by omega) (by omega)
  have r1 := fun n => run_digit n v dv
  have r5 := fun n => run_digit n 5 (by decide)
  have hr : rngL 0 4 1 = [.int 0, .int 1, .int 2, .int 3] := rfl
  unfold w bodyL b_law
  simp [Tgt.put, Tgt.putO, setAll, rd, look, pk, pkIf, IE.still, BOp.ap, COp.ap, D.at?, D.cut?, O.fz, F.fz, iosOf, ioOf, fits, argsO, putAll, ap_int, ap_intb, ap_tup, r1, r5, x_lc, rngD, small62, hr, plainAt, wipeE, backE]
theorem e4 (n v a b c d p0 p1 p2 p3 q0 q1 : Int) (hv : v = 9 ∨ v = 40 ∨ v = 300) : ∃ n' s0 s1 s2 : Int, evS (w 4) (St scr z1 n (some (oi v)) (some (.f (.lst [.int a, .int b, .int c, .int d, .int p0, .int p1, .int p2, .int p3, .int q0, .int q1]))) z6 z7 z9 z10 z11 z12 z13 z14) = some (.nx (St scr z1 n' (some (oi v)) (some (od (row13 a b c d p0 p1 p2 p3 q0 q1 s0 s1 s2))) z6 z7 z9 z10 z11 z12 z13 z14)) := by
  have d2 : divOk (2 * v) = true := divOk_small (by omega) (by omega)
  have m2 : mulOk 2 v = true := mulOk_l (by omega)
  have r1 := fun n => run_digit n 128 (by decide)
  have r2 := fun n => run_digit n (2 * v) d2
  unfold w bodyL b_law
  simp [Tgt.put, Tgt.putO, setAll, rd, look, pk, pkIf, IE.still, BOp.ap, COp.ap, D.at?, D.cut?, O.fz, F.fz, iosOf, ioOf, fits, argsO, putAll, ap_int, ap_intb, ap_tup, r1, r2, m2]
theorem e5 (n v : Int) (hv : v = 9 ∨ v = 40 ∨ v = 300) : ∃ n' o0 o1 o2 o3 : Int, (1 ≤ o2 ∧ 1 ≤ o3) ∧ evS (w 5) (St scr z1 n (some (oi v)) z4 z6 z7 z9 z10 z11 z12 z13 z14) = some (.nx (St scr z1 n' (some (oi v)) z4 (some (ot4 o0 o1 o2 o3)) z7 z9 z10 z11 z12 z13 z14)) := by
  have dv : divOk v = true := divOk_small (by omega) (by omega)
  have d2 : divOk (2 * v) = true := divOk_small (by omega) (by omega)
  have m2 : mulOk 2 v = true := mulOk_l (by omega)
  have r1 := fun n => run_digit n v dv
  have r2 := fun n => run_digit n (2 * v) d2
  have nn := fun n : Int => Int.emod_nonneg n (show v ≠ 0 by omega)
  refine ⟨n / (2 * v) / (2 * v) / v / v, n % (2 * v) - v, n / (2 * v) % (2 * v) - v, 1 + n / (2 * v) / (2 * v) % v, 1 + n / (2 * v) / (2 * v) / v % v, ⟨?_, ?_⟩, ?_⟩
  · have := nn (n / (2 * v) / (2 * v)); omega
  · have := nn (n / (2 * v) / (2 * v) / v); omega
  unfold w bodyL b_law
  simp [Tgt.put, Tgt.putO, setAll, rd, look, pk, pkIf, IE.still, BOp.ap, COp.ap, D.at?, D.cut?, O.fz, F.fz, iosOf, ioOf, fits, argsO, putAll, ap_int, ap_intb, ap_tup, r1, r2, m2]
section
variable {r0 r1 r2 r3 r4 r5 r6 r7 r8 r9 r10 r11 r12 o0 o1 o2 o3 : Int}
theorem e6 (n : Int) : evS (w 6) (St scr z1 n z3 (some (od (row13 r0 r1 r2 r3 r4 r5 r6 r7 r8 r9 r10 r11 r12))) z6 z7 z9 z10 z11 z12 z13 z14) = some (.nx (St scr z1 n z3 (some (od (row13 r0 r1 r2 r3 r4 r5 r6 r7 r8 r9 r10 r11 r12))) z6 (some (.f (.lst [.bl (hasBit r12 1), .bl (hasBit r12 4), .bl (hasBit r12 16), .bl (hasBit r12 2), .bl (hasBit r12 8), .bl (hasBit r12 32)]))) z9 z10 z11 z12 z13 z14)) := by
  have d1 : divOk 1 = true := by decide
  have d2 : divOk 2 = true := by decide
  have d4 : divOk 4 = true := by decide
  have d8 : divOk 8 = true := by decide
  have d16 : divOk 16 = true := by decide
  have d32 : divOk 32 = true := by decide
  unfold w bodyL b_law hasBit
  simp [Tgt.put, Tgt.putO, setAll, rd, look, pk, pkIf, IE.still, BOp.ap, COp.ap, D.at?, D.cut?, O.fz, F.fz, iosOf, ioOf, fits, argsO, putAll, ap_int, ap_intb, ap_tup, x_lc, plainAt, wipeE, backE, atI, ixN, d1, d2, d4, d8, d16, d32]
abbrev bits6 (k0 k1 k2 k3 k4 k5 : Bool) : Option O := some (.f (.lst [.bl k0, .bl k1, .bl k2, .bl k3, .bl k4, .bl k5]))
variable {k0 k1 k2 k3 k4 k5 : Bool}
abbrev px (r0 r2 r4 r6 r8 r10 o0 o2 : Int) (k0 k1 k2 : Bool) : Int × Int := placeAxis r4 r6 r0 r2 r8 r10 o0 o2 k0 k1 k2
theorem cutA : cutD [.bl k0, .bl k1, .bl k2, .bl k3, .bl k4, .bl k5] none (some 3) = [.bl k0, .bl k1, .bl k2] := rfl
theorem cutB : cutD [.bl k0, .bl k1, .bl k2, .bl k3, .bl k4, .bl k5] (some 3) none = [.bl k3, .bl k4, .bl k5] := rfl
theorem e7 (n : Int) : evS (w 7) (St scr z1 n z3 (some (od (row13 r0 r1 r2 r3 r4 r5 r6 r7 r8 r9 r10 r11 r12))) (some (ot4 o0 o1 o2 o3)) (bits6 k0 k1 k2 k3 k4 k5) z9 z10 z11 z12 z13 z14) = some (.nx (St scr z1 n z3 (some (od (row13 r0 r1 r2 r3 r4 r5 r6 r7 r8 r9 r10 r11 r12))) (some (ot4 o0 o1 o2 o3)) (bits6 k0 k1 k2 k3 k4 k5)
    (some (ot2 (placeAxis r4 r6 r0 r2 r8 r10 o0 o2 k0 k1 k2).1 (placeAxis r4 r6 r0 r2 r8 r10 o0 o2 k0 k1 k2).2)) z10 z11 z12 z13 z14)) := by
  unfold w bodyL b_law
  simp [Tgt.put, Tgt.putO, setAll, rd, look, pk, pkIf, IE.still, BOp.ap, COp.ap, D.at?, D.cut?, O.fz, F.fz, iosOf, ioOf, fits, argsO, putAll, ap_int, ap_intb, ap_tup, atI, ixN, cutA, run_axis]
theorem e8 (n : Int) : evS (w 8) (St scr z1 n z3 (some (od (row13 r0 r1 r2 r3 r4 r5 r6 r7 r8 r9 r10 r11 r12))) (some (ot4 o0 o1 o2 o3)) (bits6 k0 k1 k2 k3 k4 k5) z9 z10 z11 z12 z13 z14) = some (.nx (St scr z1 n z3 (some (od (row13 r0 r1 r2 r3 r4 r5 r6 r7 r8 r9 r10 r11 r12))) (some (ot4 o0 o1 o2 o3)) (bits6 k0 k1 k2 k3 k4 k5)
    z9 (some (ot2 (placeAxis r5 r7 r1 r3 r9 r11 o1 o3 k3 k4 k5).1 (placeAxis r5 r7 r1 r3 r9 r11 o1 o3 k3 k4 k5).2)) z11 z12 z13 z14)) := by
  unfold w bodyL b_law
  simp [Tgt.put, Tgt.putO, setAll, rd, look, pk, pkIf, IE.still, BOp.ap, COp.ap, D.at?, D.cut?, O.fz, F.fz, iosOf, ioOf, fits, argsO, putAll, ap_int, ap_intb, ap_tup, atI, ixN, cutB, run_axis]
theorem e9 (n : Int) : evS (w 9) (St scr z1 n z3 (some (od (row13 r0 r1 r2 r3 r4 r5 r6 r7 r8 r9 r10 r11 r12))) (some (ot4 o0 o1 o2 o3)) z7 z9 z10 z11 z12 z13 z14) = some (.nx (St scr z1 n z3 (some (od (row13 r0 r1 r2 r3 r4 r5 r6 r7 r8 r9 r10 r11 r12))) (some (ot4 o0 o1 o2 o3)) z7
    z9 z10 (some (ot4 (placeAxis r4 r6 r0 r2 r8 r10 o0 o2 (hasBit r12 1) (hasBit r12 4) (hasBit r12 16)).1 (placeAxis r5 r7 r1 r3 r9 r11 o1 o3 (hasBit r12 2) (hasBit r12 8) (hasBit r12 32)).1
      (placeAxis r4 r6 r0 r2 r8 r10 o0 o2 (hasBit r12 1) (hasBit r12 4) (hasBit r12 16)).2 (placeAxis r5 r7 r1 r3 r9 r11 o1 o3 (hasBit r12 2) (hasBit r12 8) (hasBit r12 32)).2)) z12 z13 z14)) := by
  unfold w bodyL b_law
  simp [Tgt.put, Tgt.putO, setAll, rd, look, pk, pkIf, IE.still, BOp.ap, COp.ap, D.at?, D.cut?, O.fz, F.fz, iosOf, ioOf, fits, argsO, putAll, ap_int, ap_intb, ap_tup, atI, ixN, run_popup]
section
variable {r0 r1 r2 r3 r4 r5 r6 r7 r8 r9 r10 r11 r12 o0 o1 o2 o3 X1 X2 Y1 Y2 dx dy : Int} {k0 k1 k2 k3 k4 k5 : Bool}
theorem eq_t2 {a b c d : Int} : (D.tup [.int a, .int b]).eq? (.tup [.int c, .int d]) = some (decide (a = c ∧ b = d)) := by
  unfold D.eq?
  simp [D.py, D.py.pys, SeqAt.shaped, PyData.canLay0, PyData.canLayAll0, PyData.depth, PyData.depthAll, PyData.eqv, PyData.eqvAll]
  try rfl
theorem eq_t4 {a b c d a' b' c' d' : Int} : (D.tup [.int a, .int b, .int c, .int d]).eq? (.tup [.int a', .int b', .int c', .int d']) = some (decide (a = a' ∧ b = b' ∧ c = c' ∧ d = d')) := by
  unfold D.eq?
  simp [D.py, D.py.pys, SeqAt.shaped, PyData.canLay0, PyData.canLayAll0, PyData.depth, PyData.depthAll, PyData.eqv, PyData.eqvAll]
  try rfl
abbrev Rw (r0 r1 r2 r3 r4 r5 r6 r7 r8 r9 r10 r11 r12 : Int) : Option O := some (od (row13 r0 r1 r2 r3 r4 r5 r6 r7 r8 r9 r10 r11 r12))
theorem e10 (n : Int) (hX : placeAxis r4 r6 r0 r2 r8 r10 o0 o2 k0 k1 k2 = (X1, X2)) :
    evS (w 10) (St scr z1 n z3 (Rw r0 r1 r2 r3 r4 r5 r6 r7 r8 r9 r10 r11 r12) (some (ot4 o0 o1 o2 o3)) (bits6 k0 k1 k2 k3 k4 k5) (some (ot2 X1 X2)) (some (ot2 Y1 Y2)) (some (ot4 X1 Y1 X2 Y2)) z12 z13 z14) =
    some (.nx (St scr z1 n z3 (Rw r0 r1 r2 r3 r4 r5 r6 r7 r8 r9 r10 r11 r12) (some (ot4 o0 o1 o2 o3)) (bits6 k0 k1 k2 k3 k4 k5) (some (ot2 X1 X2)) (some (ot2 Y1 Y2)) (some (ot4 X1 Y1 X2 Y2)) z12 z13 z14)) := by
  unfold w bodyL b_law
  simp [Tgt.put, Tgt.putO, setAll, rd, look, pk, pkIf, IE.still, BOp.ap, COp.ap, D.at?, D.cut?, O.fz, F.fz, iosOf, ioOf, fits, argsO, putAll, ap_int, ap_intb, ap_tup, atI, ixN, cutA, run_place_axis, hX, eq_t2, eq_t4]
theorem e11 (n : Int) : ∃ n' dx dy : Int, evS (w 11) (St scr z1 n z3 z4 z6 z7 z9 z10 z11 z12 z13 z14) = some (.nx (St scr z1 n' z3 z4 z6 z7 z9 z10 z11 (some (oi dx)) (some (oi dy)) z14)) := by
  have r1 := fun n => run_digit n 999 (by decide)
  unfold w bodyL b_law
  simp [Tgt.put, Tgt.putO, setAll, rd, look, pk, pkIf, IE.still, BOp.ap, COp.ap, D.at?, D.cut?, O.fz, F.fz, iosOf, ioOf, fits, argsO, putAll, ap_int, ap_intb, ap_tup, r1]
theorem cut13 : (row13 r0 r1 r2 r3 r4 r5 r6 r7 r8 r9 r10 r11 r12).cut? (some 2) none = some (.d (.tup [.int r2, .int r3, .int r4, .int r5, .int r6, .int r7, .int r8, .int r9, .int r10, .int r11, .int r12])) := rfl
theorem cut4 : (D.tup [.int o0, .int o1, .int o2, .int o3]).cut? (some 2) none = some (.d (.tup [.int o2, .int o3])) := rfl
theorem e12 (n : Int) (hX : placeAxis r4 r6 r0 r2 r8 r10 o0 o2 (hasBit r12 1) (hasBit r12 4) (hasBit r12 16) = (X1, X2)) (hY : placeAxis r5 r7 r1 r3 r9 r11 o1 o3 (hasBit r12 2) (hasBit r12 8) (hasBit r12 32) = (Y1, Y2)) :
    evS (w 12) (St scr z1 n z3 (Rw r0 r1 r2 r3 r4 r5 r6 r7 r8 r9 r10 r11 r12) (some (ot4 o0 o1 o2 o3)) z7 z9 z10 z11 (some (oi dx)) (some (oi dy)) z14) =
    some (.nx (St scr z1 n z3 (Rw r0 r1 r2 r3 r4 r5 r6 r7 r8 r9 r10 r11 r12) (some (ot4 o0 o1 o2 o3)) z7 z9 z10 z11 (some (oi dx)) (some (oi dy)) (some (ot4 (X1 + dx) (Y1 + dy) X2 Y2)))) := by
  unfold w bodyL b_law
  simp [Tgt.put, Tgt.putO, setAll, rd, look, pk, pkIf, IE.still, BOp.ap, COp.ap, D.at?, O.fz, F.fz, iosOf, ioOf, fits, argsO, putAll, ap_int, ap_intb, ap_tup, atI, ixN, cut13, cut4, run_popup, place_move, hX, hY]
theorem e13 (n : Int) : evS (w 13) (St scr z1 n z3 z4 z6 z7 z9 z10 (some (ot4 X1 Y1 X2 Y2)) (some (oi dx)) (some (oi dy)) (some (ot4 (X1 + dx) (Y1 + dy) X2 Y2))) =
    some (.nx (St scr z1 n z3 z4 z6 z7 z9 z10 (some (ot4 X1 Y1 X2 Y2)) (some (oi dx)) (some (oi dy)) (some (ot4 (X1 + dx) (Y1 + dy) X2 Y2)))) := by
  unfold w bodyL b_law
  simp [Tgt.put, Tgt.putO, setAll, rd, look, pk, pkIf, IE.still, BOp.ap, COp.ap, D.at?, O.fz, F.fz, iosOf, ioOf, fits, argsO, putAll, ap_int, ap_intb, ap_tup, atI, ixN, cut4, eq_t4]
theorem exch1 (n : Int) : hasBit (exch n) 1 = hasBit n 2 := by
  unfold hasBit exch
  have h0 := Int.emod_two_eq (n / 1)
  have h1 := Int.emod_two_eq (n / 2)
  have h2 := Int.emod_two_eq (n / 4)
  have h3 := Int.emod_two_eq (n / 8)
  have h4 := Int.emod_two_eq (n / 16)
  have h5 := Int.emod_two_eq (n / 32)
  generalize n / 1 % 2 = b0 at *
  generalize n / 2 % 2 = b1 at *
  generalize n / 4 % 2 = b2 at *
  generalize n / 8 % 2 = b3 at *
  generalize n / 16 % 2 = b4 at *
  generalize n / 32 % 2 = b5 at *
  exact decide_eq_decide.mpr (by omega)
theorem exch4 (n : Int) : hasBit (exch n) 4 = hasBit n 8 := by
  unfold hasBit exch
  have h0 := Int.emod_two_eq (n / 1)
  have h1 := Int.emod_two_eq (n / 2)
  have h2 := Int.emod_two_eq (n / 4)
  have h3 := Int.emod_two_eq (n / 8)
  have h4 := Int.emod_two_eq (n / 16)
  have h5 := Int.emod_two_eq (n / 32)
  generalize n / 1 % 2 = b0 at *
  generalize n / 2 % 2 = b1 at *
  generalize n / 4 % 2 = b2 at *
  generalize n / 8 % 2 = b3 at *
  generalize n / 16 % 2 = b4 at *
  generalize n / 32 % 2 = b5 at *
  exact decide_eq_decide.mpr (by omega)
theorem exch16 (n : Int) : hasBit (exch n) 16 = hasBit n 32 := by
  unfold hasBit exch
  have h0 := Int.emod_two_eq (n / 1)
  have h1 := Int.emod_two_eq (n / 2)
  have h2 := Int.emod_two_eq (n / 4)
  have h3 := Int.emod_two_eq (n / 8)
  have h4 := Int.emod_two_eq (n / 16)
  have h5 := Int.emod_two_eq (n / 32)
  generalize n / 1 % 2 = b0 at *
  generalize n / 2 % 2 = b1 at *
  generalize n / 4 % 2 = b2 at *
  generalize n / 8 % 2 = b3 at *
  generalize n / 16 % 2 = b4 at *
  generalize n / 32 % 2 = b5 at *
  exact decide_eq_decide.mpr (by omega)
theorem exch2 (n : Int) : hasBit (exch n) 2 = hasBit n 1 := by
  unfold hasBit exch
  have h0 := Int.emod_two_eq (n / 1)
  have h1 := Int.emod_two_eq (n / 2)
  have h2 := Int.emod_two_eq (n / 4)
  have h3 := Int.emod_two_eq (n / 8)
  have h4 := Int.emod_two_eq (n / 16)
  have h5 := Int.emod_two_eq (n / 32)
  generalize n / 1 % 2 = b0 at *
  generalize n / 2 % 2 = b1 at *
  generalize n / 4 % 2 = b2 at *
  generalize n / 8 % 2 = b3 at *
  generalize n / 16 % 2 = b4 at *
  generalize n / 32 % 2 = b5 at *
  exact decide_eq_decide.mpr (by omega)
theorem exch8 (n : Int) : hasBit (exch n) 8 = hasBit n 4 := by
  unfold hasBit exch
  have h0 := Int.emod_two_eq (n / 1)
  have h1 := Int.emod_two_eq (n / 2)
  have h2 := Int.emod_two_eq (n / 4)
  have h3 := Int.emod_two_eq (n / 8)
  have h4 := Int.emod_two_eq (n / 16)
  have h5 := Int.emod_two_eq (n / 32)
  generalize n / 1 % 2 = b0 at *
  generalize n / 2 % 2 = b1 at *
  generalize n / 4 % 2 = b2 at *
  generalize n / 8 % 2 = b3 at *
  generalize n / 16 % 2 = b4 at *
  generalize n / 32 % 2 = b5 at *
  exact decide_eq_decide.mpr (by omega)
theorem exch32 (n : Int) : hasBit (exch n) 32 = hasBit n 16 := by
  unfold hasBit exch
  have h0 := Int.emod_two_eq (n / 1)
  have h1 := Int.emod_two_eq (n / 2)
  have h2 := Int.emod_two_eq (n / 4)
  have h3 := Int.emod_two_eq (n / 8)
  have h4 := Int.emod_two_eq (n / 16)
  have h5 := Int.emod_two_eq (n / 32)
  generalize n / 1 % 2 = b0 at *
  generalize n / 2 % 2 = b1 at *
  generalize n / 4 % 2 = b2 at *
  generalize n / 8 % 2 = b3 at *
  generalize n / 16 % 2 = b4 at *
  generalize n / 32 % 2 = b5 at *
  exact decide_eq_decide.mpr (by omega)
theorem e14 (n : Int) (hX : placeAxis r4 r6 r0 r2 r8 r10 o0 o2 (hasBit r12 1) (hasBit r12 4) (hasBit r12 16) = (X1, X2)) (hY : placeAxis r5 r7 r1 r3 r9 r11 o1 o3 (hasBit r12 2) (hasBit r12 8) (hasBit r12 32) = (Y1, Y2)) :
    evS (w 14) (St scr z1 n z3 (Rw r0 r1 r2 r3 r4 r5 r6 r7 r8 r9 r10 r11 r12) (some (ot4 o0 o1 o2 o3)) z7 z9 z10 (some (ot4 X1 Y1 X2 Y2)) z12 z13 z14) =
    some (.nx (St scr z1 n z3 (Rw r0 r1 r2 r3 r4 r5 r6 r7 r8 r9 r10 r11 r12) (some (ot4 o0 o1 o2 o3)) z7 z9 z10 (some (ot4 X1 Y1 X2 Y2)) z12 z13 z14)) := by
  unfold w bodyL b_law
  simp [Tgt.put, Tgt.putO, setAll, rd, look, pk, pkIf, IE.still, BOp.ap, COp.ap, D.at?, O.fz, F.fz, iosOf, ioOf, fits, argsO, putAll, ap_int, ap_intb, ap_tup, atI, ixN, run_exchanged, run_popup, exch1, exch4, exch16, exch2, exch8, exch32, hX, hY, eq_t4]
theorem e15 (n : Int) (h : k1 = true → r8 ≤ o2 → o0 ≤ X1 ∧ X1 ≤ o0 + o2 - r8) :
    evS (w 15) (St scr z1 n z3 (Rw r0 r1 r2 r3 r4 r5 r6 r7 r8 r9 r10 r11 r12) (some (ot4 o0 o1 o2 o3)) (bits6 k0 k1 k2 k3 k4 k5) z9 z10 (some (ot4 X1 Y1 X2 Y2)) z12 z13 z14) =
    some (.nx (St scr z1 n z3 (Rw r0 r1 r2 r3 r4 r5 r6 r7 r8 r9 r10 r11 r12) (some (ot4 o0 o1 o2 o3)) (bits6 k0 k1 k2 k3 k4 k5) z9 z10 (some (ot4 X1 Y1 X2 Y2)) z12 z13 z14)) := by
  unfold w bodyL b_law
  cases k1 with
  | false => simp [Tgt.put, Tgt.putO, setAll, rd, look, pk, pkIf, IE.still, BOp.ap, COp.ap, D.at?, O.fz, F.fz, iosOf, ioOf, fits, argsO, putAll, ap_int, ap_intb, ap_tup, atI, ixN]
  | true =>
    by_cases h2 : r8 ≤ o2
    · obtain ⟨h3, h4⟩ := h rfl h2
      simp [Tgt.put, Tgt.putO, setAll, rd, look, pk, pkIf, IE.still, BOp.ap, COp.ap, D.at?, O.fz, F.fz, iosOf, ioOf, fits, argsO, putAll, ap_int, ap_intb, ap_tup, atI, ixN, h2, h3, h4]
    · simp [Tgt.put, Tgt.putO, setAll, rd, look, pk, pkIf, IE.still, BOp.ap, COp.ap, D.at?, O.fz, F.fz, iosOf, ioOf, fits, argsO, putAll, ap_int, ap_intb, ap_tup, atI, ixN, h2]
theorem e16 (n : Int) (h : k1 = true → k2 = true → o2 < r8 → X1 = o0 ∧ X2 = o2) :
    evS (w 16) (St scr z1 n z3 (Rw r0 r1 r2 r3 r4 r5 r6 r7 r8 r9 r10 r11 r12) (some (ot4 o0 o1 o2 o3)) (bits6 k0 k1 k2 k3 k4 k5) z9 z10 (some (ot4 X1 Y1 X2 Y2)) z12 z13 z14) =
    some (.nx (St scr z1 n z3 (Rw r0 r1 r2 r3 r4 r5 r6 r7 r8 r9 r10 r11 r12) (some (ot4 o0 o1 o2 o3)) (bits6 k0 k1 k2 k3 k4 k5) z9 z10 (some (ot4 X1 Y1 X2 Y2)) z12 z13 z14)) := by
  unfold w bodyL b_law
  cases k1 with
  | false => simp [Tgt.put, Tgt.putO, setAll, rd, look, pk, pkIf, IE.still, BOp.ap, COp.ap, D.at?, O.fz, F.fz, iosOf, ioOf, fits, argsO, putAll, ap_int, ap_intb, ap_tup, atI, ixN]
  | true =>
    cases k2 with
    | false => simp [Tgt.put, Tgt.putO, setAll, rd, look, pk, pkIf, IE.still, BOp.ap, COp.ap, D.at?, O.fz, F.fz, iosOf, ioOf, fits, argsO, putAll, ap_int, ap_intb, ap_tup, atI, ixN]
    | true =>
      by_cases h2 : o2 < r8
      · obtain ⟨rfl, rfl⟩ := h rfl rfl h2
        simp [Tgt.put, Tgt.putO, setAll, rd, look, pk, pkIf, IE.still, BOp.ap, COp.ap, D.at?, O.fz, F.fz, iosOf, ioOf, fits, argsO, putAll, ap_int, ap_intb, ap_tup, atI, ixN, h2, eq_t2]
      · simp [Tgt.put, Tgt.putO, setAll, rd, look, pk, pkIf, IE.still, BOp.ap, COp.ap, D.at?, O.fz, F.fz, iosOf, ioOf, fits, argsO, putAll, ap_int, ap_intb, ap_tup, atI, ixN, h2]
theorem e17 (n : Int) (h : k2 = false → X2 = r8) (h' : k5 = false → Y2 = r9) :
    evS (w 17) (St scr z1 n z3 (Rw r0 r1 r2 r3 r4 r5 r6 r7 r8 r9 r10 r11 r12) (some (ot4 o0 o1 o2 o3)) (bits6 k0 k1 k2 k3 k4 k5) z9 z10 (some (ot4 X1 Y1 X2 Y2)) z12 z13 z14) =
    some (.nx (St scr z1 n z3 (Rw r0 r1 r2 r3 r4 r5 r6 r7 r8 r9 r10 r11 r12) (some (ot4 o0 o1 o2 o3)) (bits6 k0 k1 k2 k3 k4 k5) z9 z10 (some (ot4 X1 Y1 X2 Y2)) z12 z13 z14)) := by
  unfold w bodyL b_law
  cases k2 with
  | true =>
    cases k5 with
    | true => simp [Tgt.put, Tgt.putO, setAll, rd, look, pk, pkIf, IE.still, BOp.ap, COp.ap, D.at?, O.fz, F.fz, iosOf, ioOf, fits, argsO, putAll, ap_int, ap_intb, ap_tup, atI, ixN]
    | false =>
      obtain rfl := h' rfl
      simp [Tgt.put, Tgt.putO, setAll, rd, look, pk, pkIf, IE.still, BOp.ap, COp.ap, D.at?, O.fz, F.fz, iosOf, ioOf, fits, argsO, putAll, ap_int, ap_intb, ap_tup, atI, ixN]
  | false =>
    obtain rfl := h rfl
    cases k5 with
    | true => simp [Tgt.put, Tgt.putO, setAll, rd, look, pk, pkIf, IE.still, BOp.ap, COp.ap, D.at?, O.fz, F.fz, iosOf, ioOf, fits, argsO, putAll, ap_int, ap_intb, ap_tup, atI, ixN]
    | false =>
      obtain rfl := h' rfl
      simp [Tgt.put, Tgt.putO, setAll, rd, look, pk, pkIf, IE.still, BOp.ap, COp.ap, D.at?, O.fz, F.fz, iosOf, ioOf, fits, argsO, putAll, ap_int, ap_intb, ap_tup, atI, ixN]
end
end
end
end Vm

set_option Elab.async false
set_option linter.all false
set_option maxRecDepth 100000
set_option maxHeartbeats 4000000
namespace Vm
open PySem L2 PyProof.Rows
def LP (ns : List Int) (ρ : Env) : Prop := ∃ z1 z2 z3 z4 z6 z7 z9 z10 z11 z12 z13 z14 : Option O, ρ = [some (od (.ro (ns.map .int))), z1, z2, z3, z4, none, z6, z7, none, z9, z10, z11, z12, z13, z14]
theorem turn_ok (ns : List Int) (k : Int) (hk : 0 ≤ k) (ρ : Env) (h : LP ns ρ) : ∃ ρ', turnS (.nm 1) bodyL (.int k) ρ = some (.nx ρ') ∧ LP ns ρ' := by
  obtain ⟨z1, z2, z3, z4, z6, z7, z9, z10, z11, z12, z13, z14, rfl⟩ := h
  obtain ⟨n0, h0⟩ := e0 (z2 := z2) (z3 := z3) (z4 := z4) (z6 := z6) (z7 := z7) (z9 := z9) (z10 := z10) (z11 := z11) (z12 := z12) (z13 := z13) (z14 := z14) ns k hk
  obtain ⟨n1, v, hv, h1⟩ := e1 (scr := some (od (.ro (ns.map .int)))) (z1 := some (oi k)) (z3 := z3) (z4 := z4) (z6 := z6) (z7 := z7) (z9 := z9) (z10 := z10) (z11 := z11) (z12 := z12) (z13 := z13) (z14 := z14) n0
  obtain ⟨n2, a, b, c, d, h2⟩ := e2 (scr := some (od (.ro (ns.map .int)))) (z1 := some (oi k)) (z4 := z4) (z6 := z6) (z7 := z7) (z9 := z9) (z10 := z10) (z11 := z11) (z12 := z12) (z13 := z13) (z14 := z14) n1 v hv
  obtain ⟨n3, p0, p1, p2, p3, q0, q1, h3⟩ := e3 (scr := some (od (.ro (ns.map .int)))) (z1 := some (oi k)) (z6 := z6) (z7 := z7) (z9 := z9) (z10 := z10) (z11 := z11) (z12 := z12) (z13 := z13) (z14 := z14) n2 v a b c d hv
  obtain ⟨n4, s0, s1, s2, h4⟩ := e4 (scr := some (od (.ro (ns.map .int)))) (z1 := some (oi k)) (z6 := z6) (z7 := z7) (z9 := z9) (z10 := z10) (z11 := z11) (z12 := z12) (z13 := z13) (z14 := z14) n3 v a b c d p0 p1 p2 p3 q0 q1 hv
  obtain ⟨n5, o0, o1, o2, o3, ⟨ho2, ho3⟩, h5⟩ := e5 (scr := some (od (.ro (ns.map .int)))) (z1 := some (oi k)) (z4 := some (od (row13 a b c d p0 p1 p2 p3 q0 q1 s0 s1 s2))) (z6 := z6) (z7 := z7) (z9 := z9) (z10 := z10) (z11 := z11) (z12 := z12) (z13 := z13) (z14 := z14) n4 v hv
  obtain ⟨X1, X2, hX⟩ : ∃ X1 X2 : Int, placeAxis p0 p2 a c q0 s0 o0 o2 (hasBit s2 1) (hasBit s2 4) (hasBit s2 16) = (X1, X2) := ⟨_, _, rfl⟩
  obtain ⟨Y1, Y2, hY⟩ : ∃ Y1 Y2 : Int, placeAxis p1 p3 b d q1 s1 o1 o3 (hasBit s2 2) (hasBit s2 8) (hasBit s2 32) = (Y1, Y2) := ⟨_, _, rfl⟩
  obtain ⟨n11, dx, dy, h11⟩ := e11 (scr := some (od (.ro (ns.map .int)))) (z1 := some (oi k)) (z3 := some (oi v)) (z4 := some (od (row13 a b c d p0 p1 p2 p3 q0 q1 s0 s1 s2))) (z6 := some (ot4 o0 o1 o2 o3)) (z7 := bits6 (hasBit s2 1) (hasBit s2 4) (hasBit s2 16) (hasBit s2 2) (hasBit s2 8) (hasBit s2 32))
    (z9 := some (ot2 X1 X2))
    (z10 := some (ot2 Y1 Y2))
    (z11 := some (ot4 X1 Y1 X2 Y2))
    (z12 := z12) (z13 := z13) (z14 := z14) n5
  have i15 : hasBit s2 4 = true → q0 ≤ o2 → o0 ≤ X1 ∧ X1 ≤ o0 + o2 - q0 := by
    intro e h
    have z := place_in p0 p2 a c q0 s0 o0 o2 (hasBit s2 1) (hasBit s2 16) h
    rw [e] at hX; rw [hX] at z; exact z
  have i16 : hasBit s2 4 = true → hasBit s2 16 = true → o2 < q0 → X1 = o0 ∧ X2 = o2 := by
    intro e e' h
    rw [e, e', place_cut _ _ _ _ _ _ _ _ _ h ho2] at hX; cases hX; exact ⟨rfl, rfl⟩
  have i17 : hasBit s2 16 = false → X2 = q0 := by
    intro e; have z := place_size p0 p2 a c q0 s0 o0 o2 (hasBit s2 1) (hasBit s2 4); rw [e] at hX; rw [hX] at z; exact z
  have i17' : hasBit s2 32 = false → Y2 = q1 := by
    intro e; have z := place_size p1 p3 b d q1 s1 o1 o3 (hasBit s2 2) (hasBit s2 8); rw [e] at hY; rw [hY] at z; exact z
  suffices H : ∃ y1 y2 y3 y4 y6 y7 y9 y10 y11 y12 y13 y14 : Option O, evSs bodyL [some (od (.ro (ns.map .int))), some (oi k), z2, z3, z4, none, z6, z7, none, z9, z10, z11, z12, z13, z14] = some (.nx [some (od (.ro (ns.map .int))), y1, y2, y3, y4, none, y6, y7, none, y9, y10, y11, y12, y13, y14]) by
    obtain ⟨y1, y2, y3, y4, y6, y7, y9, y10, y11, y12, y13, y14, H⟩ := H
    refine ⟨_, ?_, y1, y2, y3, y4, y6, y7, y9, y10, y11, y12, y13, y14, rfl⟩
    rw [turnS_put]
    exact H
  rw [body_eq]
  rw [s_cons, h0, seq_nx, s_cons, h1, seq_nx, s_cons, h2, seq_nx, s_cons, h3, seq_nx, s_cons, h4, seq_nx, s_cons, h5, seq_nx, s_cons, e6, seq_nx, s_cons, e7, seq_nx, s_cons, e8, seq_nx, s_cons, e9, seq_nx]
  simp only [hX, hY]
  rw [s_cons, e10 n5 hX, seq_nx, s_cons, h11, seq_nx, s_cons, e12 n11 hX hY, seq_nx, s_cons, e13, seq_nx, s_cons, e14 n11 hX hY, seq_nx, s_cons, e15 n11 i15, seq_nx, s_cons, e16 n11 i16, seq_nx, s_cons, e17 n11 i17 i17', seq_nx, s_nil]
  exact ⟨_, _, _, _, _, _, _, _, _, _, _, _, rfl⟩
theorem law_run (ns : List Int) : f_law.run [.f (.d (.ro (ns.map .int)))] = some (.ret (.f (.d (.bl true))) []) := by
  obtain ⟨ρ', e, z1, z2, z3, z4, z6, z7, z9, z10, z11, z12, z13, z14, rfl⟩ := forL_inv (turn := turnS (.nm 1) bodyL) (P := LP ns) (xs := rngL 0 30 1) (ρ := [some (od (.ro (ns.map .int))), none, none, none, none, none, none, none, none, none, none, none, none, none, none]) (fun x hx ρ h => by
    obtain ⟨k, _, rfl⟩ := rngL_mem hx
    exact turn_ok ns _ (by omega) ρ h) ⟨none, none, none, none, none, none, none, none, none, none, none, none, rfl⟩
  unfold f_law
  rw [run_def rfl]
  show outK [false] (evSs [.for_ (.nm 1) (.rng 1 [(.c (.int (30)))]) bodyL, .ret (.c (.bl true))] [some (od (.ro (ns.map .int))), none, none, none, none, none, none, none, none, none, none, none, none, none, none]) = _
  have e' : forL (turnS (.nm 1) bodyL) (rngL 0 30 1) _ = _ := e
  simp [rngD, small62, e', O.fz, F.fz, iosOf]
end Vm

namespace Vm
open PySem L2 PyProof.Rows
def ca0 : Str → Addr := fun _ => 0
theorem all_mk {l : PySem.W.OpenLaw} {w : World} {K : PySem.W.Frag} {h : Heap} {mg : Str → Option Value} {fa : Addr} (X : K.In h) (G : h.Ns mainGlobals mg) (hfa : mg "law" = some (.ref fa))
    {f1 : Addr} {od1 an1 : Option Addr} {sl1 : Array (Option Value)} {oc1 kV1 dc1 pm1 cd1 ct1 : Value}
    {f2 : Addr} {od2 an2 : Option Addr} {sl2 : Array (Option Value)} {oc2 kV2 dc2 pm2 cd2 ct2 : Value}
    {f3 : Addr} {od3 an3 : Option Addr} {sl3 : Array (Option Value)} {oc3 kV3 dc3 pm3 cd3 ct3 : Value}
    {f4 : Addr} {od4 an4 : Option Addr} {sl4 : Array (Option Value)} {oc4 kV4 dc4 pm4 cd4 ct4 : Value}
    {f5 : Addr} {od5 an5 : Option Addr} {sl5 : Array (Option Value)} {oc5 kV5 dc5 pm5 cd5 ct5 : Value}
    {f6 : Addr} {od6 an6 : Option Addr} {sl6 : Array (Option Value)} {oc6 kV6 dc6 pm6 cd6 ct6 : Value}
    {f7 : Addr} {od7 an7 : Option Addr} {sl7 : Array (Option Value)} {oc7 kV7 dc7 pm7 cd7 ct7 : Value}
    {f8 : Addr} {od8 an8 : Option Addr} {sl8 : Array (Option Value)} {oc8 kV8 dc8 pm8 cd8 ct8 : Value}
    {f9 : Addr} {od9 an9 : Option Addr} {sl9 : Array (Option Value)} {oc9 kV9 dc9 pm9 cd9 ct9 : Value}
    {f10 : Addr} {od10 an10 : Option Addr} {sl10 : Array (Option Value)} {oc10 kV10 dc10 pm10 cd10 ct10 : Value}
    {f11 : Addr} {od11 an11 : Option Addr} {sl11 : Array (Option Value)} {oc11 kV11 dc11 pm11 cd11 ct11 : Value}
    {f12 : Addr} {od12 an12 : Option Addr} {sl12 : Array (Option Value)} {oc12 kV12 dc12 pm12 cd12 ct12 : Value}
    (a1 : PySem.W.nsIn K mainGlobals "lies_in" = some (some (.ref f1)))
    (l1 : K.lookup f1 = some ⟨oc1, od1, .func (PySem.W.fnOf "lies_in" "lies_in" (defArgs (topS 1)) (defBody (topS 1)) (defScope (topS 1)) .none kV1 dc1 pm1 an1 cd1 ct1), sl1⟩)
    (c1 : PySem.W.codeIn K cd1 "lies_in" = true)
    (k1 : PySem.W.keepIn K (.ref f1) = true)
    (a2 : PySem.W.nsIn K mainGlobals "point_of" = some (some (.ref f2)))
    (l2 : K.lookup f2 = some ⟨oc2, od2, .func (PySem.W.fnOf "point_of" "point_of" (defArgs (topS 2)) (defBody (topS 2)) (defScope (topS 2)) .none kV2 dc2 pm2 an2 cd2 ct2), sl2⟩)
    (c2 : PySem.W.codeIn K cd2 "point_of" = true)
    (k2 : PySem.W.keepIn K (.ref f2) = true)
    (a3 : PySem.W.nsIn K mainGlobals "begin_of" = some (some (.ref f3)))
    (l3 : K.lookup f3 = some ⟨oc3, od3, .func (PySem.W.fnOf "begin_of" "begin_of" (defArgs (topS 3)) (defBody (topS 3)) (defScope (topS 3)) .none kV3 dc3 pm3 an3 cd3 ct3), sl3⟩)
    (c3 : PySem.W.codeIn K cd3 "begin_of" = true)
    (k3 : PySem.W.keepIn K (.ref f3) = true)
    (a4 : PySem.W.nsIn K mainGlobals "slid" = some (some (.ref f4)))
    (l4 : K.lookup f4 = some ⟨oc4, od4, .func (PySem.W.fnOf "slid" "slid" (defArgs (topS 4)) (defBody (topS 4)) (defScope (topS 4)) .none kV4 dc4 pm4 an4 cd4 ct4), sl4⟩)
    (c4 : PySem.W.codeIn K cd4 "slid" = true)
    (k4 : PySem.W.keepIn K (.ref f4) = true)
    (a5 : PySem.W.nsIn K mainGlobals "place_axis" = some (some (.ref f5)))
    (l5 : K.lookup f5 = some ⟨oc5, od5, .func (PySem.W.fnOf "place_axis" "place_axis" (defArgs (topS 5)) (defBody (topS 5)) (defScope (topS 5)) .none kV5 dc5 pm5 an5 cd5 ct5), sl5⟩)
    (c5 : PySem.W.codeIn K cd5 "place_axis" = true)
    (k5 : PySem.W.keepIn K (.ref f5) = true)
    (a6 : PySem.W.nsIn K mainGlobals "has_bit" = some (some (.ref f6)))
    (l6 : K.lookup f6 = some ⟨oc6, od6, .func (PySem.W.fnOf "has_bit" "has_bit" (defArgs (topS 6)) (defBody (topS 6)) (defScope (topS 6)) .none kV6 dc6 pm6 an6 cd6 ct6), sl6⟩)
    (c6 : PySem.W.codeIn K cd6 "has_bit" = true)
    (k6 : PySem.W.keepIn K (.ref f6) = true)
    (a7 : PySem.W.nsIn K mainGlobals "place_popup" = some (some (.ref f7)))
    (l7 : K.lookup f7 = some ⟨oc7, od7, .func (PySem.W.fnOf "place_popup" "place_popup" (defArgs (topS 7)) (defBody (topS 7)) (defScope (topS 7)) .none kV7 dc7 pm7 an7 cd7 ct7), sl7⟩)
    (c7 : PySem.W.codeIn K cd7 "place_popup" = true)
    (k7 : PySem.W.keepIn K (.ref f7) = true)
    (a8 : PySem.W.nsIn K mainGlobals "_law_start" = some (some (.ref f8)))
    (l8 : K.lookup f8 = some ⟨oc8, od8, .func (PySem.W.fnOf "_law_start" "_law_start" (defArgs (topS 9)) (defBody (topS 9)) (defScope (topS 9)) .none kV8 dc8 pm8 an8 cd8 ct8), sl8⟩)
    (c8 : PySem.W.codeIn K cd8 "_law_start" = true)
    (k8 : PySem.W.keepIn K (.ref f8) = true)
    (a9 : PySem.W.nsIn K mainGlobals "_law_digit" = some (some (.ref f9)))
    (l9 : K.lookup f9 = some ⟨oc9, od9, .func (PySem.W.fnOf "_law_digit" "_law_digit" (defArgs (topS 10)) (defBody (topS 10)) (defScope (topS 10)) .none kV9 dc9 pm9 an9 cd9 ct9), sl9⟩)
    (c9 : PySem.W.codeIn K cd9 "_law_digit" = true)
    (k9 : PySem.W.keepIn K (.ref f9) = true)
    (a10 : PySem.W.nsIn K mainGlobals "_law_axis" = some (some (.ref f10)))
    (l10 : K.lookup f10 = some ⟨oc10, od10, .func (PySem.W.fnOf "_law_axis" "_law_axis" (defArgs (topS 11)) (defBody (topS 11)) (defScope (topS 11)) .none kV10 dc10 pm10 an10 cd10 ct10), sl10⟩)
    (c10 : PySem.W.codeIn K cd10 "_law_axis" = true)
    (k10 : PySem.W.keepIn K (.ref f10) = true)
    (a11 : PySem.W.nsIn K mainGlobals "_law_exchanged" = some (some (.ref f11)))
    (l11 : K.lookup f11 = some ⟨oc11, od11, .func (PySem.W.fnOf "_law_exchanged" "_law_exchanged" (defArgs (topS 12)) (defBody (topS 12)) (defScope (topS 12)) .none kV11 dc11 pm11 an11 cd11 ct11), sl11⟩)
    (c11 : PySem.W.codeIn K cd11 "_law_exchanged" = true)
    (k11 : PySem.W.keepIn K (.ref f11) = true)
    (a12 : PySem.W.nsIn K mainGlobals "law" = some (some (.ref f12)))
    (l12 : K.lookup f12 = some ⟨oc12, od12, .func (PySem.W.fnOf "law" "law" (defArgs (topS 13)) (defBody (topS 13)) (defScope (topS 13)) .none kV12 dc12 pm12 an12 cd12 ct12), sl12⟩)
    (c12 : PySem.W.codeIn K cd12 "law" = true)
    (k12 : PySem.W.keepIn K (.ref f12) = true)
    (z_len : PySem.W.nsIn K mainGlobals "len" = some none)
    (z_int : PySem.W.nsIn K mainGlobals "int" = some none)
    (z_abs : PySem.W.nsIn K mainGlobals "abs" = some none)
    (z_min : PySem.W.nsIn K mainGlobals "min" = some none)
    (z_max : PySem.W.nsIn K mainGlobals "max" = some none)
    (z_tuple : PySem.W.nsIn K mainGlobals "tuple" = some none)
    (z_list : PySem.W.nsIn K mainGlobals "list" = some none)
    (z_sum : PySem.W.nsIn K mainGlobals "sum" = some none)
    (z_all : PySem.W.nsIn K mainGlobals "all" = some none)
    (z_any : PySem.W.nsIn K mainGlobals "any" = some none)
    (z_sorted : PySem.W.nsIn K mainGlobals "sorted" = some none)
    (z_range : PySem.W.nsIn K mainGlobals "range" = some none)
    : ∃ fd : FuncData, (∀ (s : Shared) (v : Value), BindsTo s fd ⟨[v], []⟩ [("script", v)]) ∧ ∀ base : Heap, K.In base → base.Ns mainGlobals mg → FnOk l.prog w K mg base (L2.CX l.prog w) 5 fa fd ["script"] (spD K ca0 f_law) := by
  have e := hfa.symm.trans (PySem.W.mg_of X G a12)
  cases e
  have hb : ∀ b : Blt, mg b.name = none := fun b => by
    cases b
    · exact PySem.W.mg_none_of X G z_len
    · exact PySem.W.mg_none_of X G z_int
    · exact PySem.W.mg_none_of X G z_abs
    · exact PySem.W.mg_none_of X G z_min
    · exact PySem.W.mg_none_of X G z_max
    · exact PySem.W.mg_none_of X G z_tuple
    · exact PySem.W.mg_none_of X G z_list
    · exact PySem.W.mg_none_of X G z_sum
    · exact PySem.W.mg_none_of X G z_all
    · exact PySem.W.mg_none_of X G z_any
    · exact PySem.W.mg_none_of X G z_sorted
  have F1 := fun_mk (st := (topS 1)) l1 c1 k1
  have B1 := F1.binds (ps := ["begin", "length", "room"]) fun _ _ _ _ _ _ us hl => match us, hl with | [_, _, _], _ => rfl
  have F2 := fun_mk (st := (topS 2)) l2 c2 k2
  have B2 := F2.binds (ps := ["sign", "begin", "length"]) fun _ _ _ _ _ _ us hl => match us, hl with | [_, _, _], _ => rfl
  have F3 := fun_mk (st := (topS 3)) l3 c3 k3
  have B3 := F3.binds (ps := ["anchor", "gravity", "begin", "length", "size", "offset"]) fun _ _ _ _ _ _ us hl => match us, hl with | [_, _, _, _, _, _], _ => rfl
  have F4 := fun_mk (st := (topS 4)) l4 c4 k4
  have B4 := F4.binds (ps := ["begin", "size", "gravity", "room"]) fun _ _ _ _ _ _ us hl => match us, hl with | [_, _, _, _], _ => rfl
  have F5 := fun_mk (st := (topS 5)) l5 c5 k5
  have B5 := F5.binds (ps := ["anchor", "gravity", "begin", "length", "size", "offset", "room", "bits"]) fun _ _ _ _ _ _ us hl => match us, hl with | [_, _, _, _, _, _, _, _], _ => rfl
  have F6 := fun_mk (st := (topS 6)) l6 c6 k6
  have B6 := F6.binds (ps := ["number", "bit"]) fun _ _ _ _ _ _ us hl => match us, hl with | [_, _], _ => rfl
  have F7 := fun_mk (st := (topS 7)) l7 c7 k7
  have B7 := F7.binds (ps := ["positioner", "room"]) fun _ _ _ _ _ _ us hl => match us, hl with | [_, _], _ => rfl
  have F8 := fun_mk (st := (topS 9)) l8 c8 k8
  have B8 := F8.binds (ps := ["script", "k"]) fun _ _ _ _ _ _ us hl => match us, hl with | [_, _], _ => rfl
  have F9 := fun_mk (st := (topS 10)) l9 c9 k9
  have B9 := F9.binds (ps := ["state", "many"]) fun _ _ _ _ _ _ us hl => match us, hl with | [_, _], _ => rfl
  have F10 := fun_mk (st := (topS 11)) l10 c10 k10
  have B10 := F10.binds (ps := ["anchor", "gravity", "begin", "length", "size", "offset", "room", "bits"]) fun _ _ _ _ _ _ us hl => match us, hl with | [_, _, _, _, _, _, _, _], _ => rfl
  have F11 := fun_mk (st := (topS 12)) l11 c11 k11
  have B11 := F11.binds (ps := ["row"]) fun _ _ _ _ _ _ us hl => match us, hl with | [_], _ => rfl
  have F12 := fun_mk (st := (topS 13)) l12 c12 k12
  have B12 := F12.binds (ps := ["script"]) fun _ _ _ _ _ _ us hl => match us, hl with | [_], _ => rfl
  refine ⟨PySem.W.fnOf "law" "law" (defArgs (topS 13)) (defBody (topS 13)) (defScope (topS 13)) .none kV12 dc12 pm12 an12 cd12 ct12, fun s v => .of_eq rfl, fun base _ _ => ?_⟩
  have O1 : FnOk l.prog w K mg base (L2.CX l.prog w) 1 f1 _ ["begin", "length", "room"] (spD K ca0 f_lies_in) := def_sound c_lies_in F1 ⟨trivial, trivial, trivial, trivial, hb, PySem.W.mg_none_of X G z_range, trivial⟩
  have O2 : FnOk l.prog w K mg base (L2.CX l.prog w) 1 f2 _ ["sign", "begin", "length"] (spD K ca0 f_point_of) := def_sound c_point_of F2 ⟨trivial, trivial, trivial, trivial, hb, PySem.W.mg_none_of X G z_range, trivial⟩
  have O3 : FnOk l.prog w K mg base (L2.CX l.prog w) 2 f3 _ ["anchor", "gravity", "begin", "length", "size", "offset"] (spD K ca0 f_begin_of) := def_sound c_begin_of F3 ⟨⟨⟨f2, _, _, O2.mono (by decide), PySem.W.mg_of X G a2, F2.kp, B2⟩, trivial⟩, trivial, trivial, trivial, hb, PySem.W.mg_none_of X G z_range, trivial⟩
  have O4 : FnOk l.prog w K mg base (L2.CX l.prog w) 1 f4 _ ["begin", "size", "gravity", "room"] (spD K ca0 f_slid) := def_sound c_slid F4 ⟨trivial, trivial, trivial, trivial, hb, PySem.W.mg_none_of X G z_range, trivial⟩
  have O5 : FnOk l.prog w K mg base (L2.CX l.prog w) 3 f5 _ ["anchor", "gravity", "begin", "length", "size", "offset", "room", "bits"] (spD K ca0 f_place_axis) := def_sound c_place_axis F5 ⟨⟨⟨f3, _, _, O3.mono (by decide), PySem.W.mg_of X G a3, F3.kp, B3⟩, ⟨f1, _, _, O1.mono (by decide), PySem.W.mg_of X G a1, F1.kp, B1⟩, ⟨f4, _, _, O4.mono (by decide), PySem.W.mg_of X G a4, F4.kp, B4⟩, trivial⟩, trivial, trivial, trivial, hb, PySem.W.mg_none_of X G z_range, trivial⟩
  have O6 : FnOk l.prog w K mg base (L2.CX l.prog w) 1 f6 _ ["number", "bit"] (spD K ca0 f_has_bit) := def_sound c_has_bit F6 ⟨trivial, trivial, trivial, trivial, hb, PySem.W.mg_none_of X G z_range, trivial⟩
  have O7 : FnOk l.prog w K mg base (L2.CX l.prog w) 4 f7 _ ["positioner", "room"] (spD K ca0 f_place_popup) := def_sound c_place_popup F7 ⟨⟨⟨f6, _, _, O6.mono (by decide), PySem.W.mg_of X G a6, F6.kp, B6⟩, ⟨f5, _, _, O5.mono (by decide), PySem.W.mg_of X G a5, F5.kp, B5⟩, trivial⟩, trivial, trivial, trivial, hb, PySem.W.mg_none_of X G z_range, trivial⟩
  have O8 : FnOk l.prog w K mg base (L2.CX l.prog w) 1 f8 _ ["script", "k"] (spD K ca0 f__law_start) := def_sound c__law_start F8 ⟨trivial, trivial, trivial, trivial, hb, PySem.W.mg_none_of X G z_range, trivial⟩
  have O9 : FnOk l.prog w K mg base (L2.CX l.prog w) 1 f9 _ ["state", "many"] (spD K ca0 f__law_digit) := def_sound c__law_digit F9 ⟨trivial, trivial, trivial, trivial, hb, PySem.W.mg_none_of X G z_range, trivial⟩
  have O10 : FnOk l.prog w K mg base (L2.CX l.prog w) 1 f10 _ ["anchor", "gravity", "begin", "length", "size", "offset", "room", "bits"] (spD K ca0 f__law_axis) := def_sound c__law_axis F10 ⟨trivial, trivial, trivial, trivial, hb, PySem.W.mg_none_of X G z_range, trivial⟩
  have O11 : FnOk l.prog w K mg base (L2.CX l.prog w) 1 f11 _ ["row"] (spD K ca0 f__law_exchanged) := def_sound c__law_exchanged F11 ⟨trivial, trivial, trivial, trivial, hb, PySem.W.mg_none_of X G z_range, trivial⟩
  have O12 : FnOk l.prog w K mg base (L2.CX l.prog w) 5 fa _ ["script"] (spD K ca0 f_law) := def_sound c_law F12 ⟨⟨⟨f10, _, _, O10.mono (by decide), PySem.W.mg_of X G a10, F10.kp, B10⟩, ⟨f9, _, _, O9.mono (by decide), PySem.W.mg_of X G a9, F9.kp, B9⟩, ⟨f11, _, _, O11.mono (by decide), PySem.W.mg_of X G a11, F11.kp, B11⟩, ⟨f8, _, _, O8.mono (by decide), PySem.W.mg_of X G a8, F8.kp, B8⟩, ⟨f5, _, _, O5.mono (by decide), PySem.W.mg_of X G a5, F5.kp, B5⟩, ⟨f7, _, _, O7.mono (by decide), PySem.W.mg_of X G a7, F7.kp, B7⟩, trivial⟩, trivial, trivial, trivial, hb, PySem.W.mg_none_of X G z_range, trivial⟩
  exact O12
end Vm
open PySem PySem.W PyProof.Rows
set_option maxHeartbeats 0 in
theorem PySem.Challenge.cw_sillwatch_k40_whole_places_of_popups_tur_holds : PySem.Challenge.rw_sillwatch_k40_whole_places_of_popups_tur.Holds := by
  w_on; o_law; k_head; (case hw => w_witness2)
  k_fill
  refine L2.walk_of (l := PySem.Challenge.rw_sillwatch_k40_whole_places_of_popups_tur) (n := 63) (k := 5) (x := "script") (CX := fun w => L2.CX PySem.Challenge.rw_sillwatch_k40_whole_places_of_popups_tur.prog w) (sp := fun w => Vm.spD _ Vm.ca0 Vm.f_law) rfl (by decide) rfl ⟨rfl, by decide, by decide⟩ (fun w h Y => PySem.W.kIn_of Y) ?F (fun _ _ a ns hl _ hS => Vm.law_sp rfl (Vm.law_run ns) hS) (fun _ _ _ _ _ h => Vm.cx_none (P := PySem.Challenge.rw_sillwatch_k40_whole_places_of_popups_tur.prog) h)
  case F =>
    intro w mg fa h KX G hmg
    refine' Vm.all_mk KX G hmg ?a1 ?l1 ?c1 ?k1 ?a2 ?l2 ?c2 ?k2 ?a3 ?l3 ?c3 ?k3 ?a4 ?l4 ?c4 ?k4 ?a5 ?l5 ?c5 ?k5 ?a6 ?l6 ?c6 ?k6 ?a7 ?l7 ?c7 ?k7 ?a8 ?l8 ?c8 ?k8 ?a9 ?l9 ?c9 ?k9 ?a10 ?l10 ?c10 ?k10 ?a11 ?l11 ?c11 ?k11 ?a12 ?l12 ?c12 ?k12 ?z_len ?z_int ?z_abs ?z_min ?z_max ?z_tuple ?z_list ?z_sum ?z_all ?z_any ?z_sorted ?z_range
    (case a1 => k_is); (case l1 => k_is); (case c1 => k_is); (case k1 => k_is); (case a2 => k_is); (case l2 => k_is); (case c2 => k_is); (case k2 => k_is); (case a3 => k_is); (case l3 => k_is); (case c3 => k_is); (case k3 => k_is); (case a4 => k_is); (case l4 => k_is); (case c4 => k_is); (case k4 => k_is); (case a5 => k_is); (case l5 => k_is); (case c5 => k_is); (case k5 => k_is); (case a6 => k_is); (case l6 => k_is); (case c6 => k_is); (case k6 => k_is); (case a7 => k_is); (case l7 => k_is); (case c7 => k_is); (case k7 => k_is); (case a8 => k_is); (case l8 => k_is); (case c8 => k_is); (case k8 => k_is); (case a9 => k_is); (case l9 => k_is); (case c9 => k_is); (case k9 => k_is); (case a10 => k_is); (case l10 => k_is); (case c10 => k_is); (case k10 => k_is); (case a11 => k_is); (case l11 => k_is); (case c11 => k_is); (case k11 => k_is); (case a12 => k_is); (case l12 => k_is); (case c12 => k_is); (case k12 => k_is); (case z_len => k_is); (case z_int => k_is); (case z_abs => k_is); (case z_min => k_is); (case z_max => k_is); (case z_tuple => k_is); (case z_list => k_is); (case z_sum => k_is); (case z_all => k_is); (case z_any => k_is); (case z_sorted => k_is); (case z_range => k_is)

