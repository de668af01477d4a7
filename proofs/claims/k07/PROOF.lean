import PyProof.Rows.All
import Wide.All
import OpenK.AllK
import Wide.FinOn
import HandS.ForExc
import HandS.ForMost
import HandS.Wide
import HandS.IsInst
import HandS.TupAny
import HandS.TupMul
import HandS.Style
import HandS.Zip
import HandS.ExcIs
import HandS.SortInts
import HandS.Conv
import HandS.Flow
import KE.GoesMore
import KE.GoesEnum
import HandS.TupSets
import HandS.SetFor
import HandS.More
import HandS.Walk
import HandS.Comp
import HandS.TryOnly
import HandS.RaiseMore
import HandS.WordsExc
import HandS.Ends
import PySem.Challenge.RW_tollmoves_k07_arches_known
set_option Elab.async false
set_option linter.all false
set_option maxRecDepth 100000
set_option maxHeartbeats 4000000
namespace Ev
open PySem PySem.Spec PyProof.Rows L2

/-! ### data, the store, results -/
inductive D where
  | non | bl (b : Bool) | int (i : Int) | str (x : Str) | ty (n : String)
  | tup (xs : List D) | rol (xs : List D) | loc (l : Nat) | obj (x : Str) | exn (c : Str) (fs : List D) | clo (k : Nat) (cs : List D)

inductive Ob where
  | lst (xs : List D) | dic (kvs : List (Key × D)) | ins (c : Str) (fs : List (Str × D))

abbrev Stt := List Ob
abbrev Env := List (Option D)
/-- a value, or a new list that nobody holds -/
inductive A where
  | d (x : D) | l (xs : List D)
inductive Rs (α : Type) where
  | ok (a : α) (s : Stt) | exc (c : Str) (fs : List D) (s : Stt) | bad
abbrev M (α : Type) := Stt → Rs α
/-- how a statement ends -/
inductive Fl where
  | nx | rt (d : D) | bk | ct
inductive Rf where
  | ok (f : Fl) (e : Env) (s : Stt) | exc (c : Str) (fs : List D) (e : Env) (s : Stt) | bad

def Rs.bind {α β : Type} (r : Rs α) (k : α → M β) : Rs β :=
  match r with
  | .ok a s => k a s
  | .exc c fs s => .exc c fs s
  | .bad => .bad
/-- .. of an expression in a statement -/
def Rs.then {α : Type} (r : Rs α) (e : Env) (k : α → Stt → Rf) : Rf :=
  match r with
  | .ok a s => k a s
  | .exc c fs s => .exc c fs e s
  | .bad => .bad
def Rf.then (r : Rf) (k : Env → Stt → Rf) : Rf :=
  match r with
  | .ok .nx e s => k e s
  | r => r
def ofO {α : Type} (o : Option α) (s : Stt) : Rs α :=
  match o with
  | some a => .ok a s
  | none => .bad

structure Gam where
  fn : Str → Option (List D → M D) := fun _ => none
  gc : Str → Option D := fun _ => none
  mt : Str → Str → Option (List D → M D) := fun _ _ => none
  sub : Str → Str → Option Bool := fun _ _ => none
  xc : Str → Bool := fun _ => false
  ist : Str → Str → Option Bool := fun _ _ => none
  cl : List Str := []

/-! ### the text, told short -/
mutual
inductive Ex where
  | v (i : Nat) | c (d : D) | g (x : Str)
  | bin (op : Operator) (a b : Ex) | neg (a : Ex) | nt (a : Ex)
  | and (es : Es) | or (es : Es)
  | cmp (a : Ex) (op : CmpOp) (b : Ex) | cmp2 (a : Ex) (op : CmpOp) (b : Ex) (op2 : CmpOp) (c : Ex)
  | call (f : Str) (es : Es) | callv (i : Nat) (es : Es) | bi (f : Str) (es : Es) | mt (m : Str) (o : Ex) (es : Es)
  | isi (a : Ex) (ts : List Str)
  | ix (a i : Ex) | sl (a : Ex) (lo hi : Eo)
  | tup (es : Es) | lst (es : Es) | dict0 | rev (a : Ex) | dic1 (k : Int) (d : D)
  | cmp3 (a : Ex) (op : CmpOp) (b : Ex) (op2 : CmpOp) (c : Ex) (op3 : CmpOp) (d : Ex) | nset (a : Ex) | rgl (t : Bool) (a : Ex) (b : Eo)
  | lc (elt : Ex) (t : Tg) (it : It) (ifs : Eo) (own : List Nat)
  | ife (t a b : Ex)
inductive Es where
  | nil | cons (e : Ex) (r : Es)
inductive Eo where
  | no | so (e : Ex)
inductive It where
  | val (a : Ex) | rng (a : Ex) | rng2 (a b : Ex) | zip (a b : Ex) | enum (a : Ex)
inductive Tg where
  | nm (i : Nat) | tup (ts : Tgs)
inductive Tgs where
  | nil | cons (t : Tg) (r : Tgs)
end
mutual
inductive Sx where
  | asg (t : Tg) (e : Ex) | st (o i e : Ex) | ret (e : Ex) | ret0 | ex (e : Ex)
  | ife (t : Ex) (a b : Ss) | for (t : Tg) (it : It) (b : Ss) | whl (t : Ex) (b : Ss)
  | brk | cont | pass
  | raise (c : Str) (es : Es)
  | «try» (b : Ss) (c : Str) (i : Nat) (h : Ss)
  | nev
inductive Ss where
  | nil | cons (s : Sx) (r : Ss)
end

/-! ### operations -/
def stLst (st : Stt) (l : Nat) : Option (List D) :=
  match st[l]? with
  | some (.lst xs) => some xs
  | _ => none
/-- a list's items -/
def lstOf (st : Stt) : A → Option (List D)
  | .l xs => some xs
  | .d (.loc l) => stLst st l
  | .d (.rol xs) => some xs
  | _ => none
/-- .. of one that may change -/
def lstM (st : Stt) : A → Option (List D)
  | .l xs => some xs
  | .d (.loc l) => stLst st l
  | _ => none
def tupOf : A → Option (List D)
  | .d (.tup xs) => some xs
  | _ => none
def seqOf (st : Stt) (a : A) : Option (List D) :=
  match tupOf a with
  | some xs => some xs
  | none => lstOf st a
mutual
def toPy (st : Stt) : Nat → D → Option PyData
  | 0, _ => none
  | n + 1, d =>
    match d with
    | .non => some .none
    | .bl b => some (.bool b)
    | .int i => some (.int i)
    | .str x => some (.str x)
    | .tup xs => (toPys st n xs).map .tuple
    | .rol xs => (toPys st n xs).map .list
    | .loc l => match stLst st l with
      | some xs => (toPys st n xs).map .list
      | none => none
    | _ => none
def toPys (st : Stt) : Nat → List D → Option (List PyData)
  | 0, _ => none
  | _ + 1, [] => some []
  | n + 1, x :: xs => match toPy st n x, toPys st n xs with
    | some a, some b => some (a :: b)
    | _, _ => none
end
def toPyA (st : Stt) : A → Option PyData
  | .d x => toPy st 1000 x
  | .l xs => (toPys st 1000 xs).map .list
def eqA (st : Stt) (a b : A) : Option Bool :=
  match toPyA st a, toPyA st b with
  | some x, some y => if SeqAt.shaped x = true ∧ SeqAt.shaped y = true then some (PyData.eqv x y) else none
  | _, _ => none
/-- == of two rows, one of them empty -/
def emp2 (st : Stt) (a b : A) : Option Bool :=
  match tupOf a, tupOf b with
  | some xs, some ys => if (xs.isEmpty || ys.isEmpty) = true then some (decide (xs.length = ys.length)) else none
  | none, none => match lstOf st a, lstOf st b with
    | some xs, some ys => if (xs.isEmpty || ys.isEmpty) = true then some (decide (xs.length = ys.length)) else none
    | _, _ => none
  | _, _ => none
def eqB (st : Stt) (a b : A) : Option Bool :=
  match emp2 st a b with
  | some r => some r
  | none => eqA st a b
def lenOk (n : Nat) : Bool := decide (n ≤ 1000000)
def binA (op : Operator) (a b : A) (st : Stt) : Rs A :=
  match op, a, b with
  | .Add, .d (.int i), .d (.int j) => .ok (.d (.int (i + j))) st
  | .Sub, .d (.int i), .d (.int j) => .ok (.d (.int (i - j))) st
  | .Mult, .d (.int i), .d (.int j) => if i.natAbs.log2 + j.natAbs.log2 < 1000000 then .ok (.d (.int (i * j))) st else .bad
  | .FloorDiv, .d (.int i), .d (.int j) => if j ≠ 0 ∧ j.natAbs.log2 < 9000 then .ok (.d (.int (i.fdiv j))) st else .bad
  | .Mod, .d (.int i), .d (.int j) => if j ≠ 0 then .ok (.d (.int (i.fmod j))) st else .bad
  | .Pow, .d (.int i), .d (.int j) => if 0 ≤ j ∧ (Builtin.Int.intBits i : Int) * j ≤ 2 ^ 27 then .ok (.d (.int (i ^ j.toNat))) st else .bad
  | .Add, .d (.str x), .d (.str y) => if lenOk (x.length + y.length) then .ok (.d (.str (x ++ y))) st else .bad
  | .Add, .d (.tup xs), .d (.tup ys) => if lenOk (xs.length + ys.length) then .ok (.d (.tup (xs ++ ys))) st else .bad
  | .Mult, .d (.tup xs), .d (.int k) => if lenOk xs.length = true ∧ lenOk (xs.length * k.toNat) = true ∧ -(2 ^ 62) ≤ k ∧ k < 2 ^ 62 then .ok (.d (.tup (List.replicate k.toNat xs).flatten)) st else .bad
  | .Add, a, b => match lstM st a, lstM st b with
    | some xs, some ys => if lenOk (xs.length + ys.length) then .ok (.l (xs ++ ys)) st else .bad
    | _, _ => .bad
  | .Mult, a, .d (.int k) => match lstM st a with
    | some xs => if lenOk (xs.length * k.toNat) ∧ -(2 ^ 62) ≤ k ∧ k < 2 ^ 62 then .ok (.l (List.replicate k.toNat xs).flatten) st else .bad
    | none => .bad
  | _, _, _ => .bad
/-! ### more operations -/
mutual
def same : D → D → Bool
  | .non, .non => true
  | .bl a, .bl b => a == b
  | .int a, .int b => a == b
  | .str a, .str b => decide (a = b)
  | .ty a, .ty b => a == b
  | .tup a, .tup b => sames a b
  | .rol a, .rol b => sames a b
  | .loc a, .loc b => a == b
  | .obj a, .obj b => decide (a = b)
  | .exn a fs, .exn b gs => decide (a = b) && sames fs gs
  | .clo a fs, .clo b gs => (a == b) && sames fs gs
  | _, _ => false
def sames : List D → List D → Bool
  | [], [] => true
  | a :: r, b :: q => same a b && sames r q
  | _, _ => false
end
def allocA (a : A) (st : Stt) : Rs D :=
  match a with
  | .d x => .ok x st
  | .l xs => .ok (.loc st.length) (st ++ [.lst xs])
def truA (a : A) (st : Stt) : Rs Bool :=
  match a with
  | .d .non => .ok false st
  | .d (.bl b) => .ok b st
  | .d (.int i) => .ok (i != 0) st
  | .d (.str x) => if lenOk x.length then .ok (x.length != 0) st else .bad
  | .d (.tup xs) => .ok (!xs.isEmpty) st
  | a => match lstOf st a with
    | some xs => .ok (!xs.isEmpty) st
    | none => .bad
/-- a type's name -/
def tyA (st : Stt) : A → Option String
  | .l _ => some "list"
  | .d .non => some "NoneType"
  | .d (.bl _) => some "bool"
  | .d (.int _) => some "int"
  | .d (.str _) => some "str"
  | .d (.tup _) => some "tuple"
  | .d (.rol _) => some "list"
  | .d (.loc l) => match st[l]? with
    | some (.lst _) => some "list"
    | some (.dic _) => some "dict"
    | _ => none
  | _ => none
def tyNames : List String := ["int", "bool", "str", "tuple", "list", "dict"]
def tyName (x : Str) : Option String := tyNames.find? fun n => decide (Str.ofString n = x)
def isiOne (G : Gam) (st : Stt) (a : A) (c : Str) : Option Bool :=
  match tyName c with
  | some n => match tyA st a with
    | some t => kitB t n
    | none => none
  | none => match a with
    | .d (.exn e []) => G.ist e c
    | _ => none
/-- one of some classes -/
def istAny (G : Gam) (e : Str) : List Str → Option Bool
  | [] => some false
  | c :: r => if (tyName c).isSome = true then none else match G.ist e c with
    | some true => some true
    | some false => istAny G e r
    | none => none
def isiA (G : Gam) (st : Stt) (a : A) (cs : List Str) : Option Bool :=
  match cs with
  | [c] => isiOne G st a c
  | [] => none
  | cs => match a with
    | .d (.exn e []) => istAny G e cs
    | _ => none
/-- flat things, == of such -/
def flatD : D → Bool
  | .non => true
  | .bl _ => true
  | .int _ => true
  | .str _ => true
  | _ => false
def vF : D → V
  | .non => .non
  | .bl b => .bl b
  | .int i => .int i
  | .str x => .str x
  | _ => .non
def eqF (x y : D) : Bool := eqV (vF x) (vF y)
def inA (st : Stt) (a b : A) : Option Bool :=
  match a, seqOf st b with
  | .d x, some ys => if flatD x = true ∧ ys.all flatD = true then some (ys.any fun y => eqF y x) else none
  | _, _ => none
def cmpA (op : CmpOp) (a b : A) (st : Stt) : Option Bool :=
  match op, a, b with
  | .Lt, .d (.int i), .d (.int j) => some (decide (i < j))
  | .LtE, .d (.int i), .d (.int j) => some (decide (i ≤ j))
  | .Gt, .d (.int i), .d (.int j) => some (decide (j < i))
  | .GtE, .d (.int i), .d (.int j) => some (decide (j ≤ i))
  | .Eq, a, b => eqB st a b
  | .NotEq, a, b => (eqB st a b).map not
  | .In, a, b => inA st a b
  | .NotIn, a, b => (inA st a b).map not
  | .Is, .d .non, .d .non => some true
  | .Is, .d (.bl x), .d (.bl y) => some (decide (x = y))
  | .Is, _, .d .non => some false
  | .IsNot, .d .non, .d .non => some false
  | .IsNot, .d (.bl x), .d (.bl y) => some (!decide (x = y))
  | .IsNot, _, .d .non => some true
  | _, _, _ => none
def boolsOf : List D → Option (List Bool)
  | [] => some []
  | .bl b :: r => (boolsOf r).map (b :: ·)
  | _ => none
def intsOf : List D → Option (List Int)
  | [] => some []
  | .int i :: r => (intsOf r).map (i :: ·)
  | _ => none
def bi1 (f : Str) (a : A) (st : Stt) : Option A :=
  if f = "len" then
    match a with
    | .d (.str x) => if lenOk x.length then some (.d (.int x.length)) else none
    | a => (seqOf st a).map fun xs => .d (.int xs.length)
  else if f = "all" then (lstOf st a).bind fun xs => (boolsOf xs).map fun bs => .d (.bl (bs.all id))
  else if f = "any" then (lstOf st a).bind fun xs => (boolsOf xs).map fun bs => .d (.bl (bs.any id))
  else if f = "sum" then (lstOf st a).bind fun xs => (intsOf xs).map fun is => .d (.int is.sum)
  else if f = "abs" then
    match a with
    | .d (.int i) => some (.d (.int (if i < 0 then -i else i)))
    | _ => none
  else if f = "int" then
    match a with
    | .d (.int i) => some (.d (.int i))
    | .d (.bl b) => some (.d (.int (if b = true then 1 else 0)))
    | _ => none
  else if f = "str" then
    match a with
    | .d (.int i) => if i.natAbs.log2 < 1920 then some (.d (.str (toString i))) else none
    | _ => none
  else if f = "list" then (seqOf st a).map .l
  else if f = "tuple" then (seqOf st a).map fun xs => .d (.tup xs)
  else if f = "sorted" then (lstOf st a).bind fun xs => (intsOf xs).map fun is => .l ((is.mergeSort (fun a b => decide (a ≤ b))).map .int)
  else none
def bi2 (f : Str) (a b : A) (st : Stt) : Option A :=
  if f = "max" then
    match a, b with
    | .d (.int i), .d (.int j) => some (.d (.int (if j > i then j else i)))
    | _, _ => none
  else if f = "min" then
    match a, b with
    | .d (.int i), .d (.int j) => some (.d (.int (if j < i then j else i)))
    | _, _ => none
  else none
def biA (f : Str) (as : List A) (st : Stt) : Rs A :=
  match as with
  | [a] => ofO (bi1 f a st) st
  | [a, b] => ofO (bi2 f a b st) st
  | _ => .bad
def mtab : List (Str × (String × String)) := [("append", ("list", "list.append")), ("pop", ("list", "list.pop")), ("extend", ("list", "list.extend")), ("insert", ("list", "list.insert")), ("count", ("list", "list.count")), ("index", ("list", "list.index"))]
/-- may the method be asked of it -/
def rcv (m : Str) (x : A) (st : Stt) : Bool :=
  match mtab.lookup m with
  | some (T, _) => if T = "list" then (lstOf st x).isSome else false
  | none => false
/-- a method of a list -/
def mtA (m : Str) (o : A) (as : List A) (st : Stt) : Rs A :=
  if m = "append" then
    match o, as with
    | .d (.loc l), [a] => (allocA a st).bind fun y st => match stLst st l with
      | some xs => if lenOk xs.length then .ok (.d .non) (st.set l (.lst (xs ++ [y]))) else .bad
      | none => .bad
    | _, _ => .bad
  else if m = "pop" then
    match o, as with
    | .d (.loc l), [] => match stLst st l with
      | some xs => match xs[xs.length - 1]? with
        | some y => .ok (.d y) (st.set l (.lst xs.dropLast))
        | none => .bad
      | none => .bad
    | .d (.loc l), [.d (.int i)] => match stLst st l with
      | some xs => if -(2 ^ 62) ≤ i ∧ i < 2 ^ 62 then match seqIndex? i xs.length with
        | some k => match xs[k]? with
          | some y => .ok (.d y) (st.set l (.lst (xs.eraseIdx k)))
          | none => .bad
        | none => .bad else .bad
      | none => .bad
    | _, _ => .bad
  else if m = "extend" then
    match o, as with
    | .d (.loc l), [a] => match stLst st l, lstM st a with
      | some xs, some zs => if lenOk (xs.length + zs.length) then .ok (.d .non) (st.set l (.lst (xs ++ zs))) else .bad
      | _, _ => .bad
    | _, _ => .bad
  else if m = "insert" then
    match o, as with
    | .d (.loc l), [.d (.int i), .d y] => match stLst st l with
      | some xs => if lenOk xs.length ∧ 0 ≤ i ∧ i < 2 ^ 62 then .ok (.d .non) (st.set l (.lst (xs.take i.toNat ++ [y] ++ xs.drop i.toNat))) else .bad
      | none => .bad
    | _, _ => .bad
  else if m = "count" then
    match lstOf st o, as with
    | some xs, [.d y] => if flatD y = true ∧ xs.all flatD = true then .ok (.d (.int (xs.countP fun z => eqF z y : Nat))) st else .bad
    | _, _ => .bad
  else if m = "index" then
    match lstOf st o, as with
    | some xs, [.d y] => if flatD y = true ∧ xs.all flatD = true then match xs.findIdx? (fun z => eqF z y) with
      | some j => .ok (.d (.int (j : Nat))) st
      | none => .bad else .bad
    | _, _ => .bad
  else .bad
def ixA (a i : A) (st : Stt) : Option A :=
  match i with
  | .d (.int k) => match seqOf st a with
    | some xs => (atI xs k).map .d
    | none => match a with
      | .d (.str x) => if lenOk x.length then (atI x.cps.toList k).map fun c => .d (.str ⟨#[c]⟩) else none
      | _ => none
  | _ => none
def cutD (xs : List D) (lo hi : Option Int) : List D := (xs.drop (HT.sIx xs.length 0 lo)).take (HT.sIx xs.length xs.length hi - HT.sIx xs.length 0 lo)
def slA (a : A) (lo hi : Option Int) (st : Stt) : Option A :=
  match tupOf a with
  | some xs => some (.d (.tup (cutD xs lo hi)))
  | none => (lstOf st a).map fun xs => .l (cutD xs lo hi)
def partA (a : A) : Option (Option Int) :=
  match a with
  | .d (.int i) => some (some i)
  | _ => none

/-! ### what is walked -/
structure Its where
  xs : List D
  live : List (Nat × List D) := []
def srcA (st : Stt) (a : A) : Option Its :=
  match a with
  | .d (.loc l) => (stLst st l).map fun xs => ⟨xs, [(l, xs)]⟩
  | a => (seqOf st a).map fun xs => ⟨xs, []⟩
def liveOk (st : Stt) (ls : List (Nat × List D)) : Bool := ls.all fun p => match stLst st p.1 with
  | some zs => sames zs p.2
  | none => false
def rngOk (i : Int) : Bool := decide (-(2 ^ 62) ≤ i ∧ i < 2 ^ 62)
def rgOk (a b : Int) : Bool := decide (-(2 ^ 62) ≤ a ∧ a < 2 ^ 62 ∧ -(2 ^ 62) ≤ b ∧ b < 2 ^ 62 ∧ (b - a).toNat ≤ 1000000)
/-- how many unlike ones -/
def ndist : List Int → Nat
  | [] => 0
  | x :: r => if x ∈ r then ndist r else ndist r + 1
def rngI (i : Int) (n : Nat) : List D := (List.range n).map fun k => .int (i + (k : Nat))
def enumI (k : Nat) : List D → List D
  | [] => []
  | x :: r => .tup [.int k, x] :: enumI (k + 1) r

/-! ### targets -/
mutual
def asgD : Tg → D → Env → Option Env
  | .nm i, x, e => if i < e.length then some (e.set i (some x)) else none
  | .tup ts, x, e => match x with
    | .tup xs => asgDs ts xs e
    | _ => none
def asgDs : Tgs → List D → Env → Option Env
  | .nil, [], e => some e
  | .cons t r, x :: xs, e => (asgD t x e).bind (asgDs r xs)
  | _, _, _ => none
end
def asgA (t : Tg) (a : A) (e : Env) (st : Stt) : Rs Env :=
  match t with
  | .nm i => (allocA a st).bind fun x st => ofO (asgD (.nm i) x e) st
  | .tup ts => match seqOf st a with
    | some xs => ofO (asgDs ts xs e) st
    | none => .bad

/-! ### the runs -/
def wipeE (e : Env) : List Nat → Env
  | [] => e
  | i :: r => (wipeE e r).set i none
mutual
/-- the slots that a target stores -/
def slots : Tg → List Nat
  | .nm i => [i]
  | .tup ts => slotss ts
def slotss : Tgs → List Nat
  | .nil => []
  | .cons t r => slots t ++ slotss r
end
def lcGo (live : List (Nat × List D)) (step : D → Stt → Rs (Option D)) : List D → Stt → Rs (List D)
  | [], st => if liveOk st live = true then .ok [] st else .bad
  | x :: r, st => if liveOk st live = true then
      match step x st with
      | .ok y st => match lcGo live step r st with
        | .ok ys st => .ok (match y with
          | some z => z :: ys
          | none => ys) st
        | _ => .bad
      | _ => .bad
    else .bad
mutual
def evA (G : Gam) (env : Env) : Ex → Stt → Rs A
  | .v i, st => match env[i]? with
    | some (some x) => .ok (.d x) st
    | _ => .bad
  | .c x, st => .ok (.d x) st
  | .g x, st => match G.gc x with
    | some d => .ok (.d d) st
    | none => if (G.fn x).isSome = true then .ok (.d (.obj x)) st else .bad
  | .bin op a b, st => (evA G env a st).bind fun x st => (evA G env b st).bind fun y st => binA op x y st
  | .neg a, st => (evA G env a st).bind fun x st => match x with
    | .d (.int i) => .ok (.d (.int (-i))) st
    | _ => .bad
  | .nt a, st => (evA G env a st).bind fun x st => (truA x st).bind fun b st => .ok (.d (.bl (!b))) st
  | .and es, st => evAnd G env es st
  | .or es, st => evOr G env es st
  | .cmp a op b, st => (evA G env a st).bind fun x st => (evA G env b st).bind fun y st => ofO ((cmpA op x y st).map fun r => .d (.bl r)) st
  | .cmp2 a op b op2 c, st => (evA G env a st).bind fun x st => (evA G env b st).bind fun y st => (ofO (cmpA op x y st) st).bind fun r st =>
    if r = true then (evA G env c st).bind fun z st => ofO ((cmpA op2 y z st).map fun r => .d (.bl r)) st else .ok (.d (.bl false)) st
  | .call f es, st => match G.fn f with
    | some F => (evEs G env es st).bind fun xs st => (F xs st).bind fun y st => .ok (.d y) st
    | none => .bad
  | .callv i es, st => match env[i]? with
    | some (some (.obj f)) => match G.fn f with
      | some F => (evEs G env es st).bind fun xs st => (F xs st).bind fun y st => .ok (.d y) st
      | none => .bad
    | _ => .bad
  | .bi f es, st => (evAs G env es st).bind fun xs st => biA f xs st
  | .mt m o es, st => (evA G env o st).bind fun x st => if rcv m x st = true then (evAs G env es st).bind fun ys st => mtA m x ys st else .bad
  | .isi a cs, st => (evA G env a st).bind fun x st => ofO ((isiA G st x cs).map fun r => .d (.bl r)) st
  | .ix a i, st => (evA G env a st).bind fun x st => (evA G env i st).bind fun y st => ofO (ixA x y st) st
  | .sl a lo hi, st => (evA G env a st).bind fun x st => (evO G env lo st).bind fun l st => (evO G env hi st).bind fun h st => ofO (slA x l h st) st
  | .tup es, st => (evEs G env es st).bind fun xs st => if lenOk xs.length = true then .ok (.d (.tup xs)) st else .bad
  | .lst es, st => (evEs G env es st).bind fun xs st => if lenOk xs.length = true then .ok (.l xs) st else .bad
  | .rev a, st => (evA G env a st).bind fun x st => match tupOf x with
    | some xs => .ok (.d (.tup xs.reverse)) st
    | none => match lstOf st x with
      | some xs => .ok (.l xs.reverse) st
      | none => .bad
  | .cmp3 a op b op2 c op3 d, st => (evA G env a st).bind fun x st => (evA G env b st).bind fun y st => (ofO (cmpA op x y st) st).bind fun r st =>
    if r = true then (evA G env c st).bind fun z st => (ofO (cmpA op2 y z st) st).bind fun r st =>
      if r = true then (evA G env d st).bind fun u st => ofO ((cmpA op3 z u st).map fun r => .d (.bl r)) st else .ok (.d (.bl false)) st
    else .ok (.d (.bl false)) st
  | .nset a, st => (evA G env a st).bind fun x st => ofO ((seqOf st x).bind fun xs => (intsOf xs).bind fun is => if is.length ≤ 1000 then some (.d (.int (ndist is))) else none) st
  | .rgl t a b, st => (evA G env a st).bind fun x st => (evO G env b st).bind fun y st => match x with
    | .d (.int i) => match y with
      | none => if rgOk 0 i = true then .ok (if t = true then .d (.tup (rngI 0 i.toNat)) else .l (rngI 0 i.toNat)) st else .bad
      | some j => if rgOk i j = true then .ok (if t = true then .d (.tup (rngI i (j - i).toNat)) else .l (rngI i (j - i).toNat)) st else .bad
    | _ => .bad
  | .dic1 k d, st => .ok (.d (.loc st.length)) (st ++ [.dic [(Sum.inl k, d)]])
  | .dict0, st => .ok (.d (.loc st.length)) (st ++ [.dic []])
  | .lc elt t it ifs own, st => (evIt G env it st).bind fun I st =>
    (lcGo I.live (fun x st => (ofO (asgD t x (wipeE env own)) st).bind fun e2 st =>
      (match ifs with
        | .no => .ok true st
        | .so c => (evA G e2 c st).bind truA : Rs Bool).bind fun b st => if b = true then (evA G e2 elt st).bind fun y st => (allocA y st).bind fun z st => .ok (some z) st else .ok none st) I.xs st).bind fun ys st => if lenOk I.xs.length = true then .ok (.l ys) st else .bad
  | .ife t a b, st => (evA G env t st).bind fun x st => (truA x st).bind fun r st => if r = true then evA G env a st else evA G env b st
def evAnd (G : Gam) (env : Env) : Es → Stt → Rs A
  | .nil, _ => .bad
  | .cons a r, st => match r with
    | .nil => evA G env a st
    | .cons _ _ => (evA G env a st).bind fun x st => (truA x st).bind fun t st => if t = true then evAnd G env r st else .ok x st
def evOr (G : Gam) (env : Env) : Es → Stt → Rs A
  | .nil, _ => .bad
  | .cons a r, st => match r with
    | .nil => evA G env a st
    | .cons _ _ => (evA G env a st).bind fun x st => (truA x st).bind fun t st => if t = true then .ok x st else evOr G env r st
def evEs (G : Gam) (env : Env) : Es → Stt → Rs (List D)
  | .nil, st => .ok [] st
  | .cons a r, st => (evA G env a st).bind fun x st => (allocA x st).bind fun y st => (evEs G env r st).bind fun ys st => .ok (y :: ys) st
def evAs (G : Gam) (env : Env) : Es → Stt → Rs (List A)
  | .nil, st => .ok [] st
  | .cons a r, st => (evA G env a st).bind fun x st => (evAs G env r st).bind fun ys st => .ok (x :: ys) st
def evO (G : Gam) (env : Env) : Eo → Stt → Rs (Option Int)
  | .no, st => .ok none st
  | .so e, st => (evA G env e st).bind fun x st => ofO (partA x) st
def evIt (G : Gam) (env : Env) : It → Stt → Rs Its
  | .val a, st => (evA G env a st).bind fun x st => ofO (srcA st x) st
  | .rng a, st => (evA G env a st).bind fun x st => match x with
    | .d (.int n) => if rngOk n = true then .ok ⟨rngI 0 n.toNat, []⟩ st else .bad
    | _ => .bad
  | .rng2 a b, st => (evA G env a st).bind fun x st => (evA G env b st).bind fun y st => match x, y with
    | .d (.int i), .d (.int j) => if rngOk i = true ∧ rngOk j = true then .ok ⟨rngI i (j - i).toNat, []⟩ st else .bad
    | _, _ => .bad
  | .zip a b, st => (evA G env a st).bind fun x st => (evA G env b st).bind fun y st => match srcA st x, srcA st y with
    | some I, some J => if (tupOf x).isSome = (tupOf y).isSome then .ok ⟨List.zipWith (fun u w => .tup [u, w]) I.xs J.xs, I.live ++ J.live⟩ st else .bad
    | _, _ => .bad
  | .enum a, st => (evA G env a st).bind fun x st => match srcA st x with
    | some I => .ok ⟨enumI 0 I.xs, I.live⟩ st
    | none => .bad
end
def evE (G : Gam) (env : Env) (e : Ex) (st : Stt) : Rs D := (evA G env e st).bind allocA
def tst (G : Gam) (env : Env) (e : Ex) (st : Stt) : Rs Bool := (evA G env e st).bind truA

def forGo (live : List (Nat × List D)) (tg : Tg) (body : Env → Stt → Rf) : List D → Env → Stt → Rf
  | [], e, st => if liveOk st live = true then .ok .nx e st else .bad
  | x :: r, e, st => if liveOk st live = true then
      match asgD tg x e with
      | some e => match body e st with
        | .ok .nx e st => forGo live tg body r e st
        | .ok .ct e st => forGo live tg body r e st
        | .ok .bk e st => .ok .nx e st
        | r => r
      | none => .bad
    else .bad
def whlN (t : Env → Stt → Rs Bool) (body : Env → Stt → Rf) : Nat → Env → Stt → Option Rf
  | 0, _, _ => none
  | n + 1, e, st => match t e st with
    | .ok true st => match body e st with
      | .ok .nx e st => whlN t body n e st
      | .ok .ct e st => whlN t body n e st
      | .ok .bk e st => some (.ok .nx e st)
      | r => some r
    | .ok false st => some (.ok .nx e st)
    | .exc c fs st => some (.exc c fs e st)
    | .bad => some .bad
open Classical in
noncomputable def whl (t : Env → Stt → Rs Bool) (body : Env → Stt → Rf) (e : Env) (st : Stt) : Rf :=
  if h : ∃ n, (whlN t body n e st).isSome = true then (whlN t body (Classical.choose h) e st).getD .bad else .bad
mutual
noncomputable def evS (G : Gam) : Sx → Env → Stt → Rf
  | .asg t x, e, st => (evA G e x st).then e fun a st => match asgA t a e st with
    | .ok e st => .ok .nx e st
    | _ => .bad
  | .st o i x, e, st => (evE G e x st).then e fun y st => (evA G e o st).then e fun a st => (evA G e i st).then e fun k st => match a, k with
    | .d (.loc l), .d (.int k) => match stLst st l with
      | some xs => match ixN xs.length k with
        | some j => .ok .nx e (st.set l (.lst (xs.set j y)))
        | none => .bad
      | none => .bad
    | _, _ => .bad
  | .ret x, e, st => (evE G e x st).then e fun d st => .ok (.rt d) e st
  | .ret0, e, st => .ok (.rt .non) e st
  | .ex x, e, st => (evA G e x st).then e fun _ st => .ok .nx e st
  | .ife t a b, e, st => (tst G e t st).then e fun r st => if r = true then evSs G a e st else evSs G b e st
  | .for t it b, e, st => (evIt G e it st).then e fun I st => forGo I.live t (fun e st => evSs G b e st) I.xs e st
  | .whl t b, e, st => whl (fun e st => tst G e t st) (fun e st => evSs G b e st) e st
  | .brk, e, st => .ok .bk e st
  | .cont, e, st => .ok .ct e st
  | .pass, e, st => .ok .nx e st
  | .raise c es, e, st => if G.xc c = true then (evEs G e es st).then e fun xs st => .exc c xs e st else .bad
  | .try b c i h, e, st => match evSs G b e st with
    | .exc c' fs e' st' => match G.sub c' c with
      | some true => match evSs G h (e'.set i (some (.exn c' fs))) st' with
        | .ok .nx e2 s2 => .ok .nx (e2.set i none) s2
        | .ok (.rt d) e2 s2 => .ok (.rt d) e2 s2
        | _ => .bad
      | some false => .exc c' fs e' st'
      | none => .bad
    | r => r
  | .nev, _, _ => .bad
noncomputable def evSs (G : Gam) : Ss → Env → Stt → Rf
  | .nil, e, st => .ok .nx e st
  | .cons s r, e, st => (evS G s e st).then fun e st => evSs G r e st
end
/-- a def's body, from its arguments -/
noncomputable def evF (G : Gam) (m n : Nat) (b : Ss) (xs : List D) (st : Stt) : Rs D :=
  if xs.length = m then
    match evSs G b (xs.map some ++ List.replicate (n - xs.length) none) st with
    | .ok .nx _ st => .ok .non st
    | .ok (.rt d) _ st => .ok d st
    | .exc c fs _ st => .exc c fs st
    | _ => .bad
  else .bad
end Ev

namespace Ev
open PySem PySem.Spec PyProof.Rows L2

/-! ### how data stands in a heap -/
def SqR (K : PySem.W.Frag) (H : Hp) (a : Addr) (xs : List V) : Prop :=
  (∃ o, H a = some (.frz o (.lst xs))) ∨
    ∃ (o : Obj) (its : Array Value) (n : Nat), K.lookup a = some o ∧ o.cls = .type "list" ∧ o.dict = none ∧ o.data = .seq its n ∧ its.size ≤ sizeLine ∧ Vals xs its.toList
theorem SqR.l {K : PySem.W.Frag} {H : Hp} {a : Addr} {xs : List V} (h : SqR K H a xs) : SqL K H a xs := by
  rcases h with h | h
  · exact .inl (.inr h)
  · exact .inr h
/-- an exception that was caught: its class and its dict -/
def XoP (a : Addr) (cls : Value) (d : Option Addr) : Heap → Prop := fun h => ∃ oe vs, h.get? a = some oe ∧ Zc cls d oe ∧ oe.data = .fields vs
section
variable (K : PySem.W.Frag) (mg : Str → Option Value)
mutual
inductive RD (H : Hp) (ρ : List Addr) : D → V → Prop
  | non : RD H ρ .non .non
  | bl (b : Bool) : RD H ρ (.bl b) (.bl b)
  | int (i : Int) : RD H ρ (.int i) (.int i)
  | str (x : Str) : RD H ρ (.str x) (.str x)
  | ty (n : String) : RD H ρ (.ty n) (.ty n)
  | tup {a : Addr} {vs : List V} {xs : List D} : SqT K H a vs → RDs H ρ xs vs → RD H ρ (.tup xs) (.ref a)
  | rol {a : Addr} {vs : List V} {xs : List D} : SqR K H a vs → RDs H ρ xs vs → RD H ρ (.rol xs) (.ref a)
  | loc {l : Nat} {a : Addr} : ρ[l]? = some a → RD H ρ (.loc l) (.ref a)
  | obj {x : Str} {a : Addr} : mg x = some (.ref a) → RD H ρ (.obj x) (.ref a)
  | exn0 {c : Str} {C a : Addr} : mg c = some (.ref C) → H a = some (.ext (XoP a (.ref C) none)) → RD H ρ (.exn c []) (.ref a)
  | exn1 {c : Str} {C a dd : Addr} {r : D} {v : V} : mg c = some (.ref C) → H a = some (.ext (XoP a (.ref C) (some dd))) → H dd = some (.xd [(("ring" : Str), v)]) → RD H ρ r v → RD H ρ (.exn c [r]) (.ref a)
inductive RDs (H : Hp) (ρ : List Addr) : List D → List V → Prop
  | nil : RDs H ρ [] []
  | cons {x : D} {v : V} {xs : List D} {vs : List V} : RD H ρ x v → RDs H ρ xs vs → RDs H ρ (x :: xs) (v :: vs)
end
inductive RKs (H : Hp) (ρ : List Addr) {κ : Type} : List (κ × D) → List (κ × V) → Prop
  | nil : RKs H ρ [] []
  | cons {k : κ} {x : D} {v : V} {xs : List (κ × D)} {vs : List (κ × V)} : RD K mg H ρ x v → RKs H ρ xs vs → RKs H ρ ((k, x) :: xs) ((k, v) :: vs)
inductive RO (H : Hp) (ρ : List Addr) : Ob → Addr → Prop
  | lst {a : Addr} {xs : List D} {vs : List V} : H a = some (.lst vs) → RDs K mg H ρ xs vs → RO H ρ (.lst xs) a
  | dic {a : Addr} {kvs : List (Key × D)} {vs : List (Key × V)} : H a = some (.dK vs) → RKs K mg H ρ kvs vs → RO H ρ (.dic kvs) a
  | ins {a C dx : Addr} {c : Str} {fs : List (Str × D)} {vs : List (Str × V)} : mg c = some (.ref C) → H a = some (.ins C dx vs) → RKs K mg H ρ fs vs → RO H ρ (.ins c fs) a
structure RS (H : Hp) (ρ : List Addr) (st : Stt) : Prop where
  len : ρ.length = st.length
  nd : ρ.Nodup
  at' : ∀ (l : Nat) (a : Addr) (o : Ob), ρ[l]? = some a → st[l]? = some o → RO K mg H ρ o a
end
/-- what never changes -/
def Imm : HO → Prop
  | .tup _ => True
  | .frz _ _ => True
  | .ext _ => True
  | .xd _ => True
  | _ => False
structure Ext (ρ : List Addr) (H : Hp) (ρ' : List Addr) (H' : Hp) : Prop where
  pre : ∃ r, ρ' = ρ ++ r
  new : ∀ a ∈ ρ', a ∈ ρ ∨ H a = none
  out : ∀ a o, H a = some o → a ∉ ρ → H' a = some o
  imm : ∀ a o, H a = some o → Imm o → H' a = some o
  kept : ∀ a, H' a = none → H a = none
section
variable {K : PySem.W.Frag} {mg : Str → Option Value} {ρ ρ' ρ1 ρ2 : List Addr} {H H' H1 H2 : Hp} {a : Addr} {st : Stt}
theorem Ext.refl (ρ : List Addr) (H : Hp) : Ext ρ H ρ H := ⟨⟨[], by simp⟩, fun _ h => .inl h, fun _ _ h _ => h, fun _ _ h _ => h, fun _ h => h⟩
theorem Ext.trans (e : Ext ρ H ρ1 H1) (f : Ext ρ1 H1 ρ2 H2) : Ext ρ H ρ2 H2 where
  pre := by
    obtain ⟨r, rfl⟩ := e.pre
    obtain ⟨q, rfl⟩ := f.pre
    exact ⟨r ++ q, by simp⟩
  new := fun a h => by
    rcases f.new a h with h | h
    · exact e.new a h
    · exact .inr (e.kept a h)
  out := fun a o h n => f.out a o (e.out a o h n) fun m => by
    rcases e.new a m with q | q
    · exact n q
    · rw [h] at q; cases q
  imm := fun a o h i => f.imm a o (e.imm a o h i) i
  kept := fun a h => e.kept a (f.kept a h)
theorem Ext.get (e : Ext ρ H ρ' H') {l : Nat} (h : ρ[l]? = some a) : ρ'[l]? = some a := by
  obtain ⟨r, rfl⟩ := e.pre
  rw [List.getElem?_append_left (List.getElem?_eq_some_iff.mp h).1]
  exact h
theorem Ext.rd (e : Ext ρ H ρ' H') {u : HO} (h : Rd H a u) (hi : Imm u) : Rd H' a u := by
  rcases h with h | ⟨o, h⟩
  · exact .inl (e.imm a _ h hi)
  · exact .inr ⟨o, e.imm a _ h trivial⟩
theorem Ext.sqT (e : Ext ρ H ρ' H') {xs : List V} (h : SqT K H a xs) : SqT K H' a xs := by
  rcases h with h | h
  · exact .inl (e.rd h trivial)
  · exact .inr h
theorem Ext.sqR (e : Ext ρ H ρ' H') {xs : List V} (h : SqR K H a xs) : SqR K H' a xs := by
  rcases h with ⟨o, h⟩ | h
  · exact .inl ⟨o, e.imm a _ h trivial⟩
  · exact .inr h
mutual
theorem RD.mono (e : Ext ρ H ρ' H') : ∀ {x : D} {v : V}, RD K mg H ρ x v → RD K mg H' ρ' x v
  | _, _, .non => .non
  | _, _, .bl b => .bl b
  | _, _, .int i => .int i
  | _, _, .str x => .str x
  | _, _, .ty n => .ty n
  | _, _, .tup h t => .tup (e.sqT h) (RDs.mono e t)
  | _, _, .rol h t => .rol (e.sqR h) (RDs.mono e t)
  | _, _, .loc h => .loc (e.get h)
  | _, _, .obj h => .obj h
  | _, _, .exn0 h1 h2 => .exn0 h1 (e.imm _ _ h2 trivial)
  | _, _, .exn1 h1 h2 h3 h4 => .exn1 h1 (e.imm _ _ h2 trivial) (e.imm _ _ h3 trivial) (RD.mono e h4)
theorem RDs.mono (e : Ext ρ H ρ' H') : ∀ {xs : List D} {vs : List V}, RDs K mg H ρ xs vs → RDs K mg H' ρ' xs vs
  | _, _, .nil => .nil
  | _, _, .cons h t => .cons (RD.mono e h) (RDs.mono e t)
end
theorem RKs.mono (e : Ext ρ H ρ' H') {κ : Type} {xs : List (κ × D)} {vs : List (κ × V)} (h : RKs K mg H ρ xs vs) : RKs K mg H' ρ' xs vs := by
  induction h with
  | nil => exact .nil
  | cons h _ ih => exact .cons (h.mono e) ih
theorem RDs.length {xs : List D} {vs : List V} (h : RDs K mg H ρ xs vs) : xs.length = vs.length := by
  induction xs generalizing vs with
  | nil => cases h; rfl
  | cons x xs ih => cases h with
    | cons _ t => simp [ih t]
theorem RDs.get {xs : List D} {vs : List V} (h : RDs K mg H ρ xs vs) {i : Nat} {x : D} (hx : xs[i]? = some x) : ∃ v, vs[i]? = some v ∧ RD K mg H ρ x v := by
  induction xs generalizing vs i with
  | nil => simp at hx
  | cons y ys ih => cases h with
    | cons a t =>
      cases i with
      | zero => simp at hx; subst hx; exact ⟨_, rfl, a⟩
      | succ i => exact ih t (by simpa using hx)
theorem RDs.append {xs ys : List D} {vs ws : List V} (h : RDs K mg H ρ xs vs) (g : RDs K mg H ρ ys ws) : RDs K mg H ρ (xs ++ ys) (vs ++ ws) := by
  induction xs generalizing vs with
  | nil => cases h; exact g
  | cons x xs ih => cases h with
    | cons a t => exact .cons a (ih t)
theorem RDs.set {xs : List D} {vs : List V} {x : D} {v : V} (h : RDs K mg H ρ xs vs) (r : RD K mg H ρ x v) : ∀ i, RDs K mg H ρ (xs.set i x) (vs.set i v) := by
  induction xs generalizing vs with
  | nil => cases h; intro i; exact .nil
  | cons y ys ih => cases h with
    | cons a t =>
      intro i
      cases i with
      | zero => exact .cons r t
      | succ i => exact .cons a (ih t i)
theorem RDs.reverse {xs : List D} {vs : List V} (h : RDs K mg H ρ xs vs) : RDs K mg H ρ xs.reverse vs.reverse := by
  induction xs generalizing vs with
  | nil => cases h; exact .nil
  | cons x xs ih => cases h with
    | cons a t => rw [List.reverse_cons, List.reverse_cons]; exact (ih t).append (.cons a .nil)
theorem RDs.eraseIdx {xs : List D} {vs : List V} (h : RDs K mg H ρ xs vs) : ∀ i, RDs K mg H ρ (xs.eraseIdx i) (vs.eraseIdx i) := by
  induction xs generalizing vs with
  | nil => cases h; intro i; exact .nil
  | cons x xs ih => cases h with
    | cons a t =>
      intro i
      cases i with
      | zero => exact t
      | succ i => exact .cons a (ih t i)
theorem RDs.take {xs : List D} {vs : List V} (h : RDs K mg H ρ xs vs) : ∀ n, RDs K mg H ρ (xs.take n) (vs.take n) := by
  induction xs generalizing vs with
  | nil => cases h; intro n; simpa using RDs.nil
  | cons y ys ih => cases h with
    | cons a t =>
      intro n
      cases n with
      | zero => exact .nil
      | succ n => exact .cons a (ih t n)
theorem RDs.drop {xs : List D} {vs : List V} (h : RDs K mg H ρ xs vs) : ∀ n, RDs K mg H ρ (xs.drop n) (vs.drop n) := by
  induction xs generalizing vs with
  | nil => cases h; intro n; simpa using RDs.nil
  | cons y ys ih => cases h with
    | cons a t =>
      intro n
      cases n with
      | zero => exact .cons a t
      | succ n => exact ih t n
theorem RDs.flat {xs : List D} {vs : List V} (h : RDs K mg H ρ xs vs) : ∀ n, RDs K mg H ρ (List.replicate n xs).flatten (List.replicate n vs).flatten := by
  intro n
  induction n with
  | zero => exact .nil
  | succ n ih => rw [List.replicate_succ, List.replicate_succ, List.flatten_cons, List.flatten_cons]; exact h.append ih
theorem RDs.pull {xs : List D} {vs : List V} (h : RDs K mg H ρ xs vs) {i : Nat} {v : V} (hx : vs[i]? = some v) : ∃ x, xs[i]? = some x ∧ RD K mg H ρ x v := by
  induction xs generalizing vs i with
  | nil => cases h; simp at hx
  | cons y ys ih => cases h with
    | cons a t =>
      cases i with
      | zero => simp at hx; subst hx; exact ⟨_, rfl, a⟩
      | succ i => exact ih t (by simpa using hx)

/-- what a list's place knows -/
theorem RS.lst (s : RS K mg H ρ st) {l : Nat} {xs : List D} (h : ρ[l]? = some a) (hl : stLst st l = some xs) : ∃ vs, H a = some (.lst vs) ∧ RDs K mg H ρ xs vs := by
  unfold stLst at hl
  split at hl
  · rename_i ys e
    cases hl
    cases s.at' l a _ h e with
    | lst h1 h2 => exact ⟨_, h1, h2⟩
  · cases hl
theorem RS.there (s : RS K mg H ρ st) (h : a ∈ ρ) : ∃ o, H a = some o ∧ ¬ Imm o := by
  obtain ⟨l, hl, e⟩ := List.mem_iff_getElem.mp h
  have hl' : l < st.length := by rw [← s.len]; exact hl
  have this := s.at' l a st[l] (by rw [List.getElem?_eq_getElem hl, e]) (List.getElem?_eq_getElem hl')
  generalize st[l] = ob at this
  cases this with
  | lst h1 _ => exact ⟨_, h1, fun z => z⟩
  | dic h1 _ => exact ⟨_, h1, fun z => z⟩
  | ins _ h1 _ => exact ⟨_, h1, fun z => z⟩
theorem RS.fresh (s : RS K mg H ρ st) (h : H a = none) : a ∉ ρ := fun m => by
  obtain ⟨o, e, _⟩ := s.there m
  rw [h] at e; cases e
theorem RO.mono (e : Ext ρ H ρ' H') {o : Ob} (h : RO K mg H ρ o a) (k : H' a = H a) : RO K mg H' ρ' o a := by
  cases h with
  | lst h1 h2 => exact .lst (k.trans h1) (h2.mono e)
  | dic h1 h2 => exact .dic (k.trans h1) (h2.mono e)
  | ins h0 h1 h2 => exact .ins h0 (k.trans h1) (h2.mono e)
/-- a new object that nobody names -/
theorem Ext.fresh {p : Addr} {o : HO} (h : H p = none) : Ext ρ H ρ (upd H p o) where
  pre := ⟨[], by simp⟩
  new := fun _ h => .inl h
  out := fun a u q _ => by rw [upd_ne (ne_of_none q h)]; exact q
  imm := fun a u q _ => by rw [upd_ne (ne_of_none q h)]; exact q
  kept := fun a q => by
    by_cases e : a = p
    · rw [e]; exact h
    · rw [upd_ne e] at q; exact q
theorem RS.grow (s : RS K mg H ρ st) {p : Addr} {o : HO} (h : H p = none) : RS K mg (upd H p o) ρ st :=
  ⟨s.len, s.nd, fun l a u h1 h2 => (s.at' l a u h1 h2).mono (Ext.fresh h) (by
    obtain ⟨w, e, _⟩ := s.there (List.mem_of_getElem? h1)
    rw [upd_ne (ne_of_none e h)])⟩
/-- nothing of ours has changed -/
theorem RS.same (s : RS K mg H ρ st) (e : Ext ρ H ρ H') (k : ∀ a ∈ ρ, H' a = H a) : RS K mg H' ρ st :=
  ⟨s.len, s.nd, fun l a u h1 h2 => (s.at' l a u h1 h2).mono e (k a (List.mem_of_getElem? h1))⟩
/-- a list gets a name -/
theorem Ext.name (e : Ext ρ H ρ' H') {p : Addr} (h : H p = none) : Ext ρ H (ρ' ++ [p]) H' where
  pre := by
    obtain ⟨r, rfl⟩ := e.pre
    exact ⟨r ++ [p], by simp⟩
  new := fun a m => by
    rcases List.mem_append.mp m with m | m
    · exact e.new a m
    · rw [List.mem_singleton.mp m]; exact .inr h
  out := e.out
  imm := e.imm
  kept := e.kept
theorem RD.name {p : Addr} {x : D} {v : V} (h : RD K mg H ρ x v) : RD K mg H (ρ ++ [p]) x v := by
  have go : ∀ l a, ρ[l]? = some a → (ρ ++ [p])[l]? = some a := fun l a q => by
    rw [List.getElem?_append_left (List.getElem?_eq_some_iff.mp q).1]; exact q
  exact (RD.rec (motive_1 := fun x v _ => RD K mg H (ρ ++ [p]) x v) (motive_2 := fun xs vs _ => RDs K mg H (ρ ++ [p]) xs vs)
    .non .bl .int .str .ty (fun h _ t => .tup h t) (fun h _ t => .rol h t) (fun h => .loc (go _ _ h)) .obj .exn0 (fun h1 h2 h3 _ r => .exn1 h1 h2 h3 r) .nil (fun _ _ a b => .cons a b) h)
theorem RDs.name {p : Addr} {xs : List D} {vs : List V} (h : RDs K mg H ρ xs vs) : RDs K mg H (ρ ++ [p]) xs vs := by
  induction xs generalizing vs with
  | nil => cases h; exact .nil
  | cons x xs ih => cases h with
    | cons a t => exact .cons a.name (ih t)
theorem RKs.name {p : Addr} {κ : Type} {xs : List (κ × D)} {vs : List (κ × V)} (h : RKs K mg H ρ xs vs) : RKs K mg H (ρ ++ [p]) xs vs := by
  induction h with
  | nil => exact .nil
  | cons a _ t => exact .cons a.name t
theorem RO.name {p : Addr} {o : Ob} (h : RO K mg H ρ o a) : RO K mg H (ρ ++ [p]) o a := by
  cases h with
  | lst h1 h2 => exact .lst h1 h2.name
  | dic h1 h2 => exact .dic h1 h2.name
  | ins h0 h1 h2 => exact .ins h0 h1 h2.name
theorem RS.name (s : RS K mg H ρ st) {p : Addr} {o : Ob} (n : p ∉ ρ) (h : RO K mg H ρ o p) : RS K mg H (ρ ++ [p]) (st ++ [o]) where
  len := by simp [s.len]
  nd := by
    rw [List.nodup_append]
    refine ⟨s.nd, by simp, fun a ha b hb => ?_⟩
    rw [List.mem_singleton.mp hb]
    rintro rfl
    exact n ha
  at' := fun l a u h1 h2 => by
    by_cases hl : l < ρ.length
    · rw [List.getElem?_append_left hl] at h1
      rw [List.getElem?_append_left (by rw [← s.len]; exact hl)] at h2
      exact (s.at' l a u h1 h2).name
    · have e : l = ρ.length := by
        have := (List.getElem?_eq_some_iff.mp h1).1
        simp at this
        omega
      subst e
      rw [List.getElem?_append_right (Nat.le_refl _)] at h1
      rw [s.len, List.getElem?_append_right (Nat.le_refl _)] at h2
      simp at h1 h2
      subst h1 h2
      exact h.name
theorem RD.last {p : Addr} (s : RS K mg H ρ st) : RD K mg H (ρ ++ [p]) (.loc st.length) (.ref p) := .loc (by rw [← s.len]; simp)
/-- an object of ours is changed -/
theorem Ext.write (s : RS K mg H ρ st) {p : Addr} {u : HO} (m : p ∈ ρ) : Ext ρ H ρ (upd H p u) where
  pre := ⟨[], by simp⟩
  new := fun _ h => .inl h
  out := fun a o h n => by rw [upd_ne (fun e => n (by rw [e]; exact m))]; exact h
  imm := fun a o h i => by
    rw [upd_ne (fun e => ?_)]
    · exact h
    · subst e
      obtain ⟨w, q, k⟩ := s.there m
      rw [h] at q; cases q
      exact k i
  kept := fun a h => by
    by_cases e : a = p
    · rw [e, upd_same] at h; cases h
    · rw [upd_ne e] at h; exact h
theorem RS.write (s : RS K mg H ρ st) {l : Nat} {p : Addr} {u : HO} {o : Ob} (h : ρ[l]? = some p) (hr : RO K mg (upd H p u) ρ o p) : RS K mg (upd H p u) ρ (st.set l o) where
  len := by simp [s.len]
  nd := s.nd
  at' := fun k a w h1 h2 => by
    have hl := (List.getElem?_eq_some_iff.mp h).1
    have m := List.mem_of_getElem? h
    by_cases e : k = l
    · subst e
      rw [h] at h1; cases h1
      rw [List.getElem?_set_self (by rw [← s.len]; exact hl)] at h2
      cases h2
      exact hr
    · rw [List.getElem?_set_ne (Ne.symm e)] at h2
      have ne : a ≠ p := fun q => by
        subst q
        exact e ((List.getElem?_inj (List.getElem?_eq_some_iff.mp h1).1 s.nd).mp (h1.trans h.symm))
      exact (s.at' k a w h1 h2).mono (Ext.write s m) (upd_ne ne)
end
end Ev

namespace Ev
open PySem PySem.Spec PyProof.Rows L2

/-! ### what a run says of the machine -/
section
variable (K : PySem.W.Frag) (mg : Str → Option Value)
inductive RA (H0 H : Hp) (ρ : List Addr) : A → V → Prop
  | d {x : D} {v : V} : RD K mg H ρ x v → RA H0 H ρ (.d x) v
  | l {xs : List D} {a : Addr} {vs : List V} : a ∉ ρ → H0 a = none → H a = some (.lst vs) → RDs K mg H ρ xs vs → RA H0 H ρ (.l xs) (.ref a)
inductive RAs (H0 H : Hp) (ρ : List Addr) : List A → List V → Prop
  | nil : RAs H0 H ρ [] []
  | cons {x : A} {v : V} {xs : List A} {vs : List V} : RA K mg H0 H ρ x v → RAs H0 H ρ xs vs → RAs H0 H ρ (x :: xs) (v :: vs)
def REnv (H : Hp) (ρ : List Addr) (e : Env) (σ : L2.St) : Prop := e.length = σ.length ∧ ∀ (i : Nat) (x : D), e[i]? = some (some x) → ∃ v, σ[i]? = some (some v) ∧ RD K mg H ρ x v
def RX (H : Hp) (ρ : List Addr) (c : Str) (fs : List D) (cls : Value) (d : Option Addr) : Prop :=
  ∃ C, mg c = some (.ref C) ∧ cls = .ref C ∧ match fs with
    | [] => d = none
    | [r] => ∃ dd v, d = some dd ∧ H dd = some (.xd [(("ring" : Str), v)]) ∧ RD K mg H ρ r v
    | _ => False
abbrev Rl (α β : Type) := Hp → Hp → List Addr → α → β → Prop
def KR {α β : Type} (rel : Rl α β) (W : WX) (σ : L2.St) (Q : β → Hp → Prop) (H : Hp) (ρ : List Addr) : Rs α → Prop
  | .ok a st => ∀ b H' ρ', Ext ρ H ρ' H' → RS K mg H' ρ' st → rel H H' ρ' a b → Q b H'
  | .exc c fs st => ∀ cls d H' ρ', Ext ρ H ρ' H' → RS K mg H' ρ' st → RX K mg H' ρ' c fs cls d → W cls d σ H'
  | .bad => False
abbrev rD : Rl D V := fun _ H ρ x v => RD K mg H ρ x v
abbrev rDs : Rl (List D) (List V) := fun _ H ρ x v => RDs K mg H ρ x v
abbrev rEq {α : Type} : Rl α α := fun _ _ _ x v => x = v
def tR {α β : Type} (rel : Rl α β) (m : Env → Stt → Rs α) (W : WX) : L2.St → Hp → (β → Hp → Prop) → Prop := fun σ H Q =>
  ∃ ρ env st, REnv K mg H ρ env σ ∧ RS K mg H ρ st ∧ KR K mg rel W σ Q H ρ (m env st)
end
section
variable {K : PySem.W.Frag} {mg : Str → Option Value} {ρ ρ' ρ1 : List Addr} {H H' H1 H0 : Hp} {σ : L2.St} {W : WX} {α β γ δ : Type} {st st' : Stt} {env : Env}
theorem RA.mono (e : Ext ρ H ρ' H') {x : A} {v : V} (h : RA K mg H0 H ρ x v) : RA K mg H0 H' ρ' x v := by
  cases h with
  | d h => exact .d (h.mono e)
  | l h1 h2 h3 h4 => exact .l (fun m => (e.new _ m).elim h1 fun q => by rw [h3] at q; cases q) h2 (e.out _ _ h3 h1) (h4.mono e)
theorem RA.anti (e : Ext ρ H0 ρ1 H1) {x : A} {v : V} (h : RA K mg H1 H ρ' x v) : RA K mg H0 H ρ' x v := by
  cases h with
  | d h => exact .d h
  | l h1 h2 h3 h4 => exact .l h1 (e.kept _ h2) h3 h4
theorem RAs.mono (e : Ext ρ H ρ' H') {xs : List A} {vs : List V} (h : RAs K mg H0 H ρ xs vs) : RAs K mg H0 H' ρ' xs vs := by
  induction h with
  | nil => exact .nil
  | cons a _ ih => exact .cons (a.mono e) ih
theorem RAs.anti (e : Ext ρ H0 ρ1 H1) {xs : List A} {vs : List V} (h : RAs K mg H1 H ρ' xs vs) : RAs K mg H0 H ρ' xs vs := by
  induction h with
  | nil => exact .nil
  | cons a _ ih => exact .cons (a.anti e) ih
theorem REnv.mono (h : REnv K mg H ρ env σ) (e : Ext ρ H ρ' H') : REnv K mg H' ρ' env σ :=
  ⟨h.1, fun i x q => let ⟨v, a, b⟩ := h.2 i x q; ⟨v, a, b.mono e⟩⟩
theorem REnv.set (h : REnv K mg H ρ env σ) {x : D} {v : V} (r : RD K mg H ρ x v) (i : Nat) : REnv K mg H ρ (env.set i (some x)) (σ.set i (some v)) := by
  refine ⟨by simp [h.1], fun j y q => ?_⟩
  by_cases e : j = i
  · subst e
    have hl : j < env.length := by
      have := (List.getElem?_eq_some_iff.mp q).1
      simpa using this
    rw [List.getElem?_set_self hl] at q
    cases q
    exact ⟨v, List.getElem?_set_self (by rw [← h.1]; exact hl), r⟩
  · rw [List.getElem?_set_ne (Ne.symm e)] at q
    rw [List.getElem?_set_ne (Ne.symm e)]
    exact h.2 j y q
/-- rel looks at the heap ahead only for what was free there -/
def Anti (rel : Rl α β) : Prop := ∀ ρ H ρ1 H1 H' ρ' a b, Ext ρ H ρ1 H1 → rel H1 H' ρ' a b → rel H H' ρ' a b
theorem KR.ext {rel : Rl α β} (hr : Anti rel) {Q : β → Hp → Prop} {m : Rs α} (h : KR K mg rel W σ Q H ρ m) (e : Ext ρ H ρ1 H1) : KR K mg rel W σ Q H1 ρ1 m := by
  cases m with
  | ok a st => exact fun b H' ρ' f s r => h b H' ρ' (e.trans f) s (hr _ _ _ _ _ _ _ _ e r)
  | exc c fs st => exact fun cls d H' ρ' f s r => h cls d H' ρ' (e.trans f) s r
  | bad => exact h
theorem KR.bind {rel : Rl α β} {rel2 : Rl γ δ} {Q : δ → Hp → Prop} {R : β → Hp → Prop} {m : Rs α} {k : α → M γ} (h : KR K mg rel2 W σ Q H ρ (m.bind k))
    (hk : ∀ a st b H1 ρ1, Ext ρ H ρ1 H1 → RS K mg H1 ρ1 st → rel H H1 ρ1 a b → KR K mg rel2 W σ Q H ρ (k a st) → R b H1) : KR K mg rel W σ R H ρ m := by
  cases m with
  | ok a st => exact fun b H' ρ' e s r => hk a st b H' ρ' e s r h
  | exc c fs st => exact h
  | bad => exact h
theorem KR.bindAt {rel : Rl α β} {rel2 : Rl γ δ} {Q : δ → Hp → Prop} {R : β → Hp → Prop} {m : Rs α} {k : α → M γ} (e0 : Ext ρ H ρ1 H1) (h : KR K mg rel2 W σ Q H ρ (m.bind k))
    (hk : ∀ a st b H2 ρ2, Ext ρ1 H1 ρ2 H2 → RS K mg H2 ρ2 st → rel H1 H2 ρ2 a b → KR K mg rel2 W σ Q H ρ (k a st) → R b H2) : KR K mg rel W σ R H1 ρ1 m := by
  cases m with
  | ok a st => exact fun b H' ρ' e s r => hk a st b H' ρ' e s r h
  | exc c fs st => exact fun cls d H' ρ' f s r => h cls d H' ρ' (e0.trans f) s r
  | bad => exact h
theorem KR.imp {rel : Rl α β} {Q R : β → Hp → Prop} {m : Rs α} (h : KR K mg rel W σ Q H ρ m)
    (hk : ∀ a st b H1 ρ1, m = .ok a st → Ext ρ H ρ1 H1 → RS K mg H1 ρ1 st → rel H H1 ρ1 a b → Q b H1 → R b H1) : KR K mg rel W σ R H ρ m := by
  cases m with
  | ok a st => exact fun b H' ρ' e s r => hk a st b H' ρ' rfl e s r (h b H' ρ' e s r)
  | exc c fs st => exact h
  | bad => exact h
theorem anti_A : Anti (RA K mg) := fun _ _ _ _ _ _ _ _ e h => h.anti e
theorem anti_As : Anti (RAs K mg) := fun _ _ _ _ _ _ _ _ e h => h.anti e
theorem anti_D : Anti (rD K mg) := fun _ _ _ _ _ _ _ _ _ h => h
theorem anti_Ds : Anti (rDs K mg) := fun _ _ _ _ _ _ _ _ _ h => h
theorem anti_eq : Anti (rEq (α := α)) := fun _ _ _ _ _ _ _ _ _ h => h
/-! ### endings -/
theorem fin_d {Q : V → Hp → Prop} {x : D} {v : V} (h : KR K mg (RA K mg) W σ Q H ρ (.ok (.d x) st)) (s : RS K mg H ρ st) (r : RD K mg H ρ x v) : Q v H :=
  h v H ρ (Ext.refl _ _) s (.d r)
theorem fin_tup {Q : V → Hp → Prop} {xs : List D} {vs : List V} {p : Addr} (h : KR K mg (RA K mg) W σ Q H ρ (.ok (.d (.tup xs)) st)) (s : RS K mg H ρ st) (r : RDs K mg H ρ xs vs) (hp : H p = none) : Q (.ref p) (upd H p (.tup vs)) :=
  h _ _ ρ (Ext.fresh hp) (s.grow hp) (.d (.tup (SqT.of upd_same) (r.mono (Ext.fresh hp))))
theorem fin_lst {Q : V → Hp → Prop} {xs : List D} {vs : List V} {p : Addr} (h : KR K mg (RA K mg) W σ Q H ρ (.ok (.l xs) st)) (s : RS K mg H ρ st) (r : RDs K mg H ρ xs vs) (hp : H p = none) : Q (.ref p) (upd H p (.lst vs)) :=
  h _ _ ρ (Ext.fresh hp) (s.grow hp) (.l (s.fresh hp) hp upd_same (r.mono (Ext.fresh hp)))
/-- what is a list may be read -/
theorem RA.seqL {a : A} {v : V} {xs : List D} (s : RS K mg H ρ st) (r : RA K mg H0 H ρ a v) (h : lstOf st a = some xs) : ∃ p vs, v = .ref p ∧ SqL K H p vs ∧ RDs K mg H ρ xs vs := by
  cases r with
  | d r =>
    cases r with
    | loc q =>
      obtain ⟨vs, h1, h2⟩ := s.lst q h
      exact ⟨_, vs, rfl, .inl (.inl h1), h2⟩
    | rol q t =>
      cases (Option.some.inj h : _ = xs)
      exact ⟨_, _, rfl, q.l, t⟩
    | _ => cases h
  | l h1 h2 h3 h4 =>
    cases (Option.some.inj h : _ = xs)
    exact ⟨_, _, rfl, .inl (.inl h3), h4⟩
theorem RA.seqT {a : A} {v : V} {xs : List D} (r : RA K mg H0 H ρ a v) (h : tupOf a = some xs) : ∃ p vs, v = .ref p ∧ SqT K H p vs ∧ RDs K mg H ρ xs vs := by
  cases r with
  | d r =>
    cases r with
    | tup q t =>
      cases (Option.some.inj h : _ = xs)
      exact ⟨_, _, rfl, q, t⟩
    | _ => cases h
  | l h1 h2 h3 h4 => cases h
theorem RA.seq {a : A} {v : V} {xs : List D} (s : RS K mg H ρ st) (r : RA K mg H0 H ρ a v) (h : seqOf st a = some xs) : ∃ p vs, v = .ref p ∧ (SqL K H p vs ∨ SqT K H p vs) ∧ RDs K mg H ρ xs vs := by
  unfold seqOf at h
  split at h
  · rename_i ys e
    cases h
    obtain ⟨p, vs, h1, h2, h3⟩ := r.seqT e
    exact ⟨p, vs, h1, .inr h2, h3⟩
  · obtain ⟨p, vs, h1, h2, h3⟩ := r.seqL s h
    exact ⟨p, vs, h1, .inl h2, h3⟩
end

/-! ### the judgements -/
theorem PE.imp {X : Cx} {e : Expr} {t t' : TE} (h : PE X e t) (i : ∀ σ H Q, t' σ H Q → t σ H Q) : PE X e t' := ⟨fun pins s σ H Q I q => h.run pins s σ H Q I (i σ H Q q)⟩
theorem PT.imp {X : Cx} {e : Expr} {t t' : TT} (h : PT X e t) (i : ∀ σ H Q, t' σ H Q → t σ H Q) : PT X e t' := ⟨fun pins s σ H Q I q => h.run pins s σ H Q I (i σ H Q q)⟩
theorem PA.imp {X : Cx} {e : List Expr} {t t' : TA} (h : PA X e t) (i : ∀ σ H Q, t' σ H Q → t σ H Q) : PA X e t' := ⟨fun pos pins s σ H Q I q => h.run pos pins s σ H Q I (i σ H Q q)⟩
theorem PS.imp {X : Cx} {e : Stmt} {t t' : TS} (h : PS X e t) (i : ∀ D σ H, t' D σ H → t D σ H) : PS X e t' := ⟨fun pins s σ H D I q => h.run pins s σ H D I (i D σ H q)⟩
theorem PSs.imp {X : Cx} {e : List Stmt} {t t' : TS} (h : PSs X e t) (i : ∀ D σ H, t' D σ H → t D σ H) : PSs X e t' := ⟨fun pins s σ H D I q => h.run pins s σ H D I (i D σ H q)⟩
def JA (X : Cx) (m : Env → Stt → Rs A) (e : Expr) : Prop := ∀ W, Takes X W → PE X e (tR X.K X.mg (RA X.K X.mg) m W)
def JE (X : Cx) (m : Env → Stt → Rs D) (e : Expr) : Prop := ∀ W, Takes X W → PE X e (tR X.K X.mg (rD X.K X.mg) m W)
def JT (X : Cx) (m : Env → Stt → Rs Bool) (e : Expr) : Prop := ∀ W, Takes X W → PT X e (tR X.K X.mg rEq m W)
def JL (X : Cx) (m : Env → Stt → Rs (List D)) (es : List Expr) : Prop := ∀ W, Takes X W → PA X es (tR X.K X.mg (rDs X.K X.mg) m W)
def JLs (X : Cx) (m : Env → Stt → Rs (List A)) (es : List Expr) : Prop := ∀ W, Takes X W → PA X es (tR X.K X.mg (RAs X.K X.mg) m W)
def JO (X : Cx) (m : Env → Stt → Rs (Option Int)) (e : Option Expr) : Prop := ∀ W, Takes X W → PO X e (tR X.K X.mg rEq m W)

/-! ### operations by all the rules there are -/
def anyOp (X : Cx) (f : Value → Value → Sem Value) : R2 := fun x y H Q => ∃ r, OpR X f r ∧ r x y H Q
theorem op_any {X : Cx} {f : Value → Value → Sem Value} : OpR X f (anyOp X f) := fun pins s σ H x y v u Q I r1 r2 ⟨_, h, q⟩ => h pins s σ H x y v u Q I r1 r2 q
def anyIx (X : Cx) : R2 := fun x y H Q => ∃ r, IxR X r ∧ r x y H Q
theorem ix_any {X : Cx} : IxR X (anyIx X) := fun a b pins s σ H x y v u Q I r1 r2 ⟨_, h, q⟩ e => h a b pins s σ H x y v u Q I r1 r2 q e
def anySl (X : Cx) : V → Option Int → Option Int → Hp → VK → Prop := fun x l h H Q => ∃ r, SlR X r ∧ r x l h H Q
theorem sl_any {X : Cx} : SlR X (anySl X) := fun pins s σ H x v vl vu lo hi sl Q I r1 h1 h2 h3 ⟨_, h, q⟩ => h pins s σ H x v vl vu lo hi sl Q I r1 h1 h2 h3 q
def anyCall (X : Cx) (f : Value) : List V → Hp → VK → Prop := fun xs H Q => ∃ r, CallR X f r ∧ r xs H Q
theorem call_any {X : Cx} {f : Value} : CallR X f (anyCall X f) := fun pins s σ H xs us Q I r1 ⟨_, h, q⟩ => h pins s σ H xs us Q I r1 q
end Ev

namespace Ev
open PySem PySem.Spec PyProof.Rows L2
theorem tuple_mul1 (l : Addr) (items : Array Value) (n : Nat) (dd : Option Addr) (sl : Array (Option Value)) (x : Int) (u : Tok) (c0 : (decide (x < -(2 ^ 63)) || decide (x ≥ 2 ^ 63)) = false) (c1 : (items.isEmpty || x == 1) = true) :
    Meets (Builtin.«tuple.__mul__» ⟨[.ref l, .int x u], []⟩) (fun _ R s => s.heap.get? l = some { cls := .type "tuple", dict := dd, data := .seq items n, slots := sl } ∧
      R (.ok (.ret (Value.ref l))) s) :=
  .of_wp fun prog w A R s h => by
    obtain ⟨hp, g, d, tk, os⟩ := s
    obtain ⟨hl, h⟩ := h
    have f1 := AutoSeq1.idx_int
    wp_walk using wpAny_loadPart' hl
    repeat (first
      | (refine wpAny_ite_false (decide_eq_false (by rw [c0]; exact Bool.false_ne_true)) ?_; wp_walk using wpAny_loadPart' hl)
      | (refine wpAny_ite_true (decide_eq_true c1) ?_; wp_walk using wpAny_loadPart' hl))
    exact ⟨_, rfl, h⟩
theorem tuple_mul0 (l : Addr) (items : Array Value) (n : Nat) (dd : Option Addr) (sl : Array (Option Value)) (x : Int) (u : Tok) (c0 : (decide (x < -(2 ^ 63)) || decide (x ≥ 2 ^ 63)) = false) (c1 : (items.isEmpty || x == 1) = false) (c2 : (decide (x ≤ 0) || items.isEmpty) = true) :
    Meets (Builtin.«tuple.__mul__» ⟨[.ref l, .int x u], []⟩) (fun _ R s => s.heap.get? l = some { cls := .type "tuple", dict := dd, data := .seq items n, slots := sl } ∧
      R (.ok (.ret (Value.ref s.heap.objs.size))) { s with heap := s.heap.push { cls := Value.type "tuple", data := Data.seq #[] }, toks := s.toks }) :=
  .of_wp fun prog w A R s h => by
    obtain ⟨hp, g, d, tk, os⟩ := s
    obtain ⟨hl, h⟩ := h
    have f1 := AutoSeq1.idx_int
    wp_walk using wpAny_loadPart' hl
    repeat (first
      | (refine wpAny_ite_false (decide_eq_false (by rw [c0]; exact Bool.false_ne_true)) ?_; wp_walk using wpAny_loadPart' hl)
      | (refine wpAny_ite_false (decide_eq_false (by rw [c1]; exact Bool.false_ne_true)) ?_; wp_walk using wpAny_loadPart' hl)
      | (refine wpAny_ite_true (decide_eq_true c2) ?_; wp_walk using wpAny_loadPart' hl))
    exact ⟨_, rfl, h⟩
/-- t * k, any k -/
def rRepA (K : PySem.W.Frag) : R2 := fun x y H Q => ∃ l k xs, x = .ref l ∧ y = .int k ∧ SqT K H l xs ∧ -(2 ^ 62) ≤ k ∧ k < 2 ^ 62 ∧ xs.length ≤ 1000000 ∧ xs.length * k.toNat ≤ 1000000 ∧
  ((xs = [] ∨ k = 1) → Q (.ref l) H) ∧ (¬ (xs = [] ∨ k = 1) → ∀ p, H p = none → Q (.ref p) (upd H p (.tup (List.replicate k.toNat xs).flatten)))
section
variable {X : Cx}
theorem op_repA : OpR X (binaryOp .Mult) (rRepA X.K) := by
  intro pins s σ H x y v u Q I rx ry h
  obtain ⟨l, k, xs, rfl, rfl, hT, hk1, hk2, hz, hzz, q0, q1⟩ := h
  cases rx
  obtain ⟨t, rfl⟩ := ry
  obtain ⟨its, r, ⟨⟨cls, dd, data, sl⟩, ho, hc, n, hd⟩, hs⟩ := I.tuple hT
  simp only at hc hd
  subst hc hd
  have hle : its.length = xs.length := r.length.symm
  have he : its.toArray.isEmpty = decide (xs = []) := by
    cases its with
    | nil => cases r; rfl
    | cons a b => cases r with | cons _ _ => rfl
  have hsz0 : its.toArray.size = xs.length := by rw [List.size_toArray, hle]
  have c0 : (decide (k < -(2 ^ 63)) || decide (k ≥ 2 ^ 63)) = false := by
    rw [decide_eq_false (by omega), decide_eq_false (by omega)] <;> rfl
  have fin : ∀ {R : Result → Shared → Prop}, Meets (Builtin.«tuple.__mul__» ⟨[.ref l, .int k t], []⟩) (fun _ R s => s.heap.get? l = some { cls := .type "tuple", dict := dd, data := .seq its.toArray n, slots := sl } ∧ R (.ok (.ret (Value.ref l))) s) → True := fun _ => trivial
  by_cases e1 : xs = [] ∨ k = 1
  · have c1 : (its.toArray.isEmpty || k == 1) = true := by
      rw [he]
      rcases e1 with e | e
      · simp [e]
      · simp [e]
    refine wpAny_binaryOp_repeat_ref (T := "tuple") (U := "int") (by decide) ⟨_, ho, rfl⟩ (fun s' => typeIs_int s' k t) noFill_tuple_mul F.fills_int_mul F.slot_int_rmul repeat_tuple F.slot_int_index.lookup
      (call_meets F.slot_int_rmul (typeIs_int s k t) F.entry_int_rmul (F.args_int_rmul_2 _ _) (int_rmul_tuple k t l its.toArray n dd sl)
        ⟨ho, rfl, ⟨_, ho, rfl⟩, call_meets F.slot_tuple_mul ⟨_, ho, rfl⟩ F.entry_tuple_mul (F.args_tuple_mul_2 _ _) (tuple_mul1 l its.toArray n dd sl k t c0 c1) ⟨ho, ?_⟩⟩)
    exact ⟨.ref l, H, I, rfl, q0 e1⟩
  · have c1 : (its.toArray.isEmpty || k == 1) = false := by
      rw [he]
      have h1 : ¬ xs = [] := fun z => e1 (.inl z)
      have h2 : ¬ k = 1 := fun z => e1 (.inr z)
      simp [h1, h2]
    by_cases e2 : k ≤ 0
    · have c2 : (decide (k ≤ 0) || its.toArray.isEmpty) = true := by simp [e2]
      refine wpAny_binaryOp_repeat_ref (T := "tuple") (U := "int") (by decide) ⟨_, ho, rfl⟩ (fun s' => typeIs_int s' k t) noFill_tuple_mul F.fills_int_mul F.slot_int_rmul repeat_tuple F.slot_int_index.lookup
        (call_meets F.slot_int_rmul (typeIs_int s k t) F.entry_int_rmul (F.args_int_rmul_2 _ _) (int_rmul_tuple k t l its.toArray n dd sl)
          ⟨ho, rfl, ⟨_, ho, rfl⟩, call_meets F.slot_tuple_mul ⟨_, ho, rfl⟩ F.entry_tuple_mul (F.args_tuple_mul_2 _ _) (tuple_mul0 l its.toArray n dd sl k t c0 c1 c2) ⟨ho, ?_⟩⟩)
      have ek : k.toNat = 0 := by omega
      have q := q1 e1 _ (I.hok.fresh (Nat.le_refl _))
      rw [ek] at q
      refine ⟨.ref s.heap.objs.size, _, I.laid (t' := s.toks) (o := .tup []) (fun b ob q => Heap.get?_push_of_some _ q) (Nat.le_refl _) ?_, rfl, q⟩
      exact ⟨Nat.zero_le _, [], .nil, IsTup.new _ _⟩
    · have c2 : (decide (k ≤ 0) || its.toArray.isEmpty) = false := by
        rw [he]
        have h1 : ¬ xs = [] := fun z => e1 (.inl z)
        simp [h1]; omega
      have hm : ((its.toArray.size : Nat) : Int) * k ≤ 1000000 := by
        rw [hsz0]
        have : ((xs.length * k.toNat : Nat) : Int) = (xs.length : Int) * k := by
          rw [Int.natCast_mul, Int.toNat_of_nonneg (by omega)]
        omega
      have flen : (List.replicate k.toNat its).flatten.length ≤ sizeLine := by
        rw [PyProof.Rows.lm_len_rep_flat, hle, sizeLine_eq, Nat.mul_comm]
        omega
      have c4 : Builtin.Tuple.tupleTooMany (((its.toArray.size : Nat) : Int) * k) = false := by
        unfold Builtin.Tuple.tupleTooMany
        rw [sizeLine_eq]
        exact decide_eq_false (by omega)
      refine wpAny_binaryOp_repeat_ref (T := "tuple") (U := "int") (by decide) ⟨_, ho, rfl⟩ (fun s' => typeIs_int s' k t) noFill_tuple_mul F.fills_int_mul F.slot_int_rmul repeat_tuple F.slot_int_index.lookup
        (call_meets F.slot_int_rmul (typeIs_int s k t) F.entry_int_rmul (F.args_int_rmul_2 _ _) (int_rmul_tuple k t l its.toArray n dd sl)
          ⟨ho, rfl, ⟨_, ho, rfl⟩, call_meets F.slot_tuple_mul ⟨_, ho, rfl⟩ F.entry_tuple_mul (F.args_tuple_mul_2 _ _) (tuple_mulW l its.toArray n dd sl k t c0 c1 c2 (by omega) c4 (by rw [size_rep, List.size_toArray]; exact flen)) ⟨ho, ?_⟩⟩)
      rw [size_rep]
      refine ⟨.ref s.heap.objs.size, _, I.laid (t' := s.toks) (o := .tup (List.replicate k.toNat xs).flatten) (fun b ob q => Heap.get?_push_of_some _ q) (Nat.le_refl _) ?_, rfl, q1 e1 _ (I.hok.fresh (Nat.le_refl _))⟩
      exact ⟨by rw [PyProof.Rows.lm_len_rep_flat, sizeLine_eq, Nat.mul_comm]; omega, _, r.rep k.toNat, IsTup.new _ _⟩
end
end Ev

namespace Ev
open PySem PySem.Spec PyProof.Rows L2
/-! ### == of rows, one of them empty -/
def rEqE (K : PySem.W.Frag) (f : Bool → Bool) : R2 := fun x y H Q => ∃ a b xs ys, x = .ref a ∧ y = .ref b ∧ ((SqT K H a xs ∧ SqT K H b ys) ∨ (SqL K H a xs ∧ SqL K H b ys)) ∧ (xs = [] ∨ ys = []) ∧ Q (.bl (f (decide (xs.length = ys.length)))) H
section
variable {X : Cx}
theorem op_eqE (hu : X.A.units + 64 < cLine) : OpR X (compareOp .Eq) (rEqE X.K id) := by
  intro pins s σ H x y v u Q I rx ry h
  obtain ⟨a, b, xs, ys, rfl, rfl, hS, he, q⟩ := h
  cases rx
  cases ry
  rcases hS with ⟨h1, h2⟩ | ⟨h1, h2⟩
  · obtain ⟨its, r1, p1, _⟩ := I.tuple h1
    obtain ⟨its2, r2, p2, _⟩ := I.tuple h2
    have l1 := r1.length
    have l2 := r2.length
    have z : its.toArray.size = 0 ∨ its2.toArray.size = 0 := by
      rw [List.size_toArray, List.size_toArray, ← l1, ← l2]
      rcases he with rfl | rfl <;> simp
    refine SeqAt.eq_tupleAt (e := fun _ => true) (show s.heap.IsTuple a its.toArray from p1) (show s.heap.IsTuple b its2.toArray from p2) (by omega) (fun j h1 h2 => absurd h1 (by omega)) ?_
    refine ⟨.bl _, H, I, ?_, q⟩
    have e1 : its.toArray.size = xs.length := by rw [List.size_toArray, l1]
    have e2 : its2.toArray.size = ys.length := by rw [List.size_toArray, l2]
    have : ((List.range (min its.toArray.size its2.toArray.size)).all (fun _ => true) && its.toArray.size == its2.toArray.size) = id (decide (xs.length = ys.length)) := by
      rw [show min its.toArray.size its2.toArray.size = 0 by omega, e1, e2]
      by_cases h : xs.length = ys.length <;> simp [h]
    rw [this]
    rfl
  · obtain ⟨its, r1, p1, _⟩ := I.list h1
    obtain ⟨its2, r2, p2, _⟩ := I.list h2
    have l1 := r1.length
    have l2 := r2.length
    have e1 : its.toArray.size = xs.length := by rw [List.size_toArray, l1]
    have e2 : its2.toArray.size = ys.length := by rw [List.size_toArray, l2]
    by_cases e : xs.length = ys.length
    · have z : xs.length = 0 := by rcases he with rfl | rfl <;> simp_all
      refine SeqAt.eq_listAt (e := fun _ => true) p1.isList p2.isList (by omega) (by omega) (fun j h1 h2 => absurd h1 (by omega)) ?_
      refine ⟨.bl _, H, I, ?_, q⟩
      have : (List.range its.toArray.size).all (fun _ => true) = id (decide (xs.length = ys.length)) := by simp [e]
      rw [this]
      rfl
    · refine SeqAt.eq_list_lengthsAt p1.isList p2.isList (by rw [e1, e2]; simpa using e) (by omega) ?_
      refine ⟨.bl _, H, I, ?_, q⟩
      have : false = id (decide (xs.length = ys.length)) := by simp [e]
      rw [← this]
      rfl
theorem op_neE (hu : X.A.units + 64 < cLine) : OpR X (compareOp .NotEq) (rEqE X.K not) := by
  intro pins s σ H x y v u Q I rx ry h
  obtain ⟨a, b, xs, ys, rfl, rfl, hS, he, q⟩ := h
  cases rx
  cases ry
  rcases hS with ⟨h1, h2⟩ | ⟨h1, h2⟩
  · obtain ⟨its, r1, p1, _⟩ := I.tuple h1
    obtain ⟨its2, r2, p2, _⟩ := I.tuple h2
    have l1 := r1.length
    have l2 := r2.length
    have z : its.toArray.size = 0 ∨ its2.toArray.size = 0 := by
      rw [List.size_toArray, List.size_toArray, ← l1, ← l2]
      rcases he with rfl | rfl <;> simp
    refine SeqAt.RcNeAt.tuples (e := fun _ => true) (show s.heap.IsTuple a its.toArray from p1) (show s.heap.IsTuple b its2.toArray from p2) (by omega) (fun j h1 h2 => absurd h1 (by omega)) _ _ _ _ ?_
    refine ⟨.bl _, H, I, ?_, q⟩
    have e1 : its.toArray.size = xs.length := by rw [List.size_toArray, l1]
    have e2 : its2.toArray.size = ys.length := by rw [List.size_toArray, l2]
    have : (!((List.range (min its.toArray.size its2.toArray.size)).all (fun _ => true) && its.toArray.size == its2.toArray.size)) = not (decide (xs.length = ys.length)) := by
      rw [show min its.toArray.size its2.toArray.size = 0 by omega, e1, e2]
      by_cases h : xs.length = ys.length <;> simp [h]
    rw [this]
    rfl
  · obtain ⟨its, r1, p1, _⟩ := I.list h1
    obtain ⟨its2, r2, p2, _⟩ := I.list h2
    have l1 := r1.length
    have l2 := r2.length
    have e1 : its.toArray.size = xs.length := by rw [List.size_toArray, l1]
    have e2 : its2.toArray.size = ys.length := by rw [List.size_toArray, l2]
    by_cases e : xs.length = ys.length
    · have z : xs.length = 0 := by rcases he with rfl | rfl <;> simp_all
      refine SeqAt.RcNeAt.lists (e := fun _ => true) p1.isList p2.isList (by omega) (by omega) (fun j h1 h2 => absurd h1 (by omega)) _ _ _ _ ?_
      refine ⟨.bl _, H, I, ?_, q⟩
      have : (!(List.range its.toArray.size).all (fun _ => true)) = not (decide (xs.length = ys.length)) := by simp [e]
      rw [this]
      rfl
    · refine SeqAt.RcNeAt.lists_lengths p1.isList p2.isList (by rw [e1, e2]; simpa using e) (by omega) _ _ _ _ ?_
      refine ⟨.bl _, H, I, ?_, q⟩
      have : true = not (decide (xs.length = ys.length)) := by simp [e]
      rw [← this]
      rfl
end
/-! ### a row turned about -/
section
variable {prog : Program} {w : World} {A : Around} {E : Value → Shared → Prop} {s : Shared}
theorem slice_rev {sl : Addr} {vl vu vs : Value} {n : Nat} {Q : Int × Int × Nat → Shared → Prop} (hs : s.heap.IsSliceOf sl vl vu vs) (pl : IsPart vl none) (pu : IsPart vu none) (ps : IsPart vs (some (-1)))
    (h : Q ((n : Int) - 1, -1, n) s) : wpAny (model prog w) A (Builtin.Slice.sliceApplied (.ref sl) (pure (n : Int))) Q E s := by
  obtain ⟨os, hos, hcs, hds⟩ := id hs
  unfold Builtin.Slice.sliceApplied Builtin.Slice.sliceFields
  refine wpAny_bind (wpAny_bind (wpAny_field hos hds (x := vl) rfl (wpAny_bind (wpAny_field hos hds (x := vu) rfl (wpAny_bind (wpAny_field hos hds (x := vs) rfl (wpAny_pure ?_)))))))
  refine wpAny_bind (HT.slicePart_ ps ?_)
  show wpAny _ _ (if ((-1 : Int) == 0) = true then _ else _) _ _ s
  rw [if_neg (by decide)]
  refine wpAny_bind (HT.slicePart_ pl (wpAny_bind (HT.slicePart_ pu (wpAny_bind (wpAny_pure ?_)))))
  have e1 : Builtin.Slice.sliceAdjust none none (-1) (n : Int) = ((n : Int) - 1, -1) := by
    unfold Builtin.Slice.sliceAdjust
    simp
  have e2 : Builtin.Slice.slicePlaces ((n : Int) - 1) (-1) (-1) = n := by
    unfold Builtin.Slice.slicePlaces
    simp
    try omega
  show wpAny _ _ (match Builtin.Slice.sliceAdjust none none (-1) (n : Int) with | (lo, hi) => pure (lo, (-1 : Int), Builtin.Slice.slicePlaces lo hi (-1))) _ _ s
  rw [e1]
  show wpAny _ _ (pure ((n : Int) - 1, (-1 : Int), Builtin.Slice.slicePlaces ((n : Int) - 1) (-1) (-1))) _ _ s
  rw [e2]
  exact wpAny_pure h
theorem fm_some {α β : Type} {f : α → Option β} {g : α → β} : ∀ {l : List α}, (∀ x ∈ l, f x = some (g x)) → l.filterMap f = l.map g
  | [], _ => rfl
  | x :: r, h => by rw [List.filterMap_cons, h x (by simp), fm_some fun y hy => h y (by simp [hy])]; rfl
theorem pick_rev (xs : Array Value) : ((List.range xs.size).filterMap fun (m : Nat) => xs[(((xs.size : Int) - 1) + (m : Int) * (-1)).toNat]?).toArray = xs.toList.reverse.toArray := by
  congr 1
  apply List.ext_getElem?
  intro i
  have key : (List.range xs.size).filterMap (fun (m : Nat) => xs[(((xs.size : Int) - 1) + (m : Int) * (-1)).toNat]?) = (List.range xs.size).map fun m => xs.toList.reverse[m]?.getD .none := by
    refine fm_some fun m hm => ?_
    have hm := List.mem_range.mp hm
    have e : (((xs.size : Int) - 1) + (m : Int) * (-1)).toNat = xs.size - 1 - m := by omega
    have e2 : xs.toList.reverse[m]? = xs[xs.size - 1 - m]? := by
      rw [List.getElem?_reverse (by simpa using hm)]
      simp
    rw [e, e2]
    have : xs.size - 1 - m < xs.size := by omega
    simp [this]
  rw [key, List.getElem?_map]
  by_cases h : i < xs.size
  · rw [List.getElem?_range h]
    have : i < xs.toList.reverse.length := by simpa using h
    simp only [Option.map_some, List.getElem?_eq_getElem this, Option.getD_some]
  · have h1 : (List.range xs.size)[i]? = none := by simp; omega
    have h2 : xs.toList.reverse[i]? = none := by simp; omega
    rw [h1, h2]; rfl
theorem getItem_tuple_rev {t sl : Addr} {items : Array Value} {vl vu vs : Value} {Q : Value → Shared → Prop} (ht : IsTup s.heap t items) (hs : s.heap.IsSliceOf sl vl vu vs) (pl : IsPart vl none) (pu : IsPart vu none) (ps : IsPart vs (some (-1)))
    (h : Q (.ref s.heap.objs.size) { s with heap := s.heap.push { cls := .type "tuple", data := .seq items.toList.reverse.toArray } })
    (hsz : items.size ≤ sizeLine) : wpAny (model prog w) A (getItem (.ref t) (.ref sl)) Q E s := by
  have htake : sizeOk (.seq items.toList.reverse.toArray) := by
    show items.toList.reverse.toArray.size ≤ sizeLine
    simpa using hsz
  obtain ⟨os, hos, hcs, hds⟩ := id hs
  have hTs : s.TypeIs (.ref sl) "slice" := ⟨os, hos, hcs⟩
  unfold getItem
  try with_reducible refine wpAny_holding ?_
  first | refine wpAny_bind (wpAny_pure ?_) | skip
  refine wpAny_bind (wpAny_sequenceKey ht.typeIs (by decide) ?_)
  refine wpAny_bind (wpAny_callSpecial?_slot (name := Str.ofString "__getitem__") ht.typeIs PyProof.Rows.slot_tuple_getitem
    (wpAny_call_entry PyProof.Rows.slot_tuple_getitem ht.typeIs entry_tuple_getitem ?_ (args_tuple_getitem _ _)))
  show wpAny _ _ (Builtin.Tuple.tupleItemsOf (.ref t) >>= _) _ _ s
  refine wpAny_bind (tupleItemsOf_ ht ?_)
  refine wpAny_bind (wpAny_typeOf hTs ?_)
  rw [if_pos (by decide)]
  refine wpAny_bind (slice_rev hs pl pu ps ?_)
  have hno : ¬ ((((items.size : Int) - 1) == 0 && (-1 : Int) == 1 && items.size == items.size) = true) := by
    intro q
    rw [Bool.and_eq_true, Bool.and_eq_true] at q
    exact absurd q.1.2 (by decide)
  show wpAny _ _ (if (((items.size : Int) - 1) == 0 && (-1 : Int) == 1 && items.size == items.size) = true then _ else _) _ _ s
  rw [if_neg hno, pick_rev]
  first
    | exact wpAny_bind (m := Builtin.Tuple.tupleExact _) (wpAny_newObj_type (wpAny_pure ⟨_, rfl, wpAny_pure h⟩) htake)
    | exact wpAny_bind (m := Builtin.Tuple.tupleExact _) (wpAny_newObj_type (wpAny_bind (wpAny_pure (wpAny_pure ⟨_, rfl, wpAny_pure h⟩))) htake)
    | exact wpAny_bind (wpAny_bind (m := Builtin.Tuple.tupleExact _) (wpAny_newObj_type (wpAny_pure (wpAny_pure ⟨_, rfl, wpAny_pure h⟩)) htake))
    | exact wpAny_bind (wpAny_bind (m := Builtin.Tuple.tupleExact _) (wpAny_newObj_type (wpAny_pure ⟨_, rfl, wpAny_pure h⟩) htake))
end
def tRev (K : PySem.W.Frag) (te : TE) : TE := fun σ H Q => te σ H fun x H1 => ∃ a xs, x = .ref a ∧ ((SqL K H1 a xs ∧ ∀ p, H1 p = none → Q (.ref p) (upd H1 p (.lst xs.reverse))) ∨ (SqT K H1 a xs ∧ ∀ p, H1 p = none → Q (.ref p) (upd H1 p (.tup xs.reverse))))
theorem pe_rev {X : Cx} {e : Expr} {te : TE} {k : Nat} {p1 p2 p3 pos : Pos} (he : PE X e te) : PE X (.Subscript e (.Slice none none (some (.UnaryOp .USub (.Constant (.int 1) k p1) p2)) p3) pos) (tRev X.K te) := by
  refine ⟨fun pins s σ H Q I h => ?_⟩
  refine Subscript_ (thn (he.run pins s σ H _ I h) fun v s1 ⟨x, H1, I1, r1, q1⟩ => ?_)
  obtain ⟨a, xs, ex, q⟩ := q1
  subst ex
  cases r1
  have hst : PO X (some (.UnaryOp .USub (.Constant (.int 1) k p1) p2)) (tPart (tUn (rU fun i => .int (-i)) (tC (.int 1)))) := po_some (pe_un un_neg pe_int)
  refine wpAny_Slice (thn (po_none.run pins s1 σ H1 (fun o H2 => o = none ∧ H2 = H1) I1 ⟨rfl, rfl⟩) fun vl s2 ⟨l, H2, I2, pl, el, e2⟩ => ?_)
  subst el e2
  refine thn (po_none.run pins s2 σ H2 (fun o H3 => o = none ∧ H3 = H2) I2 ⟨rfl, rfl⟩) fun vu s3 ⟨u, H3, I3, pu, eu, e3⟩ => ?_
  subst eu e3
  refine thn (hst.run pins s3 σ H3 (fun o H4 => o = some (-1) ∧ H4 = H3) I3 ⟨1, rfl, -1, rfl, rfl, rfl⟩) fun vs s4 ⟨o, H4, I4, ps, eo, e4⟩ => ?_
  subst eo e4
  have I5 : Inv X pins σ H4 { s4 with heap := s4.heap.push { cls := .type "slice", data := .fields #[vl, vu, vs] } } := I4.kept (t' := s4.toks) fun b ob q => Heap.get?_push_of_some _ q
  show wpAny (model X.prog X.w) X.A (subscriptTail e (.Slice none none (some (.UnaryOp .USub (.Constant (.int 1) k p1) p2)) p3) (.ref a) (.ref s4.heap.objs.size)) (EP X pins σ Q) X.xe { s4 with heap := s4.heap.push { cls := .type "slice", data := .fields #[vl, vu, vs] } }
  rcases q with ⟨hx, q⟩ | ⟨hx, q⟩
  · obtain ⟨its, r, ht, hz⟩ := I5.list hx
    have hlen := r.length
    refine tail_any (ops := [.ref a, .ref s4.heap.objs.size]) ht.isList.typeIs (PySem.slot_list_getitem.lookup) ?_ (by with_unfolding_all rfl)
    refine wpAny_getItem_list_slice ht.isList (Heap.IsSliceOf.new _ vl vu vs) pl pu ps (by decide) ?_ (by rw [List.size_toArray]; omega)
    rw [PySem.W.krv_pick]
    refine ⟨.ref _, _, I5.laid (t' := s4.toks) (o := .lst xs.reverse) (fun b ob q => Heap.get?_push_of_some _ q) (Nat.le_refl _) ?_, rfl, q _ (I5.hok.fresh (Nat.le_refl _))⟩
    exact ⟨by rw [List.length_reverse]; exact hz, _, 0, r.reverse, Heap.get?_push_size _ rfl⟩
  · obtain ⟨its, r, ht, hz⟩ := I5.tuple hx
    have hlen := r.length
    refine tail_any (ops := [.ref a, .ref s4.heap.objs.size]) ht.typeIs (PyProof.Rows.slot_tuple_getitem.lookup) ?_ (by with_unfolding_all rfl)
    refine getItem_tuple_rev ht (Heap.IsSliceOf.new _ vl vu vs) pl pu ps ?_ (by rw [List.size_toArray]; omega)
    refine ⟨.ref _, _, I5.laid (t' := s4.toks) (o := .tup xs.reverse) (fun b ob q => Heap.get?_push_of_some _ q) (Nat.le_refl _) ?_, rfl, q _ (I5.hok.fresh (Nat.le_refl _))⟩
    exact ⟨by rw [List.length_reverse]; exact hz, _, r.reverse, IsTup.new _ _⟩
end Ev

namespace Ev
open PySem PySem.Spec PyProof.Rows L2
/-! ### enumerate(t), t a tuple -/
theorem meets_enum_newT (t : Addr) (items : Array Value) :
    Meets (Builtin.«enumerate.__new__» ⟨[.type "enumerate", .ref t], []⟩) (fun _ R s => s.heap.IsTuple t items ∧
      R (.ok (.ret (.ref (s.heap.push { cls := .type "tuple_iterator", data := .fields #[.ref t, .int 0 0] }).objs.size)))
        { s with heap := (s.heap.push { cls := .type "tuple_iterator", data := .fields #[.ref t, .int 0 0] }).push { cls := .type "enumerate", data := .fields #[.none, .bool false, .ref s.heap.objs.size, rawInt 0, .none, .none] } }) :=
  .of_wp fun prog w A R s h => by
    obtain ⟨hp, g, d, tk, os⟩ := s; obtain ⟨h1, h⟩ := h
    have hsub := sub_enumerate
    have q1 : ∀ {A' : Around} {E : Value → Shared → Prop} {Q : Value → Shared → Prop}, Q (.ref hp.objs.size) ⟨hp.push { cls := .type "tuple_iterator", data := .fields #[.ref t, .int 0 0] }, g, d, tk, os⟩ → wpAny (model prog w) A' (pyIter (.ref t)) Q E ⟨hp, g, d, tk, os⟩ :=
      fun q => wpAny_pyIter_tuple h1 q
    wp_walk using q1
    refine wpAny_stack_any fun st => wpAny_pure ?_
    split
    · rename_i c _ _ _ _ _
      cases (c == Value.type "enumerate")
      · wp_walk using q1
        exact ⟨_, rfl, h⟩
      · wp_walk using q1
        exact ⟨_, rfl, h⟩
    · wp_walk using q1
      exact ⟨_, rfl, h⟩
section
variable {prog : Program} {w : World} {A : Around} {E : Value → Shared → Prop} {s : Shared}
theorem call_enum_tuple {t : Addr} {items : Array Value} {Q : Value → Shared → Prop} (hL : s.heap.IsTuple t items)
    (h : ∀ h', IsEnum h' (s.heap.objs.size + 1) s.heap.objs.size 0 .none → h'.IsTupleIter s.heap.objs.size t 0 → h'.objs.size = s.heap.objs.size + 2 →
      (∀ b o, s.heap.get? b = some o → h'.get? b = some o) → Q (.ref (s.heap.objs.size + 1)) { s with heap := h' }) :
    wpAny (model prog w) A (call (.type "enumerate") [.ref t]) Q E s := by
  refine callType_new F.called_enumerate (by decide) (F.typeCall_enumerate_1 _) (F.newCall_enumerate_1 _) (fun obj => F.args_object_init_2 obj _) F.entry_enumerate_new
    (meets_enum_newT t items) ⟨hL, ?_⟩
  have hz : (s.heap.push { cls := .type "tuple_iterator", data := .fields #[.ref t, .int 0 0] }).objs.size = s.heap.objs.size + 1 := Heap.size_push ..
  show _ ∧ _
  rw [hz]
  have he : IsEnum ((s.heap.push { cls := .type "tuple_iterator", data := .fields #[.ref t, .int 0 0] }).push
      { cls := .type "enumerate", data := .fields #[.none, .bool false, .ref s.heap.objs.size, rawInt 0, .none, .none] }) (s.heap.objs.size + 1) s.heap.objs.size 0 .none := by
    have := Heap.get?_push_size (s.heap.push { cls := .type "tuple_iterator", data := .fields #[.ref t, .int 0 0] })
      (o := { cls := .type "enumerate", data := .fields #[.none, .bool false, .ref s.heap.objs.size, rawInt 0, .none, .none] }) rfl
    rw [hz] at this; exact this
  refine ⟨⟨_, he, rfl⟩, h _ he ⟨_, Heap.get?_push_of_some _ (Heap.get?_push_size _ rfl), rfl, rfl⟩ (by rw [Heap.size_push, hz]) fun b o x => Heap.get?_push_of_some _ (Heap.get?_push_of_some _ x)⟩
end
theorem enum_endT {prog : Program} {w : World} {A : Around} {E : Value → Shared → Prop} {s : Shared} {e it t : Addr} {i : Nat} {items : Array Value} {old : Value} {Q : Option Value → Shared → Prop} (hh : A.handled = none)
    (he : IsEnum s.heap e it i old) (hit : s.heap.IsTupleIter it t i) (ht : s.heap.IsTuple t items) (hx : items.size ≤ i)
    (hQ : ∀ h', Heap.ExtBut it s.heap h' → Q none { s with heap := h' }) : wpAny (model prog w) A (pyNext (.ref e)) Q E s := by
  have hT : s.TypeIs (.ref e) "enumerate" := ⟨_, he, rfl⟩
  unfold pyNext
  refine wpAny_bind (wpAny_attempt (wpAny_callSpecial?_slot (name := Str.ofString "__next__") hT F.slot_enumerate_next
    (wpAny_call_entry F.slot_enumerate_next hT F.entry_enumerate_next ?_ (F.args_enumerate_next_1 _))))
  show wpAny _ _ (field (.ref e) 2 >>= _) _ _ _
  refine wpAny_bind (wpAny_field he rfl (x := .ref it) rfl ?_)
  refine wpAny_bind (wpAny_nextOf_tuple_end (show A.in1.handled = none from hh) hit ht (by simp; omega) fun h' x he' hx' => ?_)
  obtain ⟨o, ho, hc⟩ := hx'
  refine wpAny_bind (wpAny_isInstance (T := "StopIteration") (b := true) ⟨o, ho, hc⟩ isSubtype_stop ?_)
  exact wpAny_pure (hQ _ he')
/-- the tuple at a, each item in a new pair -/
def IteT (K : PySem.W.Frag) (a : Addr) : L2.It :=
  ⟨fun i H => ∃ (xs : List V) (x : V), SqT K H a xs ∧ xs[i]? = some x, fun i H v H' => ∃ T x, v = .ref T ∧ H T = none ∧ H' = upd H T (.tup [.int (i : Nat), x]) ∧ ∀ xs, SqT K H a xs → xs[i]? = some x, fun i H => ∃ xs : List V, SqT K H a xs ∧ xs.length ≤ i⟩
theorem turn_enumT {P : Program} {w : World} {K : PySem.W.Frag} {elts : List Expr} {kk : Nat} {tpos : Pos} (a e it : Addr) (hai : a ≠ it) (hea : e ≠ a) :
    Turn P w K (.Tuple elts kk tpos) (IteT K a) [e, it] e (fun i h => (∃ old, IsEnum h e it ((i : Nat) : Int) old) ∧ h.IsTupleIter it a i ∧ e ≠ it) where
  mem := by simp
  obj := fun i h st b hb => by
    obtain ⟨⟨old, he⟩, ⟨o, ho, hc, hd⟩, _⟩ := st
    have e' : b = e ∨ b = it := by simpa using hb
    rcases e' with z | z
    · rw [z]; exact ⟨_, he, fun v q => nomatch q⟩
    · rw [z]; exact ⟨o, ho, fun v q => by rw [hd] at q; cases q⟩
  keep := fun i h h' st k => let ⟨⟨old, he⟩, hi, hne⟩ := st; ⟨⟨old, k e (by simp) _ he⟩, hi.at fun o q => k it (by simp) o q, hne⟩
  item := by
    intro X hP hw hK hc i pins s σ H E I hf st hg
    subst hP hw hK
    obtain ⟨⟨old, he⟩, hit, hne⟩ := st
    obtain ⟨xs, x, hq, hx⟩ := hg
    obtain ⟨its, rv, p, hz⟩ := I.tuple hq
    obtain ⟨u, hu, ru⟩ := rv.get hx
    have hel : e < s.heap.objs.size := Heap.lt_size he
    have hil : it < s.heap.objs.size := by obtain ⟨_, q, _⟩ := hit; exact Heap.lt_size q
    have hlt : i < its.toArray.size := by
      have := (List.getElem?_eq_some_iff.mp hu).1
      simpa using this
    have D := Draws.tuple (prog := X.prog) (w := X.w) (A := X.A.in1) (show X.A.in1.handled = none from I.ok.hd hc) it a hai its.toArray
    refine wpAny_pyNext_enum_itemD D he ⟨hit, p⟩ hlt hne (by simp; exact ⟨hne, hea⟩) fun x' h' tk hP ho hst hT hsz hk => ?_
    have eu : x' = u := by
      have hP : its.toArray[i]? = some x' := hP
      have : its[i]? = some x' := by simpa using hP
      rw [hu] at this; cases this; rfl
    subst eu
    refine ⟨_, rfl, wpAny_letOwnedTupleGo_enum (s := { s with heap := h', toks := tk + 1 }) ho fun h'' he' sb => ?_⟩
    have hT2 : h''.get? s.heap.objs.size = some { cls := .type "tuple", data := .seq #[.int i tk, x'] } := (sb.2 _ (Nat.ne_of_gt hel)).trans hT
    have new : ObjOk X.prog X.w (upd H s.heap.objs.size (.tup [.int (i : Nat), x])) h'' s.heap.objs.size (.tup [.int (i : Nat), x]) :=
      ⟨by show 2 ≤ sizeLine; decide, [.int i tk, x'], .cons ⟨_, rfl⟩ (.cons ru .nil), ⟨_, hT2, rfl, _, rfl⟩⟩
    have I1 : Inv X pins σ (upd H s.heap.objs.size (.tup [.int (i : Nat), x])) { s with heap := h'', toks := tk + 1 } :=
      I.turnedNew (ch := [e, it]) (fun b ob hb q => (sb.2 b (fun z => hb (by simp [z]))).trans (hk b ob (fun z => hb (by simp [z])) (fun z => hb (by simp [z])) q)) hf (Nat.le_refl _) new
    refine ⟨.ref s.heap.objs.size, _, I1, rfl, ⟨_, x, rfl, I.hok.fresh (Nat.le_refl _), rfl, fun ys hy => by rw [I.tuple_inj hy hq]; exact hx⟩, ⟨⟨x', ?_⟩, hst.1.at fun o q => (sb.2 it (Ne.symm hne)).trans q, hne⟩, fun b hb => ?_⟩
    · have e1 : ((i + 1 : Nat) : Int) = (i : Int) + 1 := by omega
      rw [e1]; exact he'
    · have hb' : b < s.heap.objs.size := by
        have e' : b = e ∨ b = it := by simpa using hb
        rcases e' with z | z
        · rw [z]; exact hel
        · rw [z]; exact hil
      rw [upd_ne (Nat.ne_of_lt hb')]
      exact (hf b hb).1
  done := by
    intro X hP hw hK hc i pins s σ H E I hf st hg
    subst hP hw hK
    obtain ⟨⟨old, he⟩, hit, hne⟩ := st
    obtain ⟨xs, hq, hx⟩ := hg
    obtain ⟨its, rv, p, hz⟩ := I.tuple hq
    obtain ⟨f0, f1, f2, f3, f4, f5⟩ := hf it (by simp)
    have hl := rv.length
    have D := Draws.tuple (prog := X.prog) (w := X.w) (A := X.A.in1) (show X.A.in1.handled = none from I.ok.hd hc) it a hai its.toArray
    -- the tuple may be gone through further than its length only where it stands at its end
    refine enum_endT (hh := I.ok.hd hc) he hit p (by simp; omega) fun h' eb => ⟨rfl, I.turned (t' := s.toks) (fun b o hb q => eb b o hb q) f0 f1 f3 f4 f5⟩
  self := fun A i s Q E st h => let ⟨⟨_, he⟩, _⟩ := st; wpAny_pyIter_enum he h
def iEnumE (K : PySem.W.Frag) (ta : TA) : TI := fun σ H R => ta σ H fun vs H1 => ∃ a xs, vs = [.ref a] ∧ ((SqL K H1 a xs ∧ R (Ite K a) H1) ∨ (SqT K H1 a xs ∧ R (IteT K a) H1))
theorem pi_enumE {X : Cx} {e : Expr} {ta : TA} {p pos tpos : Pos} {elts : List Expr} {kk : Nat} (hg : Gl X "enumerate") (hm : X.mg "enumerate" = none) (ha : PA X [e] ta) (hs : starEach [e] X.env = [(false, eval e X.env)] := by rfl) :
    PI X (.Tuple elts kk tpos) (.Call (.Name "enumerate" p) [e] [] pos) (iEnumE X.K ta) := by
  refine ⟨fun pins s σ H R I h => ?_⟩
  refine Call_ (ld_blt I hg hm boot_enumerate (PyProof.Rows.callWith_type1 (thn (ha.run pos pins s σ H _ I h) fun us s1 ⟨vs, H1, I1, r1, q1⟩ => ?_) hs rfl))
  obtain ⟨a, xs, ex, q⟩ := q1
  subst ex
  cases r1 with
  | cons r rr =>
    cases rr
    cases r
    have fp : ∀ b ∈ [s1.heap.objs.size + 1, s1.heap.objs.size], s1.heap.objs.size ≤ b := fun b hb => by
      have e' : b = s1.heap.objs.size + 1 ∨ b = s1.heap.objs.size := by simpa using hb
      rcases e' with z | z
      · rw [z]; exact Nat.le_add_right _ _
      · rw [z]; exact Nat.le_refl _
    rcases q with ⟨hq, q⟩ | ⟨hq, q⟩
    · obtain ⟨its, rv, p', hz⟩ := I1.list hq
      refine call_enumerate_list p'.isList fun h' he hit hsz hk => wpAny_pyIter_enum he ?_
      have I2 : Inv X pins σ H1 { s1 with heap := h' } := I1.kept (t' := s1.toks) hk
      exact ⟨s1.heap.objs.size + 1, [s1.heap.objs.size + 1, s1.heap.objs.size], _, _, H1, rfl, I2, turn_enum a (s1.heap.objs.size + 1) s1.heap.objs.size, ⟨⟨.none, he⟩, hit, Nat.succ_ne_self _⟩, fun b hb => I1.fpOk (fp b hb) (I1.hok.fresh (fp b hb)), q⟩
    · obtain ⟨its, rv, p', hz⟩ := I1.tuple hq
      have hal : a < s1.heap.objs.size := by obtain ⟨o, ho, _⟩ := p'; exact Heap.lt_size ho
      refine call_enum_tuple (show s1.heap.IsTuple a its.toArray from p') fun h' he hit hsz hk => wpAny_pyIter_enum he ?_
      have I2 : Inv X pins σ H1 { s1 with heap := h' } := I1.kept (t' := s1.toks) hk
      exact ⟨s1.heap.objs.size + 1, [s1.heap.objs.size + 1, s1.heap.objs.size], _, _, H1, rfl, I2, turn_enumT a (s1.heap.objs.size + 1) s1.heap.objs.size (Nat.ne_of_lt hal) (Nat.ne_of_gt (Nat.lt_succ_of_lt hal)), ⟨⟨.none, he⟩, hit, Nat.succ_ne_self _⟩, fun b hb => I1.fpOk (fp b hb) (I1.hok.fresh (fp b hb)), q⟩
end Ev

namespace Ev
open PySem PySem.Spec PyProof.Rows L2
/-! ### t.count(x), xs.count(x), of flat things -/
theorem countP_eqU {x : V} : ∀ {xs : List V} {us : List Value}, Vals xs us → xs.all flatV = true → us.countP (eqU x) = xs.countP fun y => eqV y x
  | _, _, .nil, _ => rfl
  | y :: xs, u :: us, .cons r t, f => by
    rw [List.all_cons, Bool.and_eq_true] at f
    rw [List.countP_cons, List.countP_cons, eqU_of r f.1, countP_eqU t f.2]
def rCntL (K : PySem.W.Frag) : V → List V → Hp → VK → Prop := fun x vs H Q => ∃ (p : Addr) (xs : List V) (y : V), x = .ref p ∧ vs = [y] ∧ SqL K H p xs ∧ flatV y = true ∧ xs.all flatV = true ∧ Q (.int (xs.countP fun z => eqV z y : Nat)) H
def rCntT (K : PySem.W.Frag) : V → List V → Hp → VK → Prop := fun x vs H Q => ∃ (p : Addr) (xs : List V) (y : V), x = .ref p ∧ vs = [y] ∧ SqT K H p xs ∧ flatV y = true ∧ xs.all flatV = true ∧ Q (.int (xs.countP fun z => eqV z y : Nat)) H
section
variable {X : Cx}
theorem mt_cntL : MtR X "list.count" (rCntL X.K) := by
  intro pins s σ H x xs v us Q I rx rxs h
  obtain ⟨p, ys, y, rfl, rfl, hs, fy, fs, q⟩ := h
  cases rx
  obtain ⟨u, rfl, ru⟩ := rxs.one
  obtain ⟨its, rv, ⟨⟨cls, dd, data, sl⟩, n, ho, hc, hdn, hd⟩, hlen⟩ := I.list hs
  simp only at hc hd
  subst hc hd
  refine call_meets PySem.F.slot_list_count ⟨_, ho, rfl⟩ PySem.F.entry_list_count (PySem.F.args_list_count_2 _ _)
    (SeqAt.list_countAt p its.toArray n dd sl u (eqU y)) ⟨ho, fun w hw => mem_eqAt ru fy rv fs w (by simpa using hw), ?_⟩
  have ec : its.toArray.toList.countP (eqU y) = ys.countP fun z => eqV z y := countP_eqU rv fs
  refine ⟨.int (ys.countP fun z => eqV z y : Nat), H, I.tok _, ⟨s.toks, ?_⟩, q⟩
  show Value.int ((its.toArray.toList.countP (eqU y) : Nat) : Int) s.toks = Value.int ((ys.countP fun z => eqV z y : Nat) : Int) s.toks
  rw [ec]
theorem mt_cntT : MtR X "tuple.count" (rCntT X.K) := by
  intro pins s σ H x xs v us Q I rx rxs h
  obtain ⟨p, ys, y, rfl, rfl, hs, fy, fs, q⟩ := h
  cases rx
  obtain ⟨u, rfl, ru⟩ := rxs.one
  obtain ⟨its, rv, ⟨⟨cls, dd, data, sl⟩, ho, hc, n, hd⟩, hlen⟩ := I.tuple hs
  simp only at hc hd
  subst hc hd
  refine call_meets PySem.F.slot_tuple_count ⟨_, ho, rfl⟩ PySem.F.entry_tuple_count (PySem.F.args_tuple_count_2 _ _)
    (SeqAt.tuple_countAt p its.toArray n dd sl u (eqU y)) ⟨ho, fun w hw => mem_eqAt ru fy rv fs w (by simpa using hw), ?_⟩
  have ec : its.toArray.toList.countP (eqU y) = ys.countP fun z => eqV z y := countP_eqU rv fs
  refine ⟨.int (ys.countP fun z => eqV z y : Nat), H, I.tok _, ⟨s.toks, ?_⟩, q⟩
  show Value.int ((its.toArray.toList.countP (eqU y) : Nat) : Int) s.toks = Value.int ((ys.countP fun z => eqV z y : Nat) : Int) s.toks
  rw [ec]
end
/-! ### a op b op c op d -/
def tChain3 (r r' r2 : R2) (ta tb tc td : TE) : TE := fun σ H Q => ta σ H fun x H1 => tb σ H1 fun y H2 => r x y H2 fun z H3 => ∃ k, z = .bl k ∧
  (if k = true then tc σ H3 fun w' H4 => r' y w' H4 fun z2 H5 => ∃ k2, z2 = .bl k2 ∧ (if k2 = true then td σ H5 fun w2 H6 => r2 w' w2 H6 Q else Q (.bl false) H5) else Q (.bl false) H3)
section
variable {X : Cx} {a b c d : Expr} {ta tb tc td : TE} {pos : Pos}
theorem pe_chain3 {op op' op2 : CmpOp} {r r' r2 : R2} (ho : OpR X (compareOp op) r) (ho' : OpR X (compareOp op') r') (ho2 : OpR X (compareOp op2) r2) (ha : PE X a ta) (hb : PE X b tb) (hc : PE X c tc) (hd : PE X d td)
    (hm : lastMarks [op, op', op2] [b, c, d] = false) : PE X (.Compare a [op, op', op2] [b, c, d] pos) (tChain3 r r' r2 ta tb tc td) := by
  refine ⟨fun pins s σ H Q I h => ?_⟩
  refine Compare_chain (thn (ha.run pins s σ H _ I h) fun v s1 ⟨x, H1, I1, r1, q1⟩ => chain_link (thn (hb.run pins s1 σ H1 _ I1 q1) fun u s2 ⟨y, H2, I2, rr2, q2⟩ =>
    thn (ho pins s2 σ H2 x y v u _ I2 r1 rr2 q2) fun dd s3 ⟨z, H3, I3, r3, k, e, q3⟩ => ?_)) hm
  subst e
  cases r3
  refine wpAny_truthy_bool ?_
  cases k with
  | false => exact ite_ff ⟨.bl false, H3, I3, rfl, q3⟩
  | true =>
    refine ite_tt (chain_link (thn (hc.run pins s3 σ H3 _ I3 q3) fun w' s4 ⟨z', H4, I4, r4, q4⟩ => thn (ho' pins s4 σ H4 y z' u w' _ I4 rr2 r4 q4) fun d2 s5 ⟨z2, H5, I5, r5, k2, e2, q5⟩ => ?_))
    subst e2
    cases r5
    refine wpAny_truthy_bool ?_
    cases k2 with
    | false => exact ite_ff ⟨.bl false, H5, I5, rfl, q5⟩
    | true => exact ite_tt (chain_last (thn (hd.run pins s5 σ H5 _ I5 q5) fun w2 s6 ⟨z3, H6, I6, r6, q6⟩ => ho2 pins s6 σ H6 z' z3 w' w2 Q I6 r4 r6 q6))
theorem pt_chain3 {op op' op2 : CmpOp} {r r' r2 : R2} (ho : OpR X (compareOp op) r) (ho' : OpR X (compareOp op') r') (ho2 : OpR X (compareOp op2) r2) (ha : PE X a ta) (hb : PE X b tb) (hc : PE X c tc) (hd : PE X d td)
    (hm : lastMarks [op, op', op2] [b, c, d] = false) : PT X (.Compare a [op, op', op2] [b, c, d] pos) (tTest (tChain3 r r' r2 ta tb tc td)) := by
  refine ⟨fun pins s σ H Q I h => ?_⟩
  refine isTrue_chain (thn (ha.run pins s σ H _ I h) fun v s1 ⟨x, H1, I1, r1, q1⟩ => test_link (thn (hb.run pins s1 σ H1 _ I1 q1) fun u s2 ⟨y, H2, I2, rr2, q2⟩ =>
    thn (ho pins s2 σ H2 x y v u _ I2 r1 rr2 q2) fun dd s3 ⟨z, H3, I3, r3, k, e, q3⟩ => ?_)) hm
  subst e
  cases r3
  refine wpAny_truthy_bool ?_
  cases k with
  | false =>
    obtain ⟨k', e', q'⟩ := q3
    cases e'
    exact ite_ff ⟨H3, I3, q'⟩
  | true =>
    refine ite_tt (test_link (thn (hc.run pins s3 σ H3 _ I3 q3) fun w' s4 ⟨z', H4, I4, r4, q4⟩ => thn (ho' pins s4 σ H4 y z' u w' _ I4 rr2 r4 q4) fun d2 s5 ⟨z2, H5, I5, r5, k2, e2, q5⟩ => ?_))
    subst e2
    cases r5
    refine wpAny_truthy_bool ?_
    cases k2 with
    | false =>
      obtain ⟨k', e', q'⟩ := q5
      cases e'
      exact ite_ff ⟨H5, I5, q'⟩
    | true =>
      refine ite_tt (test_last (thn (hd.run pins s5 σ H5 _ I5 q5) fun w2 s6 ⟨z3, H6, I6, r6, q6⟩ => thn (ho2 pins s6 σ H6 z' z3 w' w2 _ I6 r4 r6 q6) fun d3 s7 ⟨z4, H7, I7, r7, k3, e3, q7⟩ => ?_))
      subst e3
      cases r7
      exact wpAny_truthy_bool ⟨H7, I7, q7⟩
end
/-! ### len(set(xs)), xs whole numbers -/
theorem ndist_of : ∀ {ns L : List Int}, L.Nodup → (∀ k, k ∈ L ↔ k ∈ ns) → L.length = ndist ns
  | [], L, _, h => by
    cases L with
    | nil => rfl
    | cons a r => have := (h a).mp (by simp); simp at this
  | x :: r, L, nd, h => by
    unfold ndist
    by_cases hx : x ∈ r
    · rw [if_pos hx]
      refine ndist_of nd fun k => (h k).trans ?_
      rw [List.mem_cons]
      exact ⟨fun q => q.elim (fun e => e ▸ hx) id, .inr⟩
    · rw [if_neg hx]
      have hm : x ∈ L := (h x).mpr (by simp)
      have := ndist_of (ns := r) (L := L.erase x) (nd.erase x) fun k => by
        rw [nd.mem_erase_iff, h k, List.mem_cons]
        constructor
        · rintro ⟨n, e | e⟩
          · exact absurd e n
          · exact e
        · intro q
          exact ⟨fun e => hx (e ▸ q), .inr q⟩
      rw [List.length_erase_of_mem hm] at this
      have : 0 < L.length := List.length_pos_of_mem hm
      omega
theorem met_nodup (val : Nat → Int) : ∀ i, (PyProof.Rows.firstMet val i).Nodup
  | 0 => by rw [PyProof.Rows.firstMet_zero]; exact List.nodup_nil
  | i + 1 => by
    rw [PyProof.Rows.firstMet_succ]
    have ih := met_nodup val i
    unfold PyProof.Rows.step_dedup
    split
    · exact ih
    · rename_i h
      rw [List.nodup_append]
      refine ⟨ih, by simp, fun a ha b hb => ?_⟩
      rw [List.mem_singleton] at hb
      rintro rfl
      subst hb
      exact h (by simp; exact ha)
def tLenSetA (K : PySem.W.Frag) (ta : TE) : TE := fun σ H Q => ta σ H fun x H1 => ∃ (l : Addr) (ns : List Int), x = V.ref l ∧ (SqL K H1 l (ns.map V.int) ∨ SqT K H1 l (ns.map V.int)) ∧ ns.length ≤ 1000 ∧ Q (.int (ndist ns)) H1
theorem pe_lenSetA {X : Cx} {a : Expr} {ta : TE} {p p2 q pos : Pos} (hc : X.calm = true) (hg : Gl X "len") (hm : X.mg "len" = none) (hg2 : Gl X "set") (hm2 : X.mg "set" = none) (ha : PE X a ta)
    (na : starEach [a] X.env = (false, eval a X.env) :: starEach [] X.env) : PE X (.Call (.Name "len" p) [.Call (.Name "set" p2) [a] [] q] [] pos) (tLenSetA X.K ta) := by
  refine ⟨fun pins s σ H Q I h => ?_⟩
  refine Call_ (ld_blt I hg hm PySem.boot_len ?_)
  refine PyProof.Rows.callWith_builtin1 (PyProof.Rows.args_cons ?_ rfl) rfl rfl
  refine Call_ (ld_blt I hg2 hm2 PyProof.Rows.boot_set ?_)
  refine PyProof.Rows.callWith_type1 (PyProof.Rows.args_cons (thn (ha.run pins s σ H _ I h) fun v s1 ⟨x, H1, I1, r1, q1⟩ => PyProof.Rows.args_nil ?_) na) na rfl
  obtain ⟨l, ns, rfl, hq, h1, q1⟩ := q1
  cases r1
  rcases hq with hq | hq
  · obtain ⟨its, r, pl, hz⟩ := I1.list hq
    have hl : its.toArray.size = ns.length := by rw [List.size_toArray, ← r.length, List.length_map]
    refine PySem.call_set_list (I1.ok.hd hc) pl.isList (ns := ns) (by simpa using r.ints) (by unfold scanBound; omega) fun h' tk hS hk => ?_
    refine PyProof.Rows.args_nil ?_
    obtain ⟨o, es, ep, t, ho, hex, hd, _, _, _, hf, hn⟩ := hS
    have I2 : Inv X pins σ H1 { s1 with heap := h', toks := tk } := I1.kept fun b o e => hk b o (Heap.lt_size e) e
    have en : (PyProof.Rows.firstMet (fun i => ns.getD i 0) its.toArray.size).length = ndist ns := by
      refine ndist_of (met_nodup _ _) fun k => ?_
      have := PyProof.Rows.firstMet_any (fun i => ns.getD i 0) its.toArray.size k
      have e2 : (List.range its.toArray.size).map (fun i => ns.getD i 0) = ns := by
        rw [hl]
        apply List.ext_getElem
        · simp
        · intro i h1 h2
          simp at h1 ⊢
          rw [List.getElem?_eq_getElem h2]; rfl
      rw [e2] at this
      have k1 : ∀ (L : List Int), L.any (· == k) = true ↔ k ∈ L := fun L => by simp
      rw [← k1, ← k1, this]
    have hle : ndist ns ≤ 1000 := by
      rw [← en]
      exact Nat.le_trans (PyProof.Rows.firstMet_length_le _ _) (by omega)
    exact call_len_set ho hex hd hf (by rw [hn, en] <;> omega) ⟨.int (ndist ns), H1, I2.tok _, ⟨_, by rw [hn, en]⟩, q1⟩
  · obtain ⟨its, r, pl, hz⟩ := I1.tuple hq
    refine call_set_tupI ns (I1.ok.hd hc) (show s1.heap.IsTuple l its.toArray from pl) (by simpa using r.ints) (by unfold scanBound; omega) fun h' tk c hS hle hk => ?_
    refine PyProof.Rows.args_nil ?_
    obtain ⟨o, es, ep, t, ho, hex, hd, _, hnd, hmem, hlt, hf, hn, _⟩ := hS
    have I2 : Inv X pins σ H1 { s1 with heap := h', toks := tk } := I1.kept fun b o e => hk b o e
    have en : es.size = ndist ns := by
      have := ndist_of (ns := ns) hnd fun k => by rw [← hmem k, decide_eq_true_eq]
      simpa using this
    exact call_len_set ho hex hd hf (by rw [hn] <;> omega) ⟨.int (ndist ns), H1, I2.tok _, ⟨_, by rw [en]⟩, q1⟩
end Ev

namespace Ev
open PySem PySem.Spec PyProof.Rows L2

section
variable {X : Cx}
theorem op_fdivA : OpR X (binaryOp .FloorDiv) (rI (fun _ j => j ≠ 0 ∧ j.natAbs.log2 < 9000) fun i j => .int (i.fdiv j)) :=
  opI fun i j _ _ _ _ _ hc q => floordiv_int hc.1 q (.inl (PyProof.noPylong_of_log2 hc.2))
theorem op_powA : OpR X (binaryOp .Pow) (rI (fun i j => 0 ≤ j ∧ (Builtin.Int.intBits i : Int) * j ≤ 2 ^ 27) fun i j => .int (i ^ j.toNat)) :=
  opI fun i j _ _ _ _ _ hc q => pow_int hc.1 hc.2 q
end
theorem line_of {n : Nat} (h : lenOk n = true) : n ≤ sizeLine := by
  have := of_decide_eq_true h
  rw [sizeLine_eq]; omega
theorem line_lt {n : Nat} (h : lenOk n = true) : n < sizeLine := by
  have := of_decide_eq_true h
  rw [sizeLine_eq]; omega
section
variable {X : Cx} {ρ : List Addr} {H H0 H1 : Hp} {σ : L2.St} {W : WX} {st : Stt} {env : Env} {x y : A} {v u : V} {Q : V → Hp → Prop}
/-- a list that may change -/
theorem RA.seqM {K : PySem.W.Frag} {mg : Str → Option Value} {a : A} {v : V} {xs : List D} (s : RS K mg H ρ st) (r : RA K mg H0 H ρ a v) (h : lstM st a = some xs) : ∃ p vs, v = .ref p ∧ H p = some (.lst vs) ∧ RDs K mg H ρ xs vs := by
  cases r with
  | d r =>
    cases r with
    | loc q =>
      obtain ⟨vs, h1, h2⟩ := s.lst q h
      exact ⟨_, vs, rfl, h1, h2⟩
    | _ => cases h
  | l h1 h2 h3 h4 =>
    cases (Option.some.inj h : _ = xs)
    exact ⟨_, _, rfl, h3, h4⟩
theorem RD.tup' {K : PySem.W.Frag} {mg : Str → Option Value} {xs : List D} {v : V} (r : RD K mg H ρ (.tup xs) v) : ∃ a vs, v = .ref a ∧ SqT K H a vs ∧ RDs K mg H ρ xs vs := by
  cases r with
  | tup h t => exact ⟨_, _, rfl, h, t⟩
theorem RA.val {K : PySem.W.Frag} {mg : Str → Option Value} {x : D} {v : V} (r : RA K mg H0 H ρ (.d x) v) : RD K mg H ρ x v := by
  cases r with
  | d r => exact r
theorem RA.int {K : PySem.W.Frag} {mg : Str → Option Value} {i : Int} {v : V} (r : RA K mg H0 H ρ (.d (.int i)) v) : v = .int i := by
  cases r.val; rfl
theorem RA.str {K : PySem.W.Frag} {mg : Str → Option Value} {i : Str} {v : V} (r : RA K mg H0 H ρ (.d (.str i)) v) : v = .str i := by
  cases r.val; rfl
theorem RA.bl {K : PySem.W.Frag} {mg : Str → Option Value} {i : Bool} {v : V} (r : RA K mg H0 H ρ (.d (.bl i)) v) : v = .bl i := by
  cases r.val; rfl
theorem RA.non {K : PySem.W.Frag} {mg : Str → Option Value} {v : V} (r : RA K mg H0 H ρ (.d .non) v) : v = .non := by
  cases r.val; rfl
theorem binA_ok {op : Operator} (s : RS X.K X.mg H ρ st) (r1 : RA X.K X.mg H0 H ρ x v) (r2 : RA X.K X.mg H1 H ρ y u) (h : KR X.K X.mg (RA X.K X.mg) W σ Q H ρ (binA op x y st)) : anyOp X (binaryOp op) v u H Q := by
  unfold binA at h
  split at h
  · obtain rfl := r1.int
    obtain rfl := r2.int
    exact ⟨_, op_add, _, _, rfl, rfl, fin_d h s (.int _)⟩
  · obtain rfl := r1.int
    obtain rfl := r2.int
    exact ⟨_, op_sub, _, _, rfl, rfl, fin_d h s (.int _)⟩
  · obtain rfl := r1.int
    obtain rfl := r2.int
    split at h
    · rename_i c; exact ⟨_, op_mulW, _, _, rfl, rfl, c, fin_d h s (.int _)⟩
    · exact h.elim
  · obtain rfl := r1.int
    obtain rfl := r2.int
    split at h
    · rename_i c; exact ⟨_, op_fdivA, _, _, rfl, rfl, c, fin_d h s (.int _)⟩
    · exact h.elim
  · obtain rfl := r1.int
    obtain rfl := r2.int
    split at h
    · rename_i c; exact ⟨_, op_modN, _, _, rfl, rfl, c, fin_d h s (.int _)⟩
    · exact h.elim
  · obtain rfl := r1.int
    obtain rfl := r2.int
    split at h
    · rename_i c; exact ⟨_, op_powA, _, _, rfl, rfl, c, fin_d h s (.int _)⟩
    · exact h.elim
  · obtain rfl := r1.str
    obtain rfl := r2.str
    split at h
    · rename_i c; exact ⟨_, op_add_str, _, _, rfl, rfl, line_of c, fin_d h s (.str _)⟩
    · exact h.elim
  · obtain ⟨a, vs, rfl, h1, t1⟩ := r1.val.tup'
    obtain ⟨b, ws, rfl, h2, t2⟩ := r2.val.tup'
    split at h
    · rename_i c
      refine ⟨_, op_catA, a, b, vs, ws, rfl, rfl, h1, h2, ?_, fun e => ?_, fun _ e => ?_, fun _ _ p hp => ?_⟩
      · rw [← t1.length, ← t2.length]; exact line_of c
      · subst e; cases t1; exact fin_d h s (by simpa using RD.tup h2 t2)
      · subst e; cases t2; exact fin_d h s (by simpa using RD.tup h1 t1)
      · exact fin_tup h s (t1.append t2) hp
    · exact h.elim
  · obtain ⟨a, vs, rfl, h1, t1⟩ := r1.val.tup'
    obtain rfl := r2.int
    split at h
    · rename_i xs k c
      refine ⟨_, op_repA, a, _, vs, rfl, rfl, h1, c.2.2.1, c.2.2.2, ?_, ?_, fun e => ?_, fun _ p hp => fin_tup h s (t1.flat _) hp⟩
      · rw [← t1.length]; exact of_decide_eq_true c.1
      · rw [← t1.length]; exact of_decide_eq_true c.2.1
      · have : (List.replicate k.toNat xs).flatten = xs := by
          rcases e with e | e
          · subst e
            cases t1
            simp
          · subst e
            simp
        rw [this] at h
        exact fin_d h s (RD.tup h1 t1)
    · exact h.elim
  · split at h
    · rename_i a b xs ys e1 e2
      split at h
      · rename_i c
        obtain ⟨p, vs, rfl, h1, t1⟩ := r1.seqM s e1
        obtain ⟨q, ws, rfl, h2, t2⟩ := r2.seqM s e2
        refine ⟨_, op_cat, p, q, vs, ws, rfl, rfl, h1, h2, ?_, fun p hp => fin_lst h s (t1.append t2) hp⟩
        rw [← t1.length, ← t2.length]; exact line_of c
      · exact h.elim
    · exact h.elim
  · split at h
    · rename_i xs e1
      split at h
      · rename_i c
        obtain ⟨p, vs, rfl, h1, t1⟩ := r1.seqM s e1
        obtain rfl := r2.int
        refine ⟨_, op_rep, p, _, vs, rfl, rfl, h1, by omega, by omega, ?_, fun p hp => fin_lst h s (t1.flat _) hp⟩
        rw [← t1.length]; exact line_of c.1
      · exact h.elim
    · exact h.elim
  · exact h.elim
/-! ### comparisons -/
mutual
theorem toPy_dp {K : PySem.W.Frag} {mg : Str → Option Value} (s : RS K mg H ρ st) : ∀ (n : Nat) (x : D) (d : PyData) (v : V), toPy st n x = some d → RD K mg H ρ x v → Dp K H v d
  | 0, _, _, _, h, _ => by simp [toPy] at h
  | n + 1, x, d, v, h, r => by
    cases r with
    | non => simp [toPy] at h; subst h; exact .non
    | bl b => simp [toPy] at h; subst h; exact .bl b
    | int b => simp [toPy] at h; subst h; exact .int b
    | str b => simp [toPy] at h; subst h; exact .str b
    | ty b => simp [toPy] at h
    | obj b => simp [toPy] at h
    | exn0 _ _ => simp [toPy] at h
    | exn1 _ _ _ _ => simp [toPy] at h
    | tup h1 h2 =>
      simp only [toPy, Option.map_eq_some_iff] at h
      obtain ⟨ds, e, rfl⟩ := h
      exact .tup h1 (toPys_dp s n _ _ _ e h2)
    | rol h1 h2 =>
      simp only [toPy, Option.map_eq_some_iff] at h
      obtain ⟨ds, e, rfl⟩ := h
      exact .lst h1.l (toPys_dp s n _ _ _ e h2)
    | loc h1 =>
      simp only [toPy] at h
      split at h
      · rename_i xs e1
        simp only [Option.map_eq_some_iff] at h
        obtain ⟨ds, e, rfl⟩ := h
        obtain ⟨vs, g1, g2⟩ := s.lst h1 e1
        exact .lst (.inl (.inl g1)) (toPys_dp s n _ _ _ e g2)
      · cases h
theorem toPys_dp {K : PySem.W.Frag} {mg : Str → Option Value} (s : RS K mg H ρ st) : ∀ (n : Nat) (x : List D) (d : List PyData) (v : List V), toPys st n x = some d → RDs K mg H ρ x v → DpAll K H v d
  | 0, _, _, _, h, _ => by simp [toPys] at h
  | n + 1, x, d, v, h, r => by
    cases r with
    | nil => simp [toPys] at h; subst h; exact .nil
    | cons h1 h2 =>
      simp only [toPys] at h
      split at h
      · rename_i a b e1 e2
        cases h
        exact .cons (toPy_dp s n _ _ _ e1 h1) (toPys_dp s n _ _ _ e2 h2)
      · cases h
end
theorem RA.dp {K : PySem.W.Frag} {mg : Str → Option Value} (s : RS K mg H ρ st) {d : PyData} (r : RA K mg H0 H ρ x v) (h : toPyA st x = some d) : Dp K H v d := by
  cases r with
  | d r => exact toPy_dp s _ _ _ _ h r
  | l h1 h2 h3 h4 =>
    simp only [toPyA, Option.map_eq_some_iff] at h
    obtain ⟨ds, e, rfl⟩ := h
    exact .lst (.inl (.inl h3)) (toPys_dp s _ _ _ _ e h4)
theorem eqA_dp {K : PySem.W.Frag} {mg : Str → Option Value} (s : RS K mg H ρ st) {b : Bool} (r1 : RA K mg H0 H ρ x v) (r2 : RA K mg H1 H ρ y u) (h : eqA st x y = some b) :
    ∃ d e, Dp K H v d ∧ Dp K H u e ∧ SeqAt.shaped d = true ∧ SeqAt.shaped e = true ∧ b = PyData.eqv d e := by
  unfold eqA at h
  split at h
  · rename_i d e h1 h2
    split at h
    · rename_i c
      cases h
      exact ⟨d, e, r1.dp s h1, r2.dp s h2, c.1, c.2, rfl⟩
    · cases h
  · cases h
theorem RA.isN {K : PySem.W.Frag} {mg : Str → Option Value} (r : RA K mg H0 H ρ x v) : decide (v = .non) = (match x with | .d .non => true | _ => false) := by
  cases r with
  | d r => cases r <;> simp
  | l h1 h2 h3 h4 => simp
theorem emp2_ok {K : PySem.W.Frag} {mg : Str → Option Value} (s : RS K mg H ρ st) {b : Bool} (r1 : RA K mg H0 H ρ x v) (r2 : RA K mg H1 H ρ y u) (h : emp2 st x y = some b) :
    ∃ p p2 vs ws, v = .ref p ∧ u = .ref p2 ∧ ((SqT K H p vs ∧ SqT K H p2 ws) ∨ (SqL K H p vs ∧ SqL K H p2 ws)) ∧ (vs = [] ∨ ws = []) ∧ b = decide (vs.length = ws.length) := by
  have emp : ∀ {xs ys : List D} {vs ws : List V}, RDs K mg H ρ xs vs → RDs K mg H ρ ys ws → (xs.isEmpty || ys.isEmpty) = true → (vs = [] ∨ ws = []) := fun t1 t2 h => by
    rcases Bool.or_eq_true_iff.mp h with h | h
    · rw [List.isEmpty_iff] at h; subst h; cases t1; exact .inl rfl
    · rw [List.isEmpty_iff] at h; subst h; cases t2; exact .inr rfl
  unfold emp2 at h
  split at h
  · rename_i xs ys e1 e2
    split at h
    · rename_i c
      cases h
      have a1 : x = .d (.tup xs) := by
        cases x with
        | d z => cases z <;> simp [tupOf] at e1; rw [e1]
        | l z => simp [tupOf] at e1
      have a2 : y = .d (.tup ys) := by
        cases y with
        | d z => cases z <;> simp [tupOf] at e2; rw [e2]
        | l z => simp [tupOf] at e2
      subst a1 a2
      obtain ⟨p, vs, rfl, h1, t1⟩ := r1.val.tup'
      obtain ⟨p2, ws, rfl, h2, t2⟩ := r2.val.tup'
      exact ⟨p, p2, vs, ws, rfl, rfl, .inl ⟨h1, h2⟩, emp t1 t2 c, by rw [t1.length, t2.length]⟩
    · cases h
  · split at h
    · rename_i xs ys e1 e2
      split at h
      · rename_i c
        cases h
        obtain ⟨p, vs, rfl, h1, t1⟩ := r1.seqL s e1
        obtain ⟨p2, ws, rfl, h2, t2⟩ := r2.seqL s e2
        exact ⟨p, p2, vs, ws, rfl, rfl, .inr ⟨h1, h2⟩, emp t1 t2 c, by rw [t1.length, t2.length]⟩
      · cases h
    · cases h
  · cases h
theorem vF_ok {K : PySem.W.Frag} {mg : Str → Option Value} {d : D} {w : V} (f : flatD d = true) (r : RD K mg H ρ d w) : w = vF d ∧ flatV w = true := by
  cases d <;> first | (cases f; done) | (cases r; exact ⟨rfl, rfl⟩)
theorem vFs_ok {K : PySem.W.Frag} {mg : Str → Option Value} : ∀ {xs : List D} {ws : List V}, xs.all flatD = true → RDs K mg H ρ xs ws → ws = xs.map vF ∧ ws.all flatV = true
  | [], _, _, r => by cases r; exact ⟨rfl, rfl⟩
  | x :: xs, _, f, r => by
    rw [List.all_cons, Bool.and_eq_true] at f
    cases r with
    | cons a t =>
      obtain ⟨rfl, h1⟩ := vF_ok f.1 a
      obtain ⟨rfl, h2⟩ := vFs_ok f.2 t
      exact ⟨rfl, by rw [List.all_cons, h1, h2]; rfl⟩
theorem inA_ok {K : PySem.W.Frag} {mg : Str → Option Value} (s : RS K mg H ρ st) {b : Bool} (r1 : RA K mg H0 H ρ x v) (r2 : RA K mg H1 H ρ y u) (h : inA st x y = some b) :
    ∃ p ws, u = .ref p ∧ (SqL K H p ws ∨ SqT K H p ws) ∧ flatV v = true ∧ ws.all flatV = true ∧ b = inV v ws := by
  unfold inA at h
  split at h
  · rename_i d ys e
    split at h
    · rename_i c
      cases h
      obtain ⟨p, ws, rfl, hq, t⟩ := r2.seq s e
      obtain ⟨rfl, f1⟩ := vF_ok c.1 r1.val
      obtain ⟨rfl, f2⟩ := vFs_ok c.2 t
      refine ⟨p, _, rfl, hq, f1, f2, ?_⟩
      unfold inV
      rw [List.any_map]
      rfl
    · cases h
  · cases h
theorem cmpA_ok {op : CmpOp} {b : Bool} (hu : X.A.units + 64 < cLine) (s : RS X.K X.mg H ρ st) (r1 : RA X.K X.mg H0 H ρ x v) (r2 : RA X.K X.mg H1 H ρ y u) (h : cmpA op x y st = some b) (q : Q (.bl b) H) : anyOp X (compareOp op) v u H Q := by
  unfold cmpA at h
  split at h
  · obtain rfl := r1.int; obtain rfl := r2.int; cases h; exact ⟨_, op_lt, _, _, rfl, rfl, q⟩
  · obtain rfl := r1.int; obtain rfl := r2.int; cases h; exact ⟨_, op_le, _, _, rfl, rfl, q⟩
  · obtain rfl := r1.int; obtain rfl := r2.int; cases h; exact ⟨_, op_gt, _, _, rfl, rfl, q⟩
  · obtain rfl := r1.int; obtain rfl := r2.int; cases h; exact ⟨_, op_ge, _, _, rfl, rfl, q⟩
  · unfold eqB at h
    split at h
    · rename_i r e
      cases h
      obtain ⟨p, p2, vs, ws, rfl, rfl, h1, h2, rfl⟩ := emp2_ok s r1 r2 e
      exact ⟨_, op_eqE hu, p, p2, vs, ws, rfl, rfl, h1, h2, q⟩
    · obtain ⟨d, e, h1, h2, h3, h4, rfl⟩ := eqA_dp s r1 r2 h
      exact ⟨_, op_eqD hu, d, e, h1, h2, h3, h4, q⟩
  · simp only [Option.map_eq_some_iff] at h
    obtain ⟨c, h, rfl⟩ := h
    unfold eqB at h
    split at h
    · rename_i r e
      cases h
      obtain ⟨p, p2, vs, ws, rfl, rfl, h1, h2, rfl⟩ := emp2_ok s r1 r2 e
      exact ⟨_, op_neE hu, p, p2, vs, ws, rfl, rfl, h1, h2, q⟩
    · obtain ⟨d, e, h1, h2, h3, h4, rfl⟩ := eqA_dp s r1 r2 h
      exact ⟨_, op_neD hu, d, e, h1, h2, h3, h4, q⟩
  · obtain ⟨p, ws, rfl, h1, h2, h3, rfl⟩ := inA_ok s r1 r2 h
    exact ⟨_, op_in_seq, p, ws, rfl, h1, h2, h3, by simpa [rIn] using q⟩
  · simp only [Option.map_eq_some_iff] at h
    obtain ⟨c, h, rfl⟩ := h
    obtain ⟨p, ws, rfl, h1, h2, h3, rfl⟩ := inA_ok s r1 r2 h
    exact ⟨_, op_notIn_seq, p, ws, rfl, h1, h2, h3, by simpa [rIn] using q⟩
  · obtain rfl := r1.non; obtain rfl := r2.non; cases h; exact ⟨_, op_isN, rfl, by simpa using q⟩
  · obtain rfl := r1.bl; obtain rfl := r2.bl; cases h; exact ⟨_, op_isBl, _, _, rfl, rfl, q⟩
  · obtain rfl := r2.non; cases h
    refine ⟨_, op_isN, rfl, ?_⟩
    have e := r1.isN
    split at e
    · rename_i hh; exact (hh rfl).elim
    · rw [e]; exact q
  · obtain rfl := r1.non; obtain rfl := r2.non; cases h; exact ⟨_, op_notN, rfl, by simpa using q⟩
  · obtain rfl := r1.bl; obtain rfl := r2.bl; cases h; exact ⟨_, op_notBl, _, _, rfl, rfl, q⟩
  · obtain rfl := r2.non; cases h
    refine ⟨_, op_notN, rfl, ?_⟩
    have e := r1.isN
    split at e
    · rename_i hh; exact (hh rfl).elim
    · rw [e]; exact q
  · cases h
end
end Ev

namespace Ev
open PySem PySem.Spec PyProof.Rows L2

section
variable {X : Cx} {ρ : List Addr} {H H0 H1 : Hp} {σ : L2.St} {W : WX} {st st' : Stt} {env : Env} {x y : A} {v u : V} {Q : V → Hp → Prop} {K : PySem.W.Frag} {mg : Str → Option Value}
theorem RDs.emp {xs : List D} {vs : List V} (h : RDs K mg H ρ xs vs) : xs.isEmpty = vs.isEmpty := by
  cases h <;> rfl
theorem truA_ok {b : Bool} (s : RS K mg H ρ st) (r : RA K mg H0 H ρ x v) (h : truA x st = .ok b st') : st' = st ∧ TruV K v H b := by
  unfold truA at h
  split at h
  · cases h; obtain rfl := r.non; exact ⟨rfl, rfl⟩
  · cases h; obtain rfl := r.bl; exact ⟨rfl, rfl⟩
  · cases h; obtain rfl := r.int; exact ⟨rfl, rfl⟩
  · rename_i y
    obtain rfl := r.str
    split at h
    · rename_i c
      cases h
      refine ⟨rfl, line_of c, ?_⟩
      cases y.length with
      | zero => rfl
      | succ n =>
        have e1 : ((n + 1 : Nat) != 0) = true := by simp
        have e2 : (((n + 1 : Nat) : Int) != 0) = true := by simp; omega
        rw [e1, e2]
    · cases h
  · cases h
    obtain ⟨a, vs, rfl, h1, h2⟩ := r.val.tup'
    exact ⟨rfl, .inr (.inl ⟨vs, h1, by rw [h2.emp]⟩)⟩
  · split at h
    · rename_i xs e
      cases h
      obtain ⟨a, vs, rfl, h1, h2⟩ := r.seqL s e
      exact ⟨rfl, .inl ⟨vs, h1, by rw [h2.emp]⟩⟩
    · cases h
theorem truA_exc {c : Str} {fs : List D} (h : truA x st = .exc c fs st') : False := by
  unfold truA at h
  split at h
  · cases h
  · cases h
  · cases h
  · split at h <;> cases h
  · cases h
  · split at h <;> cases h

/-! ### subscripts -/
theorem atI_rds {xs : List D} {vs : List V} {k : Int} {d : D} (h : RDs K mg H ρ xs vs) (e : atI xs k = some d) : ∃ w, atI vs k = some w ∧ RD K mg H ρ d w := by
  unfold atI at e ⊢
  rw [← h.length]
  cases q : ixN xs.length k with
  | none => rw [q] at e; cases e
  | some j =>
    rw [q] at e
    exact h.get e
theorem ixA_ok {z : A} (s : RS X.K X.mg H ρ st) (r1 : RA X.K X.mg H0 H ρ x v) (r2 : RA X.K X.mg H1 H ρ y u) (h : ixA x y st = some z) (q : KR X.K X.mg (RA X.K X.mg) W σ Q H ρ (.ok z st)) : anyIx X v u H Q := by
  unfold ixA at h
  split at h
  · rename_i k
    obtain rfl := r2.int
    split at h
    · rename_i xs e
      simp only [Option.map_eq_some_iff] at h
      obtain ⟨d, e2, rfl⟩ := h
      obtain ⟨p, vs, rfl, hq, t⟩ := r1.seq s e
      obtain ⟨w, e3, rw3⟩ := atI_rds t e2
      rcases hq with hq | hq
      · exact ⟨_, ix_list, p, vs, k, w, rfl, rfl, hq, e3, fin_d q s rw3⟩
      · exact ⟨_, ix_tup, p, vs, k, w, rfl, rfl, hq, e3, fin_d q s rw3⟩
    · split at h
      · rename_i y _
        obtain rfl := r1.str
        split at h
        · rename_i c
          simp only [Option.map_eq_some_iff] at h
          obtain ⟨d, e2, rfl⟩ := h
          exact ⟨_, ix_str, y, k, d, rfl, rfl, line_of c, e2, fin_d q s (.str _)⟩
        · cases h
      · cases h
  · cases h
theorem cut_rds {xs : List D} {vs : List V} (h : RDs K mg H ρ xs vs) (lo hi : Option Int) : RDs K mg H ρ (cutD xs lo hi) (cutV vs lo hi) := by
  unfold cutD cutV
  rw [← h.length]
  exact (h.drop _).take _
theorem slA_ok {z : A} {lo hi : Option Int} (s : RS X.K X.mg H ρ st) (r1 : RA X.K X.mg H0 H ρ x v) (h : slA x lo hi st = some z) (q : KR X.K X.mg (RA X.K X.mg) W σ Q H ρ (.ok z st)) : anySl X v lo hi H Q := by
  unfold slA at h
  split at h
  · rename_i xs e
    cases h
    obtain ⟨p, vs, rfl, hq, t⟩ := r1.seqT e
    refine ⟨_, sl_tupA, p, vs, rfl, hq, fun w => ?_, fun _ p hp => fin_tup q s (cut_rds t lo hi) hp⟩
    have : cutD xs lo hi = xs := by
      unfold cutD
      rw [← t.length] at w
      rw [w.1, w.2]
      simp
    rw [this] at q
    exact fin_d q s (.tup hq t)
  · simp only [Option.map_eq_some_iff] at h
    obtain ⟨xs, e, rfl⟩ := h
    obtain ⟨p, vs, rfl, hq, t⟩ := r1.seqL s e
    exact ⟨_, sl_list, p, vs, rfl, hq, fun p hp => fin_lst q s (cut_rds t lo hi) hp⟩

/-! ### types -/
theorem tyA_ok {t : String} (s : RS K mg H ρ st) (r : RA K mg H0 H ρ x v) (h : tyA st x = some t) : TyX K H v (.type t) := by
  unfold tyA at h
  split at h
  · cases h
    cases r with
    | l h1 h2 h3 h4 => exact .base (.lst h3)
  · cases h; obtain rfl := r.non; exact .base .non
  · cases h; obtain rfl := r.bl; exact .base (.bl _)
  · cases h; obtain rfl := r.int; exact .base (.int _)
  · cases h; obtain rfl := r.str; exact .base (.str _)
  · cases h
    obtain ⟨a, vs, rfl, h1, h2⟩ := r.val.tup'
    rcases h1 with (h1 | ⟨o, h1⟩) | ⟨o, its, n, h1, h2, _⟩
    · exact .base (.tup h1)
    · exact .fTuple h1
    · exact .kTuple h1 h2
  · cases h
    cases r.val with
    | rol h1 _ =>
      rcases h1 with ⟨o, h1⟩ | ⟨o, its, n, h1, h2, _⟩
      · exact .base (.frz h1)
      · exact .kList h1 h2
  · split at h
    · rename_i xs e
      cases h
      cases r.val with
      | loc q =>
        cases s.at' _ _ _ q e with
        | lst h1 _ => exact .base (.lst h1)
    · rename_i xs e
      cases h
      cases r.val with
      | loc q =>
        cases s.at' _ _ _ q e with
        | dic h1 _ => exact .base (.dK h1)
    · cases h
  · cases h
end
end Ev

namespace Ev
open PySem PySem.Spec PyProof.Rows L2

/-- what a def that runs F promises -/
def spD (K : PySem.W.Frag) (mg : Str → Option Value) (n : Nat) (F : List D → M D) : Sp := fun vs H Q E =>
  vs.length = n ∧ ∃ ρ xs st, RDs K mg H ρ xs vs ∧ RS K mg H ρ st ∧ KR K mg (rD K mg) (fun cls d _ H' => E cls d H') [] Q H ρ (F xs st)
/-- the built-ins that no text here takes the names of -/
def allB : List Str := ["len", "all", "any", "sum", "abs", "max", "min", "int", "str", "list", "tuple", "bool", "dict", "isinstance", "range", "zip", "enumerate", "sorted", "set", "repr", "ValueError"]
structure GOk (P : Program) (w : World) (K : PySem.W.Frag) (mg : Str → Option Value) (base : Heap) (k : Nat) (G : Gam) : Prop where
  fn : ∀ f F, G.fn f = some F → ∃ a fd ps, mg f = some (.ref a) ∧ PySem.W.keepIn K (.ref a) = true ∧ Binds K fd ps [] ∧ FnOk P w K mg base (L2.CX P w) k a fd ps (spD K mg ps.length F) ∧ ∀ xs st, (∃ z, F xs st = z ∧ z ≠ .bad) → xs.length = ps.length
  gc : ∀ x d, G.gc x = some d → ∃ u v, mg x = some u ∧ RelV v u ∧ ∀ H ρ, RD K mg H ρ d v
  bt : ∀ x ∈ allB, mg x = none
  xc : ∀ c, G.xc c = true → ∃ C bmB B newId initId, mg c = some (.ref C) ∧ PySem.W.keepIn K (.ref C) = true ∧ ExcBaseFacts B newId initId bmB ∧ PySem.W.excIn K C bmB newId = true ∧ PySem.W.subIn K (.ref C) (.type "BaseException") = some true ∧ PySem.W.typeIn K (.ref C) = some (.type "type")
  ist : ∀ e c b, G.ist e c = some b → ∃ C, mg e = some (.ref C) ∧ ExcC K C ∧ ((∃ D, mg c = some (.ref D) ∧ PySem.W.kitOne K (.ref C) (.ref D) = some b) ∨ (c = "ValueError" ∧ PySem.W.kitOne K (.ref C) (.type "ValueError") = some b))
  cl : ∀ c ∈ G.cl, ∃ D, mg c = some (.ref D)
  sub : ∀ c' c b, G.sub c' c = some b → ∃ C D, mg c' = some (.ref C) ∧ mg c = some (.ref D) ∧ PySem.W.exmOne K (.ref C) (.ref D) = some b
structure Gd (X : Cx) (k : Nat) : Prop where
  calm : X.calm = true
  nd : X.N.Nodup
  room : Room k X.A
  pass : PassesOwn (model X.prog X.w) X.A X.env X.xe
abbrev GX (X : Cx) (k : Nat) (G : Gam) : Prop := GOk X.prog X.w X.K X.mg X.base k G
theorem Gd.hu {X : Cx} {k : Nat} (g : Gd X k) : X.A.units + 64 < cLine := g.room.units

section
variable {X : Cx} {k : Nat} {G : Gam} {a b c e : Expr} {es : List Expr} {ma mb mc : Env → Stt → Rs A} {pos : Pos}
theorem KR.ofO {K : PySem.W.Frag} {mg : Str → Option Value} {α β : Type} {rel : Rl α β} {W : WX} {σ : L2.St} {Q : β → Hp → Prop} {H : Hp} {ρ : List Addr} {o : Option α} {st : Stt} (h : KR K mg rel W σ Q H ρ (Ev.ofO o st)) : ∃ z, o = some z ∧ KR K mg rel W σ Q H ρ (.ok z st) := by
  cases o with
  | none => exact h.elim
  | some z => exact ⟨z, rfl, h⟩

theorem ja_v {i : Nat} {x : Str} (hN : X.N[i]? = some x) (hv : Vis X.env.scope x) (hd : (x == ("__debug__" : Str)) = false) (hcd : (x == ("__classdict__" : Str)) = false) : JA X (fun env st => evA G env (.v i) st) (.Name x pos) := by
  intro W tk
  refine PE.imp (pe_var hN hv hd hcd) ?_
  rintro σ H Q ⟨ρ, env, st, he, hs, h⟩
  simp only [evA] at h
  split at h
  · rename_i d e
    obtain ⟨v, h1, h2⟩ := he.2 _ _ e
    exact ⟨v, h1, fin_d h hs h2⟩
  · exact h.elim
theorem ja_int {i : Int} {j : Nat} : JA X (fun env st => evA G env (.c (.int i)) st) (.Constant (.int i) j pos) := by
  intro W tk
  refine PE.imp pe_int ?_
  rintro σ H Q ⟨ρ, env, st, he, hs, h⟩
  exact fin_d h hs (.int _)
theorem ja_bl {i : Bool} {j : Nat} : JA X (fun env st => evA G env (.c (.bl i)) st) (.Constant (.bool i) j pos) := by
  intro W tk
  refine PE.imp pe_bl ?_
  rintro σ H Q ⟨ρ, env, st, he, hs, h⟩
  exact fin_d h hs (.bl _)
theorem ja_non {j : Nat} : JA X (fun env st => evA G env (.c .non) st) (.Constant .none j pos) := by
  intro W tk
  refine PE.imp pe_non ?_
  rintro σ H Q ⟨ρ, env, st, he, hs, h⟩
  exact fin_d h hs .non
theorem ja_str {x : Str} {j : Nat} : JA X (fun env st => evA G env (.c (.str x)) st) (.Constant (.str x) j pos) := by
  intro W tk
  refine PE.imp pe_str ?_
  rintro σ H Q ⟨ρ, env, st, he, hs, h⟩
  exact fin_d h hs (.str _)
/-- where nothing is told the wish is not met -/
theorem ja_g {x : Str} (gx : GX X k G) (hg : Gl X x) (hd : (x == ("__debug__" : Str)) = false) : JA X (fun env st => evA G env (.g x) st) (.Name x pos) := by
  intro W tk
  cases q : G.gc x with
  | none =>
    cases qf : G.fn x with
    | none =>
      refine ⟨fun pins s σ H Q I h => ?_⟩
      obtain ⟨ρ, env, st, he, hs, h⟩ := h
      simp only [evA, q, qf] at h
      exact h.elim
    | some F =>
      obtain ⟨a, fd, ps, h1, _⟩ := gx.fn x F qf
      refine PE.imp (pe_glob (v := .ref a) hg h1 rfl hd) ?_
      rintro σ H Q ⟨ρ, env, st, he, hs, h⟩
      simp only [evA, q, qf, Option.isSome_some, if_true] at h
      exact fin_d h hs (.obj h1)
  | some d =>
    obtain ⟨u, v, h1, h2, h3⟩ := gx.gc x d q
    refine PE.imp (pe_glob hg h1 h2 hd) ?_
    rintro σ H Q ⟨ρ, env, st, he, hs, h⟩
    simp only [evA, q] at h
    exact fin_d h hs (h3 H ρ)
theorem ja_bin {op : Operator} {xa xb : Ex} (ha : JA X (fun env st => evA G env xa st) a) (hb : JA X (fun env st => evA G env xb st) b) : JA X (fun env st => evA G env (.bin op xa xb) st) (.BinOp a op b pos) := by
  intro W tk
  refine PE.imp (pe_op op_any (ha W tk) (hb W tk)) ?_
  rintro σ H Q ⟨ρ, env, st, he, hs, h⟩
  simp only [evA] at h
  refine ⟨ρ, env, st, he, hs, KR.bind h ?_⟩
  intro x st1 v1 H1 ρ1 e1 s1 r1 h1
  refine ⟨ρ1, env, st1, he.mono e1, s1, KR.bind (h1.ext anti_A e1) ?_⟩
  intro y st2 v2 H2 ρ2 e2 s2 r2 h2
  exact binA_ok s2 (r1.mono e2) r2 (h2.ext anti_A e2)
theorem ja_neg {xa : Ex} (ha : JA X (fun env st => evA G env xa st) a) : JA X (fun env st => evA G env (.neg xa) st) (.UnaryOp .USub a pos) := by
  intro W tk
  refine PE.imp (pe_un un_neg (ha W tk)) ?_
  rintro σ H Q ⟨ρ, env, st, he, hs, h⟩
  simp only [evA] at h
  refine ⟨ρ, env, st, he, hs, KR.bind h ?_⟩
  intro x st1 v1 H1 ρ1 e1 s1 r1 h1
  split at h1
  · obtain rfl := r1.int
    exact ⟨_, rfl, fin_d (h1.ext anti_A e1) s1 (.int _)⟩
  · exact h1.elim
theorem KR.tru {K : PySem.W.Frag} {mg : Str → Option Value} {γ δ : Type} {rel2 : Rl γ δ} {W : WX} {σ : L2.St} {H H0 H1 : Hp} {ρ ρ1 : List Addr} {x : A} {v : V} {st : Stt} {Q : δ → Hp → Prop} {kk : Bool → M γ} (s : RS K mg H1 ρ1 st) (r : RA K mg H0 H1 ρ1 x v)
    (h : KR K mg rel2 W σ Q H ρ ((truA x st).bind kk)) : ∃ b, TruV K v H1 b ∧ KR K mg rel2 W σ Q H ρ (kk b st) := by
  cases q : truA x st with
  | ok b st' =>
    obtain ⟨rfl, t⟩ := truA_ok s r q
    rw [q] at h
    exact ⟨b, t, h⟩
  | exc c fs st' => exact (truA_exc q).elim
  | bad => rw [q] at h; exact h.elim
theorem ja_nt {xa : Ex} (ha : JA X (fun env st => evA G env xa st) a) : JA X (fun env st => evA G env (.nt xa) st) (.UnaryOp .Not a pos) := by
  intro W tk
  refine PE.imp (pe_notT (ha W tk)) ?_
  rintro σ H Q ⟨ρ, env, st, he, hs, h⟩
  simp only [evA] at h
  refine ⟨ρ, env, st, he, hs, KR.bind h ?_⟩
  intro x st1 v1 H1 ρ1 e1 s1 r1 h1
  obtain ⟨t, tv, h2⟩ := KR.tru s1 r1 h1
  exact ⟨t, tv, fin_d (h2.ext anti_A e1) s1 (.bl _)⟩
theorem ja_one {op : BoolOp} {xa : Ex} (ha : JA X (fun env st => evA G env xa st) a) : JA X (fun env st => evA G env xa st) (.BoolOp op [a] pos) := fun W tk => pe_one (ha W tk)
theorem ja_and {rest : List Expr} {xa xb : Ex} {r : Es} (ha : JA X (fun env st => evA G env xa st) a) (hb : JA X (fun env st => evAnd G env (.cons xb r) st) (.BoolOp .And (b :: rest) pos)) : JA X (fun env st => evAnd G env (.cons xa (.cons xb r)) st) (.BoolOp .And (a :: b :: rest) pos) := by
  intro W tk
  refine PE.imp (pe_andT (ha W tk) (hb W tk)) ?_
  rintro σ H Q ⟨ρ, env, st, he, hs, h⟩
  simp only [evAnd] at h
  refine ⟨ρ, env, st, he, hs, KR.bind h ?_⟩
  intro x st1 v1 H1 ρ1 e1 s1 r1 h1
  obtain ⟨t, tv, h2⟩ := KR.tru s1 r1 h1
  refine ⟨t, tv, ?_⟩
  cases t with
  | true =>
    rw [if_pos rfl] at h2 ⊢
    exact ⟨ρ1, env, st1, he.mono e1, s1, by simpa only [evAnd] using h2.ext anti_A e1⟩
  | false =>
    rw [if_neg Bool.false_ne_true] at h2 ⊢
    exact h2 v1 H1 ρ1 e1 s1 r1
theorem ja_or {rest : List Expr} {xa xb : Ex} {r : Es} (ha : JA X (fun env st => evA G env xa st) a) (hb : JA X (fun env st => evOr G env (.cons xb r) st) (.BoolOp .Or (b :: rest) pos)) : JA X (fun env st => evOr G env (.cons xa (.cons xb r)) st) (.BoolOp .Or (a :: b :: rest) pos) := by
  intro W tk
  refine PE.imp (pe_orT (ha W tk) (hb W tk)) ?_
  rintro σ H Q ⟨ρ, env, st, he, hs, h⟩
  simp only [evOr] at h
  refine ⟨ρ, env, st, he, hs, KR.bind h ?_⟩
  intro x st1 v1 H1 ρ1 e1 s1 r1 h1
  obtain ⟨t, tv, h2⟩ := KR.tru s1 r1 h1
  refine ⟨t, tv, ?_⟩
  cases t with
  | false =>
    rw [if_neg Bool.false_ne_true] at h2 ⊢
    exact ⟨ρ1, env, st1, he.mono e1, s1, by simpa only [evOr] using h2.ext anti_A e1⟩
  | true =>
    rw [if_pos rfl] at h2 ⊢
    exact h2 v1 H1 ρ1 e1 s1 r1
theorem ja_cmp {op : CmpOp} {xa xb : Ex} (gd : Gd X k) (ha : JA X (fun env st => evA G env xa st) a) (hb : JA X (fun env st => evA G env xb st) b) (hm : behindInMarks op b = false) : JA X (fun env st => evA G env (.cmp xa op xb) st) (.Compare a [op] [b] pos) := by
  intro W tk
  refine PE.imp (pe_cmpR op_any (ha W tk) (hb W tk) hm) ?_
  rintro σ H Q ⟨ρ, env, st, he, hs, h⟩
  simp only [evA] at h
  refine ⟨ρ, env, st, he, hs, KR.bind h ?_⟩
  intro x st1 v1 H1 ρ1 e1 s1 r1 h1
  refine ⟨ρ1, env, st1, he.mono e1, s1, KR.bind (h1.ext anti_A e1) ?_⟩
  intro y st2 v2 H2 ρ2 e2 s2 r2 h2
  obtain ⟨z, ez, h3⟩ := KR.ofO h2
  simp only [Option.map_eq_some_iff] at ez
  obtain ⟨t, ez, rfl⟩ := ez
  exact cmpA_ok gd.hu s2 (r1.mono e2) r2 ez (fin_d (h3.ext anti_A e2) s2 (.bl _))
theorem ja_cmp2 {op op' : CmpOp} {xa xb xc : Ex} (gd : Gd X k) (ha : JA X (fun env st => evA G env xa st) a) (hb : JA X (fun env st => evA G env xb st) b) (hc : JA X (fun env st => evA G env xc st) c) (hm : lastMarks [op, op'] [b, c] = false) :
    JA X (fun env st => evA G env (.cmp2 xa op xb op' xc) st) (.Compare a [op, op'] [b, c] pos) := by
  intro W tk
  refine PE.imp (pe_chain op_any op_any (ha W tk) (hb W tk) (hc W tk) hm) ?_
  rintro σ H Q ⟨ρ, env, st, he, hs, h⟩
  simp only [evA] at h
  refine ⟨ρ, env, st, he, hs, KR.bind h ?_⟩
  intro x st1 v1 H1 ρ1 e1 s1 r1 h1
  refine ⟨ρ1, env, st1, he.mono e1, s1, KR.bind (h1.ext anti_A e1) ?_⟩
  intro y st2 v2 H2 ρ2 e2 s2 r2 h2
  cases q : cmpA op x y st2 with
  | none => rw [q] at h2; exact h2.elim
  | some t =>
    rw [q] at h2
    have h3 := h2.ext anti_A e2
    refine cmpA_ok gd.hu s2 (r1.mono e2) r2 q ⟨t, rfl, ?_⟩
    cases t with
    | false =>
      rw [if_neg Bool.false_ne_true]
      exact fin_d h3 s2 (.bl _)
    | true =>
      rw [if_pos rfl]
      refine ⟨ρ2, env, st2, (he.mono e1).mono e2, s2, KR.bind (rel2 := RA X.K X.mg) (Q := Q) (k := fun z st => ofO ((cmpA op' y z st).map fun r => A.d (.bl r)) st) h3 ?_⟩
      intro z st3 v3 H3 ρ3 e3 s3 r3 h4
      obtain ⟨z', ez, h5⟩ := KR.ofO h4
      simp only [Option.map_eq_some_iff] at ez
      obtain ⟨t, ez, rfl⟩ := ez
      exact cmpA_ok gd.hu s3 (r2.mono e3) r3 ez (fin_d (h5.ext anti_A e3) s3 (.bl _))
theorem ja_cmp3 {d : Expr} {op op' op2 : CmpOp} {xa xb xc xd : Ex} (gd : Gd X k) (ha : JA X (fun env st => evA G env xa st) a) (hb : JA X (fun env st => evA G env xb st) b) (hc : JA X (fun env st => evA G env xc st) c) (hd : JA X (fun env st => evA G env xd st) d) (hm : lastMarks [op, op', op2] [b, c, d] = false) :
    JA X (fun env st => evA G env (.cmp3 xa op xb op' xc op2 xd) st) (.Compare a [op, op', op2] [b, c, d] pos) := by
  intro W tk
  refine PE.imp (pe_chain3 op_any op_any op_any (ha W tk) (hb W tk) (hc W tk) (hd W tk) hm) ?_
  rintro σ H Q ⟨ρ, env, st, he, hs, h⟩
  simp only [evA] at h
  refine ⟨ρ, env, st, he, hs, KR.bind h ?_⟩
  intro x st1 v1 H1 ρ1 e1 s1 r1 h1
  refine ⟨ρ1, env, st1, he.mono e1, s1, KR.bind (h1.ext anti_A e1) ?_⟩
  intro y st2 v2 H2 ρ2 e2 s2 r2 h2
  cases q : cmpA op x y st2 with
  | none => rw [q] at h2; exact h2.elim
  | some t =>
    rw [q] at h2
    have h3 := h2.ext anti_A e2
    refine cmpA_ok gd.hu s2 (r1.mono e2) r2 q ⟨t, rfl, ?_⟩
    cases t with
    | false =>
      rw [if_neg Bool.false_ne_true]
      exact fin_d h3 s2 (.bl _)
    | true =>
      rw [if_pos rfl]
      refine ⟨ρ2, env, st2, (he.mono e1).mono e2, s2, KR.bind (rel2 := RA X.K X.mg) (Q := Q) (k := fun z st => (ofO (cmpA op' y z st) st).bind fun r st => if r = true then (evA G env xd st).bind fun u st => ofO ((cmpA op2 z u st).map fun r => A.d (.bl r)) st else .ok (A.d (.bl false)) st) h3 ?_⟩
      intro z st3 v3 H3 ρ3 e3 s3 r3 h4
      cases q : cmpA op' y z st3 with
      | none => rw [q] at h4; exact h4.elim
      | some t =>
        rw [q] at h4
        have h5 := h4.ext anti_A e3
        refine cmpA_ok gd.hu s3 (r2.mono e3) r3 q ⟨t, rfl, ?_⟩
        cases t with
        | false =>
          rw [if_neg Bool.false_ne_true]
          exact fin_d h5 s3 (.bl _)
        | true =>
          rw [if_pos rfl]
          refine ⟨ρ3, env, st3, ((he.mono e1).mono e2).mono e3, s3, KR.bind (rel2 := RA X.K X.mg) (Q := Q) (k := fun u st => ofO ((cmpA op2 z u st).map fun r => A.d (.bl r)) st) h5 ?_⟩
          intro u st4 v4 H4 ρ4 e4 s4 r4 h6
          obtain ⟨z', ez, h7⟩ := KR.ofO h6
          simp only [Option.map_eq_some_iff] at ez
          obtain ⟨t, ez, rfl⟩ := ez
          exact cmpA_ok gd.hu s4 (r3.mono e4) r4 ez (fin_d (h7.ext anti_A e4) s4 (.bl _))
theorem ja_ix {xa xb : Ex} (ha : JA X (fun env st => evA G env xa st) a) (hb : JA X (fun env st => evA G env xb st) b) (hp : PlainIx b) : JA X (fun env st => evA G env (.ix xa xb) st) (.Subscript a b pos) := by
  intro W tk
  refine PE.imp (pe_ix ix_any (ha W tk) (hb W tk) hp) ?_
  rintro σ H Q ⟨ρ, env, st, he, hs, h⟩
  simp only [evA] at h
  refine ⟨ρ, env, st, he, hs, KR.bind h ?_⟩
  intro x st1 v1 H1 ρ1 e1 s1 r1 h1
  refine ⟨ρ1, env, st1, he.mono e1, s1, KR.bind (h1.ext anti_A e1) ?_⟩
  intro y st2 v2 H2 ρ2 e2 s2 r2 h2
  obtain ⟨z, ez, h3⟩ := KR.ofO h2
  exact ixA_ok s2 (r1.mono e2) r2 ez (h3.ext anti_A e2)
theorem jo_no : JO X (fun env st => evO G env .no st) none := by
  intro W tk
  refine ⟨fun pins s σ H Q I h => po_none.run pins s σ H Q I ?_⟩
  obtain ⟨ρ, env, st, he, hs, h⟩ := h
  exact h none H ρ (Ext.refl _ _) hs rfl
theorem jo_so {xa : Ex} (ha : JA X (fun env st => evA G env xa st) a) : JO X (fun env st => evO G env (.so xa) st) (some a) := by
  intro W tk
  refine ⟨fun pins s σ H Q I h => (po_some (ha W tk)).run pins s σ H Q I ?_⟩
  obtain ⟨ρ, env, st, he, hs, h⟩ := h
  simp only [evO] at h
  refine ⟨ρ, env, st, he, hs, KR.bind h ?_⟩
  intro x st1 v1 H1 ρ1 e1 s1 r1 h1
  obtain ⟨z, ez, h3⟩ := KR.ofO h1
  unfold partA at ez
  split at ez
  · cases ez
    obtain rfl := r1.int
    exact ⟨_, rfl, h3 _ H1 ρ1 e1 s1 rfl⟩
  · cases ez
theorem ja_sl {xa : Ex} {xl xh : Eo} {lo hi : Option Expr} {p2 : Pos} (ha : JA X (fun env st => evA G env xa st) a) (hl : JO X (fun env st => evO G env xl st) lo) (hh : JO X (fun env st => evO G env xh st) hi) :
    JA X (fun env st => evA G env (.sl xa xl xh) st) (.Subscript a (.Slice lo hi none p2) pos) := by
  intro W tk
  refine PE.imp (pe_slice sl_any (ha W tk) (hl W tk) (hh W tk)) ?_
  rintro σ H Q ⟨ρ, env, st, he, hs, h⟩
  simp only [evA] at h
  refine ⟨ρ, env, st, he, hs, KR.bind h ?_⟩
  intro x st1 v1 H1 ρ1 e1 s1 r1 h1
  refine ⟨ρ1, env, st1, he.mono e1, s1, KR.bind (h1.ext anti_A e1) ?_⟩
  intro y st2 v2 H2 ρ2 e2 s2 r2 h2
  cases r2
  refine ⟨ρ2, env, st2, (he.mono e1).mono e2, s2, KR.bind (h2.ext anti_A e2) ?_⟩
  intro y st3 v3 H3 ρ3 e3 s3 r3 h3
  cases r3
  obtain ⟨z, ez, h4⟩ := KR.ofO h3
  exact slA_ok s3 ((r1.mono e2).mono e3) ez (h4.ext anti_A e3)
theorem ja_ife {xa xb xt : Ex} {t : Expr} (ht : JT X (fun env st => tst G env xt st) t) (ha : JA X (fun env st => evA G env xa st) a) (hb : JA X (fun env st => evA G env xb st) b) : JA X (fun env st => evA G env (.ife xt xa xb) st) (.IfExp t a b pos) := by
  intro W tk
  refine PE.imp (pe_ifExp (ht W tk) (ha W tk) (hb W tk)) ?_
  rintro σ H Q ⟨ρ, env, st, he, hs, h⟩
  have e0 : evA G env (.ife xt xa xb) st = (tst G env xt st).bind fun r st => if r = true then evA G env xa st else evA G env xb st := by
    simp only [evA, tst]
    cases evA G env xt st <;> rfl
  have h : KR X.K X.mg (RA X.K X.mg) W σ Q H ρ (evA G env (.ife xt xa xb) st) := h
  rw [e0] at h
  refine ⟨ρ, env, st, he, hs, KR.bind h ?_⟩
  intro x st1 v1 H1 ρ1 e1 s1 r1 h1
  cases r1
  cases x with
  | true =>
    rw [if_pos rfl] at h1 ⊢
    exact ⟨ρ1, env, st1, he.mono e1, s1, h1.ext anti_A e1⟩
  | false =>
    rw [if_neg Bool.false_ne_true] at h1 ⊢
    exact ⟨ρ1, env, st1, he.mono e1, s1, h1.ext anti_A e1⟩
end
end Ev

namespace Ev
open PySem PySem.Spec PyProof.Rows L2

section
variable {X : Cx} {k : Nat} {G : Gam} {a b c e : Expr} {es : List Expr} {ma mb mc : Env → Stt → Rs A} {pos : Pos}
/-! ### tests -/
theorem jt_of {xa : Ex} (ha : JA X (fun env st => evA G env xa st) a) (he : ∀ whole, isTrue a X.env whole = (do let v ← whole; standAt a.pos; holding [v] (truthy v))) : JT X (fun env st => tst G env xa st) a := by
  intro W tk
  refine PT.imp (pt_truth (ha W tk) he) ?_
  rintro σ H Q ⟨ρ, env, st, he, hs, h⟩
  refine ⟨ρ, env, st, he, hs, KR.bind (m := evA G env xa st) (k := truA) h ?_⟩
  intro x st1 v1 H1 ρ1 e1 s1 r1 h1
  cases q : truA x st1 with
  | ok b st' =>
    obtain ⟨rfl, t⟩ := truA_ok s1 r1 q
    rw [q] at h1
    exact ⟨b, t, h1 b H1 ρ1 e1 s1 rfl⟩
  | exc c fs st' => exact (truA_exc q).elim
  | bad => rw [q] at h1; exact h1.elim
theorem tst_nt {xa : Ex} {env : Env} {st : Stt} : tst G env (.nt xa) st = (tst G env xa st).bind fun b st => .ok (!b) st := by
  simp only [tst, evA]
  cases evA G env xa st with
  | ok x st1 =>
    simp only [Rs.bind]
    cases truA x st1 <;> rfl
  | exc c fs st => rfl
  | bad => rfl
theorem jt_nt {xa : Ex} (ha : JT X (fun env st => tst G env xa st) a) : JT X (fun env st => tst G env (.nt xa) st) (.UnaryOp .Not a pos) := by
  intro W tk
  refine PT.imp (pt_not (ha W tk)) ?_
  rintro σ H Q ⟨ρ, env, st, he, hs, h⟩
  have h : KR X.K X.mg rEq W σ Q H ρ (tst G env (.nt xa) st) := h
  rw [tst_nt] at h
  refine ⟨ρ, env, st, he, hs, KR.bind h ?_⟩
  intro x st1 v1 H1 ρ1 e1 s1 r1 h1
  cases r1
  exact h1 _ H1 ρ1 e1 s1 rfl
theorem jt_cmp {op : CmpOp} {xa xb : Ex} (gd : Gd X k) (ha : JA X (fun env st => evA G env xa st) a) (hb : JA X (fun env st => evA G env xb st) b) (hm : behindInMarks op b = false) : JT X (fun env st => tst G env (.cmp xa op xb) st) (.Compare a [op] [b] pos) := by
  intro W tk
  refine PT.imp (pt_cmpR op_any (ha W tk) (hb W tk) hm) ?_
  rintro σ H Q ⟨ρ, env, st, he, hs, h⟩
  simp only [tst, evA] at h
  cases qa : evA G env xa st with
  | exc c fs st1 => refine ⟨ρ, env, st, he, hs, ?_⟩; simp only [qa, Rs.bind] at h ⊢; exact h
  | bad => rw [qa] at h; exact h.elim
  | ok x st1 =>
    simp only [qa, Rs.bind] at h
    refine ⟨ρ, env, st, he, hs, ?_⟩
    simp only [qa]
    intro v1 H1 ρ1 e1 s1 r1
    refine ⟨ρ1, env, st1, he.mono e1, s1, ?_⟩
    cases qb : evA G env xb st1 with
    | exc c fs st2 => simp only [qb] at h ⊢; exact KR.ext (rel := rEq) anti_eq (m := Rs.exc c fs st2) h e1
    | bad => rw [qb] at h; exact h.elim
    | ok y st2 =>
      simp only [qb] at h ⊢
      intro v2 H2 ρ2 e2 s2 r2
      cases q : cmpA op x y st2 with
      | none => rw [q] at h; exact h.elim
      | some t =>
        simp only [q, Option.map_some, ofO, truA] at h
        exact cmpA_ok (Q := fun z H => ∃ k, z = .bl k ∧ Q k H) gd.hu s2 (r1.mono e2) r2 q ⟨t, rfl, h t H2 ρ2 (e1.trans e2) s2 rfl⟩
theorem jt_cmp2 {op op' : CmpOp} {xa xb xc : Ex} (gd : Gd X k) (ha : JA X (fun env st => evA G env xa st) a) (hb : JA X (fun env st => evA G env xb st) b) (hc : JA X (fun env st => evA G env xc st) c) (hm : lastMarks [op, op'] [b, c] = false) :
    JT X (fun env st => tst G env (.cmp2 xa op xb op' xc) st) (.Compare a [op, op'] [b, c] pos) := by
  intro W tk
  have j := ja_cmp2 (G := G) gd ha hb hc hm (pos := pos) W tk
  refine PT.imp (pt_chain op_any op_any (ha W tk) (hb W tk) (hc W tk) hm) ?_
  rintro σ H Q ⟨ρ, env, st, he, hs, h⟩
  have h : KR X.K X.mg rEq W σ Q H ρ ((evA G env (.cmp2 xa op xb op' xc) st).bind truA) := h
  simp only [evA] at h
  show tChain (anyOp X (compareOp op)) (anyOp X (compareOp op')) _ _ _ σ H fun x H' => ∃ k, x = .bl k ∧ Q k H'
  cases qa : evA G env xa st with
  | exc c fs st1 => refine ⟨ρ, env, st, he, hs, ?_⟩; simp only [qa, Rs.bind] at h ⊢; exact h
  | bad => rw [qa] at h; exact h.elim
  | ok x st1 =>
    simp only [qa, Rs.bind] at h
    refine ⟨ρ, env, st, he, hs, ?_⟩
    simp only [qa]
    intro v1 H1 ρ1 e1 s1 r1
    refine ⟨ρ1, env, st1, he.mono e1, s1, ?_⟩
    cases qb : evA G env xb st1 with
    | exc c fs st2 => simp only [qb] at h ⊢; exact KR.ext (rel := rEq) anti_eq (m := Rs.exc c fs st2) h e1
    | bad => rw [qb] at h; exact h.elim
    | ok y st2 =>
      simp only [qb] at h ⊢
      intro v2 H2 ρ2 e2 s2 r2
      cases q : cmpA op x y st2 with
      | none => rw [q] at h; exact h.elim
      | some t =>
        simp only [q, ofO] at h
        refine cmpA_ok gd.hu s2 (r1.mono e2) r2 q ⟨t, rfl, ?_⟩
        cases t with
        | false =>
          rw [if_neg Bool.false_ne_true]
          rw [if_neg Bool.false_ne_true] at h
          exact ⟨false, rfl, h false H2 ρ2 (e1.trans e2) s2 rfl⟩
        | true =>
          rw [if_pos rfl]
          rw [if_pos rfl] at h
          refine ⟨ρ2, env, st2, (he.mono e1).mono e2, s2, ?_⟩
          cases qc : evA G env xc st2 with
          | exc c fs st2 => simp only [qc] at h ⊢; exact KR.ext (rel := rEq) anti_eq (m := Rs.exc c fs st2) h (e1.trans e2)
          | bad => rw [qc] at h; exact h.elim
          | ok z st3 =>
            simp only [qc] at h ⊢
            intro v3 H3 ρ3 e3 s3 r3
            cases q : cmpA op' y z st3 with
            | none => rw [q] at h; exact h.elim
            | some t =>
              simp only [q, Option.map_some, ofO, truA] at h
              exact cmpA_ok (Q := fun z H => ∃ k, z = .bl k ∧ Q k H) gd.hu s3 (r2.mono e3) r3 q ⟨t, rfl, h t H3 ρ3 ((e1.trans e2).trans e3) s3 rfl⟩
theorem jt_cmp3 {d : Expr} {op op' op2 : CmpOp} {xa xb xc xd : Ex} (gd : Gd X k) (ha : JA X (fun env st => evA G env xa st) a) (hb : JA X (fun env st => evA G env xb st) b) (hc : JA X (fun env st => evA G env xc st) c) (hd : JA X (fun env st => evA G env xd st) d) (hm : lastMarks [op, op', op2] [b, c, d] = false) :
    JT X (fun env st => tst G env (.cmp3 xa op xb op' xc op2 xd) st) (.Compare a [op, op', op2] [b, c, d] pos) := by
  intro W tk
  refine PT.imp (pt_chain3 op_any op_any op_any (ha W tk) (hb W tk) (hc W tk) (hd W tk) hm) ?_
  rintro σ H Q ⟨ρ, env, st, he, hs, h⟩
  have h : KR X.K X.mg rEq W σ Q H ρ ((evA G env (.cmp3 xa op xb op' xc op2 xd) st).bind truA) := h
  simp only [evA] at h
  show tChain3 (anyOp X (compareOp op)) (anyOp X (compareOp op')) (anyOp X (compareOp op2)) _ _ _ _ σ H fun x H' => ∃ k, x = .bl k ∧ Q k H'
  cases qa : evA G env xa st with
  | exc c fs st1 => refine ⟨ρ, env, st, he, hs, ?_⟩; simp only [qa, Rs.bind] at h ⊢; exact h
  | bad => rw [qa] at h; exact h.elim
  | ok x st1 =>
    simp only [qa, Rs.bind] at h
    refine ⟨ρ, env, st, he, hs, ?_⟩
    simp only [qa]
    intro v1 H1 ρ1 e1 s1 r1
    refine ⟨ρ1, env, st1, he.mono e1, s1, ?_⟩
    cases qb : evA G env xb st1 with
    | exc c fs st2 => simp only [qb] at h ⊢; exact KR.ext (rel := rEq) anti_eq (m := Rs.exc c fs st2) h e1
    | bad => rw [qb] at h; exact h.elim
    | ok y st2 =>
      simp only [qb] at h ⊢
      intro v2 H2 ρ2 e2 s2 r2
      cases q : cmpA op x y st2 with
      | none => rw [q] at h; exact h.elim
      | some t =>
        simp only [q, ofO] at h
        refine cmpA_ok gd.hu s2 (r1.mono e2) r2 q ⟨t, rfl, ?_⟩
        cases t with
        | false =>
          rw [if_neg Bool.false_ne_true]
          rw [if_neg Bool.false_ne_true] at h
          exact ⟨false, rfl, h false H2 ρ2 (e1.trans e2) s2 rfl⟩
        | true =>
          rw [if_pos rfl]
          rw [if_pos rfl] at h
          refine ⟨ρ2, env, st2, (he.mono e1).mono e2, s2, ?_⟩
          cases qc : evA G env xc st2 with
          | exc c fs st2 => simp only [qc] at h ⊢; exact KR.ext (rel := rEq) anti_eq (m := Rs.exc c fs st2) h (e1.trans e2)
          | bad => rw [qc] at h; exact h.elim
          | ok z st3 =>
            simp only [qc] at h ⊢
            intro v3 H3 ρ3 e3 s3 r3
            cases q : cmpA op' y z st3 with
            | none => rw [q] at h; exact h.elim
            | some t =>
              simp only [q] at h
              refine cmpA_ok gd.hu s3 (r2.mono e3) r3 q ⟨t, rfl, ?_⟩
              cases t with
              | false =>
                rw [if_neg Bool.false_ne_true]
                rw [if_neg Bool.false_ne_true] at h
                exact ⟨false, rfl, h false H3 ρ3 ((e1.trans e2).trans e3) s3 rfl⟩
              | true =>
                rw [if_pos rfl]
                rw [if_pos rfl] at h
                refine ⟨ρ3, env, st3, ((he.mono e1).mono e2).mono e3, s3, ?_⟩
                cases qd : evA G env xd st3 with
                | exc c fs st4 => simp only [qd] at h ⊢; exact KR.ext (rel := rEq) anti_eq (m := Rs.exc c fs st4) h ((e1.trans e2).trans e3)
                | bad => rw [qd] at h; exact h.elim
                | ok u st4 =>
                  simp only [qd] at h ⊢
                  intro v4 H4 ρ4 e4 s4 r4
                  cases q : cmpA op2 z u st4 with
                  | none => rw [q] at h; exact h.elim
                  | some t =>
                    simp only [q, Option.map_some, truA] at h
                    exact cmpA_ok (Q := fun z H => ∃ k, z = .bl k ∧ Q k H) gd.hu s4 (r3.mono e4) r4 q ⟨t, rfl, h t H4 ρ4 (((e1.trans e2).trans e3).trans e4) s4 rfl⟩
/-- and, or as tests -/
def tstAnd (G : Gam) (env : Env) (es : Es) (st : Stt) : Rs Bool := (evAnd G env es st).bind truA
def tstOr (G : Gam) (env : Env) (es : Es) (st : Stt) : Rs Bool := (evOr G env es st).bind truA
def JW (X : Cx) (m : Env → Stt → Rs Bool) (e : Expr) : Prop := ∀ W, Takes X W → PW X e (tR X.K X.mg rEq m W)
theorem PW.imp {X : Cx} {e : Expr} {t t' : TT} (h : PW X e t) (i : ∀ σ H Q, t' σ H Q → t σ H Q) : PW X e t' := ⟨fun wh pins s σ H Q I q => h.run wh pins s σ H Q I (i σ H Q q)⟩
theorem jw_and1 {xa : Ex} (ha : JT X (fun env st => tst G env xa st) a) : JW X (fun env st => tstAnd G env (.cons xa .nil) st) (.BoolOp .And [a] pos) := fun W tk => by
  have := pw_and1 (pos := pos) (ha W tk)
  simpa only [tstAnd, evAnd, tst] using this
theorem jw_or1 {xa : Ex} (ha : JT X (fun env st => tst G env xa st) a) : JW X (fun env st => tstOr G env (.cons xa .nil) st) (.BoolOp .Or [a] pos) := fun W tk => by
  have := pw_or1 (pos := pos) (ha W tk)
  simpa only [tstOr, evOr, tst] using this
theorem truA_same {x : A} {st st1 : Stt} {b : Bool} (h : truA x st = .ok b st1) : st1 = st := by
  unfold truA at h
  split at h
  · cases h; rfl
  · cases h; rfl
  · cases h; rfl
  · split at h <;> cases h; rfl
  · cases h; rfl
  · split at h <;> cases h; rfl
theorem tstAnd_cons {xa xb : Ex} {r : Es} {env : Env} {st : Stt} : tstAnd G env (.cons xa (.cons xb r)) st = (tst G env xa st).bind fun t st => if t = true then tstAnd G env (.cons xb r) st else .ok false st := by
  simp only [tstAnd, tst]
  rw [show evAnd G env (.cons xa (.cons xb r)) st = (evA G env xa st).bind fun x st => (truA x st).bind fun t st => if t = true then evAnd G env (.cons xb r) st else .ok x st from by simp only [evAnd]]
  cases evA G env xa st with
  | exc c fs st1 => rfl
  | bad => rfl
  | ok x st1 =>
    simp only [Rs.bind]
    cases q : truA x st1 with
    | exc c fs st1 => rfl
    | bad => rfl
    | ok t st2 =>
      obtain rfl := truA_same q
      cases t with
      | true => simp
      | false => simp [q]
theorem tstOr_cons {xa xb : Ex} {r : Es} {env : Env} {st : Stt} : tstOr G env (.cons xa (.cons xb r)) st = (tst G env xa st).bind fun t st => if t = true then .ok true st else tstOr G env (.cons xb r) st := by
  simp only [tstOr, tst]
  rw [show evOr G env (.cons xa (.cons xb r)) st = (evA G env xa st).bind fun x st => (truA x st).bind fun t st => if t = true then .ok x st else evOr G env (.cons xb r) st from by simp only [evOr]]
  cases evA G env xa st with
  | exc c fs st1 => rfl
  | bad => rfl
  | ok x st1 =>
    simp only [Rs.bind]
    cases q : truA x st1 with
    | exc c fs st1 => rfl
    | bad => rfl
    | ok t st2 =>
      obtain rfl := truA_same q
      cases t with
      | true => simp [q]
      | false => simp
theorem jw_and {rest : List Expr} {xa xb : Ex} {r : Es} (ha : JT X (fun env st => tst G env xa st) a) (hb : JW X (fun env st => tstAnd G env (.cons xb r) st) (.BoolOp .And (b :: rest) pos)) : JW X (fun env st => tstAnd G env (.cons xa (.cons xb r)) st) (.BoolOp .And (a :: b :: rest) pos) := by
  intro W tk
  refine PW.imp (pw_and (ha W tk) (hb W tk)) ?_
  rintro σ H Q ⟨ρ, env, st, he, hs, h⟩
  have h : KR X.K X.mg rEq W σ Q H ρ (tstAnd G env (.cons xa (.cons xb r)) st) := h
  rw [tstAnd_cons] at h
  refine ⟨ρ, env, st, he, hs, KR.bind h ?_⟩
  intro x st1 v1 H1 ρ1 e1 s1 r1 h1
  cases r1
  cases x with
  | true =>
    rw [if_pos rfl] at h1 ⊢
    exact ⟨ρ1, env, st1, he.mono e1, s1, h1.ext anti_eq e1⟩
  | false =>
    rw [if_neg Bool.false_ne_true] at h1 ⊢
    exact h1 _ H1 ρ1 e1 s1 rfl
theorem jw_or {rest : List Expr} {xa xb : Ex} {r : Es} (ha : JT X (fun env st => tst G env xa st) a) (hb : JW X (fun env st => tstOr G env (.cons xb r) st) (.BoolOp .Or (b :: rest) pos)) : JW X (fun env st => tstOr G env (.cons xa (.cons xb r)) st) (.BoolOp .Or (a :: b :: rest) pos) := by
  intro W tk
  refine PW.imp (pw_or (ha W tk) (hb W tk)) ?_
  rintro σ H Q ⟨ρ, env, st, he, hs, h⟩
  have h : KR X.K X.mg rEq W σ Q H ρ (tstOr G env (.cons xa (.cons xb r)) st) := h
  rw [tstOr_cons] at h
  refine ⟨ρ, env, st, he, hs, KR.bind h ?_⟩
  intro x st1 v1 H1 ρ1 e1 s1 r1 h1
  cases r1
  cases x with
  | false =>
    rw [if_neg Bool.false_ne_true] at h1 ⊢
    exact ⟨ρ1, env, st1, he.mono e1, s1, h1.ext anti_eq e1⟩
  | true =>
    rw [if_pos rfl] at h1 ⊢
    exact h1 _ H1 ρ1 e1 s1 rfl
theorem jt_and {es : List Expr} {r : Es} (h : JW X (fun env st => tstAnd G env r st) (.BoolOp .And es pos)) : JT X (fun env st => tst G env (.and r) st) (.BoolOp .And es pos) := fun W tk => by
  have := (h W tk).pt
  simpa only [tstAnd, tst, evA] using this
theorem jt_or {es : List Expr} {r : Es} (h : JW X (fun env st => tstOr G env r st) (.BoolOp .Or es pos)) : JT X (fun env st => tst G env (.or r) st) (.BoolOp .Or es pos) := fun W tk => by
  have := (h W tk).pt
  simpa only [tstOr, tst, evA] using this

/-! ### values and lists of them -/
theorem je_of {xa : Ex} (ha : JA X (fun env st => evA G env xa st) a) : JE X (fun env st => evE G env xa st) a := by
  intro W tk
  refine PE.imp (ha W tk) ?_
  rintro σ H Q ⟨ρ, env, st, he, hs, h⟩
  refine ⟨ρ, env, st, he, hs, KR.bind (m := evA G env xa st) (k := allocA) h ?_⟩
  intro x st1 v1 H1 ρ1 e1 s1 r1 h1
  cases r1 with
  | d r => exact h1 v1 H1 ρ1 e1 s1 r
  | l g1 g2 g3 g4 => exact h1 _ H1 _ (e1.name g2) (s1.name g1 (.lst g3 g4)) (RD.last s1)
theorem jl_nil : JL X (fun env st => evEs G env .nil st) [] := by
  intro W tk
  refine PA.imp pa_nil ?_
  rintro σ H Q ⟨ρ, env, st, he, hs, h⟩
  exact h [] H ρ (Ext.refl _ _) hs .nil
theorem jl_cons {xa : Ex} {r : Es} (ha : JA X (fun env st => evA G env xa st) a) (hr : JL X (fun env st => evEs G env r st) es) (hs : starEach (a :: es) X.env = (false, eval a X.env) :: starEach es X.env) : JL X (fun env st => evEs G env (.cons xa r) st) (a :: es) := by
  intro W tk
  refine PA.imp (pa_cons (je_of ha W tk) (hr W tk) hs) ?_
  rintro σ H Q ⟨ρ, env, st, he, hs, h⟩
  have e0 : evEs G env (.cons xa r) st = (evE G env xa st).bind fun y st => (evEs G env r st).bind fun ys st => .ok (y :: ys) st := by
    simp only [evEs, evE]
    cases evA G env xa st <;> rfl
  have h : KR X.K X.mg (rDs X.K X.mg) W σ Q H ρ (evEs G env (.cons xa r) st) := h
  rw [e0] at h
  refine ⟨ρ, env, st, he, hs, KR.bind h ?_⟩
  intro x st1 v1 H1 ρ1 e1 s1 r1 h1
  refine ⟨ρ1, env, st1, he.mono e1, s1, KR.bind (h1.ext anti_Ds e1) ?_⟩
  intro y st2 v2 H2 ρ2 e2 s2 r2 h2
  exact h2 _ H2 ρ2 e2 s2 (.cons (RD.mono e2 r1) r2)
theorem jls_nil : JLs X (fun env st => evAs G env .nil st) [] := by
  intro W tk
  refine PA.imp pa_nil ?_
  rintro σ H Q ⟨ρ, env, st, he, hs, h⟩
  exact h [] H ρ (Ext.refl _ _) hs .nil
theorem jls_cons {xa : Ex} {r : Es} (ha : JA X (fun env st => evA G env xa st) a) (hr : JLs X (fun env st => evAs G env r st) es) (hs : starEach (a :: es) X.env = (false, eval a X.env) :: starEach es X.env) : JLs X (fun env st => evAs G env (.cons xa r) st) (a :: es) := by
  intro W tk
  refine PA.imp (pa_cons (ha W tk) (hr W tk) hs) ?_
  rintro σ H Q ⟨ρ, env, st, he, hs, h⟩
  have h : KR X.K X.mg (RAs X.K X.mg) W σ Q H ρ (evAs G env (.cons xa r) st) := h
  simp only [evAs] at h
  refine ⟨ρ, env, st, he, hs, KR.bind h ?_⟩
  intro x st1 v1 H1 ρ1 e1 s1 r1 h1
  refine ⟨ρ1, env, st1, he.mono e1, s1, KR.bindAt e1 h1 ?_⟩
  intro y st2 v2 H2 ρ2 e2 s2 r2 h2
  exact h2 _ H2 ρ2 (e1.trans e2) s2 (.cons (r1.mono e2) (r2.anti e1))
theorem ja_tup {xs : Es} {n : Nat} (ha : JL X (fun env st => evEs G env xs st) es) : JA X (fun env st => evA G env (.tup xs) st) (.Tuple es n pos) := by
  intro W tk
  refine PE.imp (pe_tup (ha W tk)) ?_
  rintro σ H Q ⟨ρ, env, st, he, hs, h⟩
  simp only [evA] at h
  refine ⟨ρ, env, st, he, hs, KR.bind h ?_⟩
  intro x st1 v1 H1 ρ1 e1 s1 r1 h1
  split at h1
  · rename_i c
    exact ⟨by rw [← RDs.length r1]; exact line_of c, fun p hp => fin_tup (h1.ext anti_A e1) s1 r1 hp⟩
  · exact h1.elim
theorem ja_lst {xs : Es} (ha : JL X (fun env st => evEs G env xs st) es) : JA X (fun env st => evA G env (.lst xs) st) (.List es pos) := by
  intro W tk
  refine PE.imp (pe_lst (ha W tk)) ?_
  rintro σ H Q ⟨ρ, env, st, he, hs, h⟩
  simp only [evA] at h
  refine ⟨ρ, env, st, he, hs, KR.bind h ?_⟩
  intro x st1 v1 H1 ρ1 e1 s1 r1 h1
  split at h1
  · rename_i c
    exact ⟨by rw [← RDs.length r1]; exact line_of c, fun p hp => fin_lst (h1.ext anti_A e1) s1 r1 hp⟩
  · exact h1.elim
theorem ja_rev {xa : Ex} {j : Nat} {p1 p2 p3 : Pos} (ha : JA X (fun env st => evA G env xa st) a) : JA X (fun env st => evA G env (.rev xa) st) (.Subscript a (.Slice none none (some (.UnaryOp .USub (.Constant (.int 1) j p1) p2)) p3) pos) := by
  intro W tk
  refine PE.imp (pe_rev (ha W tk)) ?_
  rintro σ H Q ⟨ρ, env, st, he, hs, h⟩
  simp only [evA] at h
  refine ⟨ρ, env, st, he, hs, KR.bind h ?_⟩
  intro x st1 v1 H1 ρ1 e1 s1 r1 h1
  cases ht : tupOf x with
  | some xs =>
    rw [ht] at h1
    have a1 : x = .d (.tup xs) := by
      cases x with
      | d z => cases z <;> simp [tupOf] at ht; rw [ht]
      | l z => simp [tupOf] at ht
    subst a1
    obtain ⟨p, vs, rfl, h2, t2⟩ := r1.val.tup'
    exact ⟨p, vs, rfl, .inr ⟨h2, fun q hq => fin_tup (h1.ext anti_A e1) s1 t2.reverse hq⟩⟩
  | none =>
    rw [ht] at h1
    cases hl : lstOf st1 x with
    | none => simp only [hl] at h1; exact h1.elim
    | some xs =>
      simp only [hl] at h1
      obtain ⟨p, vs, rfl, h2, t2⟩ := r1.seqL s1 hl
      exact ⟨p, vs, rfl, .inl ⟨h2, fun q hq => fin_lst (h1.ext anti_A e1) s1 t2.reverse hq⟩⟩
theorem ja_dic1 {k : Int} {d : D} {u : V} {j : Nat} {p1 : Pos} {te : Expr} (hv : PE X te (tC u)) (hd : ∀ H ρ, RD X.K X.mg H ρ d u) : JA X (fun env st => evA G env (.dic1 k d) st) (.Dict [some (.Constant (.int k) j p1)] [te] pos) := by
  intro W tk
  refine PE.imp (pe_disp (pps_cons pe_int hv pps_nil) rfl rfl (by simp) (by simp)) ?_
  rintro σ H Q ⟨ρ, env, st, he, hs, h⟩
  simp only [evA] at h
  intro p hp
  refine ⟨upd_same, [(Sum.inl k, u)], rfl, by simp, ?_⟩
  have eu : upd (upd H p (.dK [])) p (.dK (mergeK [] [(Sum.inl k, u)])) = upd H p (.dK [(Sum.inl k, u)]) := by
    funext z
    by_cases e : z = p
    · subst e; rw [upd_same, upd_same]; rfl
    · rw [upd_ne e, upd_ne e, upd_ne e]
  rw [eu]
  have e := Ext.fresh (ρ := ρ) (o := .dK [(Sum.inl k, u)]) hp
  exact h (.ref p) _ _ ((e.trans (Ext.refl _ _)).name hp) ((hs.grow hp).name (hs.fresh hp) (.dic upd_same (.cons (hd _ _) .nil))) (.d (RD.last (hs.grow hp)))
theorem ja_dict0 : JA X (fun env st => evA G env .dict0 st) (.Dict [] [] pos) := by
  intro W tk
  refine PE.imp (pe_dnewK) ?_
  rintro σ H Q ⟨ρ, env, st, he, hs, h⟩
  intro p hp
  have e := Ext.fresh (ρ := ρ) (o := .dK []) hp
  exact h (.ref p) _ _ ((e.trans (Ext.refl _ _)).name hp) ((hs.grow hp).name (hs.fresh hp) (.dic upd_same .nil)) (.d (RD.last (hs.grow hp)))
/-! ### calls -/
theorem ja_call {f : Str} {xs : Es} {p : Pos} (gx : GX X k G) (gd : Gd X k) (hg : Gl X f) (hdb : (f == ("__debug__" : Str)) = false) (ha : JL X (fun env st => evEs G env xs st) (e :: es))
    (hs : starEach (e :: es) X.env = (false, eval e X.env) :: starEach es X.env) (hpl : (backTo pos (starEach es X.env)).any (·.1) = false) : JA X (fun env st => evA G env (.call f xs) st) (.Call (.Name f p) (e :: es) [] pos) := by
  intro W tk
  cases q : G.fn f with
  | none =>
    refine ⟨fun pins s σ H Q I h => ?_⟩
    obtain ⟨ρ, env, st, he, hs, h⟩ := h
    simp only [evA, q] at h
    exact h.elim
  | some F =>
    obtain ⟨a, fd, ps, h1, h2, h3, h4, h5⟩ := gx.fn f F q
    refine PE.imp (pe_callS (E := WE W) h4 gd.room hg h1 h2 h3 (fun σ => passAt tk σ) (ha W tk) hdb hs hpl) ?_
    rintro σ H Q ⟨ρ, env, st, he, hs, h⟩
    simp only [evA, q] at h
    refine ⟨ρ, env, st, he, hs, KR.bind h ?_⟩
    intro x st1 v1 H1 ρ1 e1 s1 r1 h
    refine ⟨?_, ρ1, x, st1, r1, s1, ?_⟩
    · rw [← RDs.length r1]
      refine h5 x st1 ⟨_, rfl, fun z => ?_⟩
      rw [z] at h
      exact h.elim
    · cases qf : F x st1 with
      | bad => rw [qf] at h; exact h.elim
      | exc c fs st2 =>
        rw [qf] at h
        exact fun cls d H' ρ' f s r => h cls d H' ρ' (e1.trans f) s r
      | ok z st2 =>
        rw [qf] at h
        exact fun b H' ρ' f s r => h b H' ρ' (e1.trans f) s (.d r)
end
end Ev

namespace Ev
open PySem PySem.Spec PyProof.Rows L2

section
variable {X : Cx} {k : Nat} {G : Gam} {a b c e : Expr} {es : List Expr} {pos : Pos} {ρ : List Addr} {H H0 H1 : Hp} {σ : L2.St} {W : WX} {st st' : Stt} {env : Env} {x y z : A} {v u : V} {Q : V → Hp → Prop} {K : PySem.W.Frag} {mg : Str → Option Value}
theorem boolsOf_ok : ∀ {xs : List D} {bs : List Bool} {vs : List V}, boolsOf xs = some bs → RDs K mg H ρ xs vs → vs = bs.map V.bl
  | [], _, _, h, r => by cases h; cases r; rfl
  | .bl b :: xs, _, _, h, r => by
    simp only [boolsOf, Option.map_eq_some_iff] at h
    obtain ⟨cs, h, rfl⟩ := h
    cases r with
    | cons r1 r2 =>
      cases r1
      rw [boolsOf_ok h r2]; rfl
  | .non :: _, _, _, h, _ => by simp [boolsOf] at h
  | .int _ :: _, _, _, h, _ => by simp [boolsOf] at h
  | .str _ :: _, _, _, h, _ => by simp [boolsOf] at h
  | .ty _ :: _, _, _, h, _ => by simp [boolsOf] at h
  | .tup _ :: _, _, _, h, _ => by simp [boolsOf] at h
  | .rol _ :: _, _, _, h, _ => by simp [boolsOf] at h
  | .loc _ :: _, _, _, h, _ => by simp [boolsOf] at h
  | .obj _ :: _, _, _, h, _ => by simp [boolsOf] at h
  | .exn _ _ :: _, _, _, h, _ => by simp [boolsOf] at h
  | .clo _ _ :: _, _, _, h, _ => by simp [boolsOf] at h
theorem intsOf_ok : ∀ {xs : List D} {bs : List Int} {vs : List V}, intsOf xs = some bs → RDs K mg H ρ xs vs → vs = bs.map V.int
  | [], _, _, h, r => by cases h; cases r; rfl
  | .int b :: xs, _, _, h, r => by
    simp only [intsOf, Option.map_eq_some_iff] at h
    obtain ⟨cs, h, rfl⟩ := h
    cases r with
    | cons r1 r2 =>
      cases r1
      rw [intsOf_ok h r2]; rfl
  | .non :: _, _, _, h, _ => by simp [intsOf] at h
  | .bl _ :: _, _, _, h, _ => by simp [intsOf] at h
  | .str _ :: _, _, _, h, _ => by simp [intsOf] at h
  | .ty _ :: _, _, _, h, _ => by simp [intsOf] at h
  | .tup _ :: _, _, _, h, _ => by simp [intsOf] at h
  | .rol _ :: _, _, _, h, _ => by simp [intsOf] at h
  | .loc _ :: _, _, _, h, _ => by simp [intsOf] at h
  | .obj _ :: _, _, _, h, _ => by simp [intsOf] at h
  | .exn _ _ :: _, _, _, h, _ => by simp [intsOf] at h
  | .clo _ _ :: _, _, _, h, _ => by simp [intsOf] at h
/-- what a built-in's name stands for -/
def btab : List (Str × Value) := [("len", .builtin "len"), ("all", .builtin "all"), ("any", .builtin "any"), ("sum", .builtin "sum"), ("abs", .builtin "abs"), ("max", .builtin "max"), ("min", .builtin "min"),
  ("int", .type "int"), ("str", .type "str"), ("list", .type "list"), ("tuple", .type "tuple"), ("sorted", .builtin "sorted")]
def isBT : Value → Bool
  | .builtin _ => true
  | .type _ => true
  | _ => false
theorem btab_ok : (btab.all fun p => decide (bootBuiltins p.1 = some p.2) && decide (p.1 ≠ "__name__") && decide ((p.1 == ("__debug__" : Str)) = false) && isBT p.2) = true := by decide +kernel
def bval (f : Str) : Option Value := btab.lookup f
theorem bval_mem {f : Str} {u : Value} (h : bval f = some u) : (f, u) ∈ btab := PySem.mem_of_lookup h
theorem bval_boot {f : Str} {u : Value} (h : bval f = some u) : bootBuiltins f = some u ∧ f ≠ "__name__" ∧ (f == ("__debug__" : Str)) = false ∧ isBT u = true := by
  have q := List.all_eq_true.mp btab_ok _ (bval_mem h)
  simp only [Bool.and_eq_true, decide_eq_true_eq] at q
  exact ⟨q.1.1.1, q.1.1.2, q.1.2, q.2⟩
theorem bval_all {f : Str} {u : Value} (h : bval f = some u) : f ∈ allB := by
  have q : (btab.all fun p => decide (p.1 ∈ allB)) = true := by decide +kernel
  simpa using List.all_eq_true.mp q _ (bval_mem h)
theorem rds_int {ns : List Int} : RDs K mg H ρ (ns.map D.int) (ns.map V.int) := by
  induction ns with
  | nil => exact .nil
  | cons i r ih => exact .cons (.int i) ih
theorem bi1_ok {f : Str} {cu : Value} (hf : bval f = some cu) (hc : X.calm = true) (s : RS X.K X.mg H ρ st) (r : RA X.K X.mg H0 H ρ x v) (h : bi1 f x st = some z) (q : KR X.K X.mg (RA X.K X.mg) W σ Q H ρ (.ok z st)) : anyCall X cu [v] H Q := by
  unfold bi1 at h
  split at h
  · rename_i e
    subst e
    have : cu = .builtin "len" := by
      have e2 : bval "len" = some (.builtin "len") := by decide +kernel
      rw [e2] at hf; exact (Option.some.inj hf).symm
    subst this
    split at h
    · rename_i y
      split at h
      · rename_i c
        cases h
        obtain rfl := r.str
        exact ⟨_, call_len_str, y, rfl, line_of c, fin_d q s (.int _)⟩
      · cases h
    · simp only [Option.map_eq_some_iff] at h
      obtain ⟨xs, e, rfl⟩ := h
      obtain ⟨p, vs, rfl, hq, t⟩ := r.seq s e
      exact ⟨_, call_len_seq, p, vs, rfl, hq, by rw [← t.length]; exact fin_d q s (.int _)⟩
  split at h
  · rename_i e
    subst e
    have : cu = .builtin "all" := by
      have e2 : bval "all" = some (.builtin "all") := by decide +kernel
      rw [e2] at hf; exact (Option.some.inj hf).symm
    subst this
    obtain ⟨xs, e1, h⟩ := Option.bind_eq_some_iff.mp h
    simp only [Option.map_eq_some_iff] at h
    obtain ⟨bs, e2, rfl⟩ := h
    obtain ⟨p, vs, rfl, hq, t⟩ := r.seqL s e1
    obtain rfl := boolsOf_ok e2 t
    exact ⟨_, cr_all hc, p, bs, rfl, hq, fin_d q s (.bl _)⟩
  split at h
  · rename_i e
    subst e
    have : cu = .builtin "any" := by
      have e2 : bval "any" = some (.builtin "any") := by decide +kernel
      rw [e2] at hf; exact (Option.some.inj hf).symm
    subst this
    obtain ⟨xs, e1, h⟩ := Option.bind_eq_some_iff.mp h
    simp only [Option.map_eq_some_iff] at h
    obtain ⟨bs, e2, rfl⟩ := h
    obtain ⟨p, vs, rfl, hq, t⟩ := r.seqL s e1
    obtain rfl := boolsOf_ok e2 t
    exact ⟨_, cr_any hc, p, bs, rfl, hq, fin_d q s (.bl _)⟩
  split at h
  · rename_i e
    subst e
    have : cu = .builtin "sum" := by
      have e2 : bval "sum" = some (.builtin "sum") := by decide +kernel
      rw [e2] at hf; exact (Option.some.inj hf).symm
    subst this
    obtain ⟨xs, e1, h⟩ := Option.bind_eq_some_iff.mp h
    simp only [Option.map_eq_some_iff] at h
    obtain ⟨bs, e2, rfl⟩ := h
    obtain ⟨p, vs, rfl, hq, t⟩ := r.seqL s e1
    obtain rfl := intsOf_ok e2 t
    exact ⟨_, cr_sum hc, p, bs, rfl, hq, fin_d q s (.int _)⟩
  split at h
  · rename_i e
    subst e
    have : cu = .builtin "abs" := by
      have e2 : bval "abs" = some (.builtin "abs") := by decide +kernel
      rw [e2] at hf; exact (Option.some.inj hf).symm
    subst this
    split at h
    · cases h
      obtain rfl := r.int
      exact ⟨_, call_abs, _, rfl, fin_d q s (.int _)⟩
    · cases h
  split at h
  · rename_i e
    subst e
    have : cu = .type "int" := by
      have e2 : bval "int" = some (.type "int") := by decide +kernel
      rw [e2] at hf; exact (Option.some.inj hf).symm
    subst this
    split at h
    · cases h
      obtain rfl := r.int
      exact ⟨_, call_int1, .inl ⟨_, rfl, fin_d q s (.int _)⟩⟩
    · cases h
      obtain rfl := r.bl
      exact ⟨_, call_int1, .inr ⟨_, rfl, fin_d q s (.int _)⟩⟩
    · cases h
  split at h
  · rename_i e
    subst e
    have : cu = .type "str" := by
      have e2 : bval "str" = some (.type "str") := by decide +kernel
      rw [e2] at hf; exact (Option.some.inj hf).symm
    subst this
    split at h
    · split at h
      · rename_i c
        cases h
        obtain rfl := r.int
        exact ⟨_, call_str_int, _, rfl, c, fin_d q s (.str _)⟩
      · cases h
    · cases h
  split at h
  · rename_i e
    subst e
    have : cu = .type "list" := by
      have e2 : bval "list" = some (.type "list") := by decide +kernel
      rw [e2] at hf; exact (Option.some.inj hf).symm
    subst this
    simp only [Option.map_eq_some_iff] at h
    obtain ⟨xs, e, rfl⟩ := h
    obtain ⟨p, vs, rfl, hq, t⟩ := r.seq s e
    exact ⟨_, call_list_of, p, vs, rfl, hq, fun l hl => fin_lst q s t hl⟩
  split at h
  · rename_i e
    subst e
    have : cu = .type "tuple" := by
      have e2 : bval "tuple" = some (.type "tuple") := by decide +kernel
      rw [e2] at hf; exact (Option.some.inj hf).symm
    subst this
    simp only [Option.map_eq_some_iff] at h
    obtain ⟨xs, e, rfl⟩ := h
    obtain ⟨p, vs, rfl, hq, t⟩ := r.seq s e
    rcases hq with hq | hq
    · exact ⟨_, call_tuple_of, p, vs, rfl, .inl ⟨hq, fun l hl => fin_tup q s t hl⟩⟩
    · exact ⟨_, call_tuple_of, p, vs, rfl, .inr ⟨hq, fin_d q s (.tup hq t)⟩⟩
  split at h
  · rename_i e
    subst e
    have : cu = .builtin "sorted" := by
      have e2 : bval "sorted" = some (.builtin "sorted") := by decide +kernel
      rw [e2] at hf; exact (Option.some.inj hf).symm
    subst this
    obtain ⟨xs, e1, h⟩ := Option.bind_eq_some_iff.mp h
    simp only [Option.map_eq_some_iff] at h
    obtain ⟨is, e2, rfl⟩ := h
    obtain ⟨p, vs, rfl, hq, t⟩ := r.seqL s e1
    obtain rfl := intsOf_ok e2 t
    refine ⟨_, cr_sortedI, p, is, rfl, hq, fun ns' q' hp hs hn => ?_⟩
    have en : ns' = is.mergeSort (fun a b => decide (a ≤ b)) := by
      refine List.Perm.eq_of_pairwise (le := fun a b => a ≤ b) (fun a b _ _ h1 h2 => Int.le_antisymm h1 h2) hs ?_ (hp.trans (List.mergeSort_perm _ _).symm)
      have := List.pairwise_mergeSort (le := fun (a b : Int) => decide (a ≤ b)) (fun a b c h1 h2 => by simp at *; omega) (fun a b => by simp; omega) is
      exact this.imp (fun h => by simpa using h)
    rw [en]
    exact fin_lst q s rds_int hn
  · cases h
theorem bi2_ok {f : Str} {cu : Value} (hf : bval f = some cu) (hc : X.calm = true) (s : RS X.K X.mg H ρ st) (r : RA X.K X.mg H0 H ρ x v) (r2 : RA X.K X.mg H1 H ρ y u) (h : bi2 f x y st = some z) (q : KR X.K X.mg (RA X.K X.mg) W σ Q H ρ (.ok z st)) : anyCall X cu [v, u] H Q := by
  unfold bi2 at h
  split at h
  · rename_i e
    subst e
    have : cu = .builtin "max" := by
      have e2 : bval "max" = some (.builtin "max") := by decide +kernel
      rw [e2] at hf; exact (Option.some.inj hf).symm
    subst this
    split at h
    · cases h
      obtain rfl := r.int
      obtain rfl := r2.int
      exact ⟨_, call_max2 hc, _, _, rfl, fin_d q s (.int _)⟩
    · cases h
  split at h
  · rename_i e
    subst e
    have : cu = .builtin "min" := by
      have e2 : bval "min" = some (.builtin "min") := by decide +kernel
      rw [e2] at hf; exact (Option.some.inj hf).symm
    subst this
    split at h
    · cases h
      obtain rfl := r.int
      obtain rfl := r2.int
      exact ⟨_, call_min2 hc, _, _, rfl, fin_d q s (.int _)⟩
    · cases h
  · cases h
theorem ja_bi {f : Str} {xs : Es} {p : Pos} {cu : Value} (gx : GX X k G) (gd : Gd X k) (hg : Gl X f) (hf : bval f = some cu) (ha : JLs X (fun env st => evAs G env xs st) (e :: es))
    (hs : starEach (e :: es) X.env = (false, eval e X.env) :: starEach es X.env) (hpl : (backTo pos (starEach es X.env)).any (·.1) = false) : JA X (fun env st => evA G env (.bi f xs) st) (.Call (.Name f p) (e :: es) [] pos) := by
  intro W tk
  obtain ⟨b1, b2, b3, b4⟩ := bval_boot hf
  have hm := gx.bt f (bval_all hf)
  have main : PE X (.Call (.Name f p) (e :: es) [] pos) (tCB (anyCall X cu) (tR X.K X.mg (RAs X.K X.mg) (fun env st => evAs G env xs st) W)) := by
    have sh : (∃ id, cu = .builtin id) ∨ ∃ T, cu = .type T := by
      cases cu with
      | builtin id => exact .inl ⟨_, rfl⟩
      | type T => exact .inr ⟨_, rfl⟩
      | _ => cases b4
    rcases sh with ⟨id, rfl⟩ | ⟨T, rfl⟩
    · exact pe_callB call_any hg hm b1 (ha W tk) b2 b3 hs hpl
    · exact pe_callTy call_any hg hm b1 (ha W tk) b2 b3 hs hpl
  refine PE.imp main ?_
  rintro σ H Q ⟨ρ, env, st, he, hs, h⟩
  simp only [evA] at h
  refine ⟨ρ, env, st, he, hs, KR.bind h ?_⟩
  intro as st1 vs H1 ρ1 e1 s1 r1 h1
  unfold biA at h1
  split at h1
  · rename_i a
    obtain ⟨z, ez, h2⟩ := KR.ofO h1
    cases r1 with
    | cons ra rn =>
      cases rn
      exact bi1_ok hf gd.calm s1 ra ez (h2.ext anti_A e1)
  · rename_i a b
    obtain ⟨z, ez, h2⟩ := KR.ofO h1
    cases r1 with
    | cons ra rn =>
      cases rn with
      | cons rb rn =>
        cases rn
        exact bi2_ok hf gd.calm s1 ra rb ez (h2.ext anti_A e1)
  · exact h1.elim
/-! ### isinstance -/
theorem ty_tab : (tyNames.all fun n => decide (bootBuiltins (Str.ofString n) = some (.type n)) && decide (Str.ofString n ∈ allB) && decide (Str.ofString n ≠ "__name__") && decide ((Str.ofString n == ("__debug__" : Str)) = false)) = true := by decide +kernel
theorem tyName_ok {x : Str} {n : String} (h : tyName x = some n) : bootBuiltins x = some (.type n) ∧ x ∈ allB ∧ x ≠ "__name__" ∧ (x == ("__debug__" : Str)) = false := by
  unfold tyName at h
  have h1 := List.find?_some h
  have h2 := List.mem_of_find?_eq_some h
  have q := List.all_eq_true.mp ty_tab _ h2
  simp only [Bool.and_eq_true, decide_eq_true_eq] at q h1
  subst h1
  exact ⟨q.1.1.1, q.1.1.2, q.1.2, q.2⟩
theorem ja_isi1 {xa : Ex} {T : Str} {n : String} {p p2 : Pos} (gx : GX X k G) (gd : Gd X k) (hg : Gl X "isinstance") (hgT : Gl X T) (hT : tyName T = some n) (ha : JA X (fun env st => evA G env xa st) a)
    (hs : starEach (a :: [.Name T p2]) X.env = (false, eval a X.env) :: starEach [.Name T p2] X.env) : JA X (fun env st => evA G env (.isi xa [T]) st) (.Call (.Name "isinstance" p) [a, .Name T p2] [] pos) := by
  intro W tk
  obtain ⟨b1, b2, b3, b4⟩ := tyName_ok hT
  have hm := gx.bt "isinstance" (by decide +kernel)
  refine PE.imp (pe_callB call_isi hg hm PyProof.Rows.boot_isinstance (pa_cons (ha W tk) (pa_cons (pe_bltn (v := .ty n) hgT (gx.bt T b2) b1 rfl b3 b4) pa_nil) hs) (by decide +kernel) (by decide +kernel) hs) ?_
  rintro σ H Q ⟨ρ, env, st, he, hs, h⟩
  simp only [evA] at h
  refine ⟨ρ, env, st, he, hs, KR.bind h ?_⟩
  intro x st1 v1 H1 ρ1 e1 s1 r1 h1
  obtain ⟨z, ez, h2⟩ := KR.ofO h1
  simp only [Option.map_eq_some_iff, isiA, isiOne, hT] at ez
  obtain ⟨b, ez, rfl⟩ := ez
  split at ez
  · rename_i t e1'
    exact ⟨v1, .ty n, _, _, b, rfl, .ty n, tyA_ok s1 r1 e1', kit_ty ez, fin_d (h2.ext anti_A e1) s1 (.bl _)⟩
  · cases ez

/-! ### methods of lists -/
def anyMt (X : Cx) (id : String) : V → List V → Hp → VK → Prop := fun x xs H Q => ∃ r, MtR X id r ∧ r x xs H Q
theorem mt_any {X : Cx} {id : String} : MtR X id (anyMt X id) := fun pins s σ H x xs v us Q I r1 r2 ⟨_, h, q⟩ => h pins s σ H x xs v us Q I r1 r2 q
theorem MtM.r {X : Cx} {id : String} {r : V → List V → Hp → VK → Prop} (h : MtM X id r) : MtR X id r := h
structure MI (m : Str) (T id : String) : Prop where
  pa : PlainAttrs T
  slot : Slot T m id
  hty : typeOf (.builtin id) = pure (.type "method_descriptor")
theorem mi_of {m : Str} {T id : String} (h : mtab.lookup m = some (T, id)) : MI m T id := by
  have := PySem.mem_of_lookup h
  simp only [mtab, List.mem_cons, List.not_mem_nil, or_false, Prod.mk.injEq] at this
  rcases this with ⟨rfl, rfl, rfl⟩ | ⟨rfl, rfl, rfl⟩ | ⟨rfl, rfl, rfl⟩ | ⟨rfl, rfl, rfl⟩ | ⟨rfl, rfl, rfl⟩ | ⟨rfl, rfl, rfl⟩
  · exact ⟨PySem.F.plainAttrs_list, PySem.F.slot_list_append, PySem.F.type_list_append⟩
  · exact ⟨PySem.F.plainAttrs_list, PySem.F.slot_list_pop, PySem.F.type_list_pop⟩
  · exact ⟨PySem.F.plainAttrs_list, PySem.F.slot_list_extend, PySem.F.type_list_extend⟩
  · exact ⟨PySem.F.plainAttrs_list, PySem.F.slot_list_insert, PySem.F.type_list_insert⟩
  · exact ⟨PySem.F.plainAttrs_list, PySem.F.slot_list_count, PySem.F.type_list_count⟩
  · exact ⟨PySem.F.plainAttrs_list, PySem.F.slot_list_index, PySem.F.type_list_index⟩
theorem rcv_ok {m : Str} {T id : String} (hm : mtab.lookup m = some (T, id)) (s : RS K mg H ρ st) (r : RA K mg H0 H ρ x v) (h : rcv m x st = true) : tyV K T v H := by
  unfold rcv at h
  rw [hm] at h
  simp only at h
  split at h
  · rename_i e
    subst e
    obtain ⟨xs, e⟩ := Option.isSome_iff_exists.mp h
    obtain ⟨p, vs, rfl, hq, _⟩ := r.seqL s e
    exact .inl ⟨rfl, vs, hq⟩
  · cases h
theorem RA.loc {l : Nat} (r : RA K mg H0 H ρ (.d (.loc l)) v) : ∃ p, v = .ref p ∧ ρ[l]? = some p := by
  cases r.val with
  | loc h => exact ⟨_, rfl, h⟩
theorem RDs.dropLast {xs : List D} {vs : List V} (h : RDs K mg H ρ xs vs) : RDs K mg H ρ xs.dropLast vs.dropLast := by
  rw [List.dropLast_eq_take, List.dropLast_eq_take, h.length]
  exact h.take _
theorem mtA_ok {m : Str} {T id : String} {ys : List A} {vs : List V} {Hb : Hp} {ρb : List Addr} (hm : mtab.lookup m = some (T, id)) (eb : Ext ρb Hb ρ H) (s : RS X.K X.mg H ρ st) (r1 : RA X.K X.mg H0 H ρ x v) (r2 : RAs X.K X.mg Hb H ρ ys vs)
    (h : KR X.K X.mg (RA X.K X.mg) W σ Q Hb ρb (mtA m x ys st)) : anyMt X id v vs H Q := by
  unfold mtA at h
  split at h
  · rename_i e
    subst e
    obtain ⟨rfl, rfl⟩ : T = "list" ∧ id = "list.append" := by
      have e2 : mtab.lookup ("append" : Str) = some ("list", "list.append") := by decide +kernel
      rw [e2] at hm; cases hm; exact ⟨rfl, rfl⟩
    split at h
    · rename_i l a
      obtain ⟨p, rfl, hl⟩ := r1.loc
      have mem := List.mem_of_getElem? hl
      cases r2 with
      | cons ra rn =>
        cases rn
        cases ra with
        | d ra =>
          have h : KR X.K X.mg (RA X.K X.mg) W σ Q Hb ρb (match stLst st l with
            | some xs => if lenOk xs.length then .ok (.d .non) (st.set l (.lst (xs ++ [_]))) else .bad
            | none => .bad) := h
          split at h
          · rename_i xs e
            split at h
            · rename_i c
              obtain ⟨us, g1, g2⟩ := s.lst hl e
              refine ⟨_, MtM.r mt_append, p, us, _, rfl, rfl, g1, ?_, ?_⟩
              · rw [← g2.length]; exact line_lt c
              · exact h _ _ ρ (eb.trans (Ext.write s mem)) (s.write hl (.lst upd_same ((g2.append (.cons ra .nil)).mono (Ext.write s mem)))) (.d .non)
            · exact h.elim
          · exact h.elim
        | @l zs q ws q1 q2 q3 q4 =>
          have h : KR X.K X.mg (RA X.K X.mg) W σ Q Hb ρb (match stLst (st ++ [Ob.lst zs]) l with
            | some xs => if lenOk xs.length then .ok (.d .non) ((st ++ [Ob.lst zs]).set l (Ob.lst (xs ++ [D.loc st.length]))) else .bad
            | none => .bad) := h
          have s' : RS X.K X.mg H (ρ ++ [q]) (st ++ [.lst zs]) := s.name q1 (.lst q3 q4)
          have hl' : (ρ ++ [q])[l]? = some p := by rw [List.getElem?_append_left (List.getElem?_eq_some_iff.mp hl).1]; exact hl
          have mem' := List.mem_of_getElem? hl'
          have eb' := eb.name q2
          split at h
          · rename_i xs e
            split at h
            · rename_i c
              obtain ⟨us, g1, g2⟩ := s'.lst hl' e
              refine ⟨_, MtM.r mt_append, p, us, _, rfl, rfl, g1, ?_, ?_⟩
              · rw [← g2.length]; exact line_lt c
              · exact h _ _ (ρ ++ [q]) (eb'.trans (Ext.write s' mem')) (s'.write hl' (.lst upd_same ((g2.append (.cons (RD.last s) .nil)).mono (Ext.write s' mem')))) (.d .non)
            · exact h.elim
          · exact h.elim
    · exact h.elim
  split at h
  · rename_i e
    subst e
    obtain ⟨rfl, rfl⟩ : T = "list" ∧ id = "list.pop" := by
      have e2 : mtab.lookup ("pop" : Str) = some ("list", "list.pop") := by decide +kernel
      rw [e2] at hm; cases hm; exact ⟨rfl, rfl⟩
    split at h
    · rename_i l
      obtain ⟨p, rfl, hl⟩ := r1.loc
      have mem := List.mem_of_getElem? hl
      cases r2
      split at h
      · rename_i xs e
        split at h
        · rename_i y e2
          obtain ⟨us, g1, g2⟩ := s.lst hl e
          obtain ⟨w, g3, g4⟩ := g2.get e2
          refine ⟨_, MtM.r mt_pop, p, us, w, rfl, rfl, g1, by rw [← g2.length]; exact g3, ?_⟩
          exact h _ _ ρ (eb.trans (Ext.write s mem)) (s.write hl (.lst upd_same (g2.dropLast.mono (Ext.write s mem)))) (.d (g4.mono (Ext.write s mem)))
        · exact h.elim
      · exact h.elim
    · rename_i l i
      obtain ⟨p, rfl, hl⟩ := r1.loc
      have mem := List.mem_of_getElem? hl
      cases r2 with
      | cons ra rn =>
        cases rn
        obtain rfl := ra.int
        split at h
        · rename_i xs e
          split at h
          · rename_i c
            split at h
            · rename_i k ek
              split at h
              · rename_i y e2
                obtain ⟨us, g1, g2⟩ := s.lst hl e
                obtain ⟨w, g3, g4⟩ := g2.get e2
                refine ⟨_, MtM.r mt_popAt, p, us, i, k, w, rfl, rfl, g1, by omega, by omega, by rw [← g2.length]; exact ek, g3, ?_⟩
                exact h _ _ ρ (eb.trans (Ext.write s mem)) (s.write hl (.lst upd_same ((g2.eraseIdx k).mono (Ext.write s mem)))) (.d (g4.mono (Ext.write s mem)))
              · exact h.elim
            · exact h.elim
          · exact h.elim
        · exact h.elim
    · exact h.elim
  split at h
  · rename_i e
    subst e
    obtain ⟨rfl, rfl⟩ : T = "list" ∧ id = "list.extend" := by
      have e2 : mtab.lookup ("extend" : Str) = some ("list", "list.extend") := by decide +kernel
      rw [e2] at hm; cases hm; exact ⟨rfl, rfl⟩
    split at h
    · rename_i l a
      obtain ⟨p, rfl, hl⟩ := r1.loc
      have mem := List.mem_of_getElem? hl
      cases r2 with
      | cons ra rn =>
        cases rn
        split at h
        · rename_i xs zs e e2
          split at h
          · rename_i c
            obtain ⟨us, g1, g2⟩ := s.lst hl e
            obtain ⟨p2, ws, rfl, g3, g4⟩ := ra.seqM s e2
            refine ⟨_, MtM.r mt_extend, p, p2, us, ws, rfl, rfl, g1, g3, ?_, ?_⟩
            · rw [← g2.length, ← g4.length]; exact line_of c
            · exact h _ _ ρ (eb.trans (Ext.write s mem)) (s.write hl (.lst upd_same ((g2.append g4).mono (Ext.write s mem)))) (.d .non)
          · exact h.elim
        · exact h.elim
    · exact h.elim
  split at h
  · rename_i e
    subst e
    obtain ⟨rfl, rfl⟩ : T = "list" ∧ id = "list.insert" := by
      have e2 : mtab.lookup ("insert" : Str) = some ("list", "list.insert") := by decide +kernel
      rw [e2] at hm; cases hm; exact ⟨rfl, rfl⟩
    split at h
    · rename_i l i y
      obtain ⟨p, rfl, hl⟩ := r1.loc
      have mem := List.mem_of_getElem? hl
      cases r2 with
      | cons ra rn =>
        cases rn with
        | cons rb rn =>
          cases rn
          obtain rfl := ra.int
          split at h
          · rename_i xs e
            split at h
            · rename_i c
              obtain ⟨us, g1, g2⟩ := s.lst hl e
              refine ⟨_, mt_insert, p, us, i, _, rfl, rfl, g1, ?_, c.2.1, by omega, ?_⟩
              · rw [← g2.length]; exact line_lt c.1
              · exact h _ _ ρ (eb.trans (Ext.write s mem)) (s.write hl (.lst upd_same ((((g2.take _).append (.cons rb.val .nil)).append (g2.drop _)).mono (Ext.write s mem)))) (.d .non)
            · exact h.elim
          · exact h.elim
    · exact h.elim
  split at h
  · rename_i e
    subst e
    obtain ⟨rfl, rfl⟩ : T = "list" ∧ id = "list.count" := by
      have e2 : mtab.lookup ("count" : Str) = some ("list", "list.count") := by decide +kernel
      rw [e2] at hm; cases hm; exact ⟨rfl, rfl⟩
    split at h
    · rename_i xs y e
      split at h
      · rename_i c
        obtain ⟨p, ws, rfl, hq, t⟩ := r1.seqL s e
        cases r2 with
        | cons ra rn =>
          cases rn
          obtain ⟨rfl, f1⟩ := vF_ok c.1 ra.val
          obtain ⟨rfl, f2⟩ := vFs_ok c.2 t
          refine ⟨_, mt_cntL, p, _, _, rfl, rfl, hq, f1, f2, ?_⟩
          have ec : ((xs.map vF).countP fun z => eqV z (vF y)) = xs.countP fun z => eqF z y := by rw [List.countP_map]; rfl
          rw [ec]
          exact h _ _ ρ eb s (.d (.int _))
      · exact h.elim
    · exact h.elim
  split at h
  · rename_i e
    subst e
    obtain ⟨rfl, rfl⟩ : T = "list" ∧ id = "list.index" := by
      have e2 : mtab.lookup ("index" : Str) = some ("list", "list.index") := by decide +kernel
      rw [e2] at hm; cases hm; exact ⟨rfl, rfl⟩
    split at h
    · rename_i xs y e
      split at h
      · rename_i c
        split at h
        · rename_i j ej
          obtain ⟨p, ws, rfl, hq, t⟩ := r1.seqL s e
          cases r2 with
          | cons ra rn =>
            cases rn
            obtain ⟨rfl, f1⟩ := vF_ok c.1 ra.val
            obtain ⟨rfl, f2⟩ := vFs_ok c.2 t
            obtain ⟨hj, h3, h4⟩ := List.findIdx?_eq_some_iff_getElem.mp ej
            refine ⟨_, mt_index, p, _, _, j, vF xs[j], rfl, rfl, hq, f1, f2, by simp [hj], h3, ?_, ?_⟩
            · intro m z' hmj hz
              rw [List.getElem?_map] at hz
              simp only [Option.map_eq_some_iff] at hz
              obtain ⟨w, hw, rfl⟩ := hz
              obtain ⟨hm1, rfl⟩ := List.getElem?_eq_some_iff.mp hw
              have := h4 m hmj
              simpa [eqF] using this
            · exact h _ _ ρ eb s (.d (.int _))
        · exact h.elim
      · exact h.elim
    · exact h.elim
  · exact h.elim
theorem ja_mt0 {m : Str} {T id : String} {xa : Ex} {apos : Pos} (hm : mtab.lookup m = some (T, id)) (ha : JA X (fun env st => evA G env xa st) a) (hbase : attributeBase a m X.env (eval a X.env) = eval a X.env) (hline : (apos.endLine == pos.line) = true) :
    JA X (fun env st => evA G env (.mt m xa .nil) st) (.Call (.Attribute a m apos) [] [] pos) := by
  intro W tk
  have mi := mi_of hm
  refine PE.imp (pe_bm0 mi.pa mi.slot mi.hty mt_any (ha W tk) hbase hline) ?_
  rintro σ H Q ⟨ρ, env, st, he, hs, h⟩
  simp only [evA, evAs] at h
  refine ⟨ρ, env, st, he, hs, KR.bind h ?_⟩
  intro x st1 v1 H1 ρ1 e1 s1 r1 h1
  split at h1
  · rename_i c
    exact ⟨rcv_ok hm s1 r1 c, mtA_ok hm e1 s1 r1 .nil h1⟩
  · exact h1.elim
theorem ja_mt {m : Str} {T id : String} {xa : Ex} {xs : Es} {apos : Pos} (hm : mtab.lookup m = some (T, id)) (ha : JA X (fun env st => evA G env xa st) a) (hb : JLs X (fun env st => evAs G env xs st) (e :: es))
    (hbase : attributeBase a m X.env (eval a X.env) = eval a X.env) (hline : (apos.endLine == pos.line) = true)
    (hfew : ((backTo pos (starEach (e :: es) X.env)).all (fun x => !x.1) && (backToKw pos (keywordEach [] X.env)).all (fun x => x.1.isSome) && decide ((e :: es).length + ([] : List Keyword).length + (if ([] : List Keyword).isEmpty then 0 else 1) < 30)) = true)
    (hst : starEach (e :: es) X.env = (false, eval e X.env) :: starEach es X.env) (hpl : (backTo pos (starEach es X.env)).any (·.1) = false) :
    JA X (fun env st => evA G env (.mt m xa xs) st) (.Call (.Attribute a m apos) (e :: es) [] pos) := by
  intro W tk
  have mi := mi_of hm
  refine PE.imp (pe_bm mi.pa mi.slot mi.hty mt_any (ha W tk) (hb W tk) hbase hfew hline hst hpl) ?_
  rintro σ H Q ⟨ρ, env, st, he, hs, h⟩
  simp only [evA] at h
  refine ⟨ρ, env, st, he, hs, KR.bind h ?_⟩
  intro x st1 v1 H1 ρ1 e1 s1 r1 h1
  split at h1
  · rename_i c
    refine ⟨rcv_ok hm s1 r1 c, ρ1, env, st1, he.mono e1, s1, KR.bindAt e1 h1 ?_⟩
    intro ys st2 vs H2 ρ2 e2 s2 r2 h2
    exact mtA_ok hm (e1.trans e2) s2 (r1.mono e2) (r2.anti e1) h2
  · exact h1.elim
/-! ### len(set(xs)), list(range(n)), tuple(range(n)) -/
theorem ja_nset {xa : Ex} {p p2 q : Pos} (gx : GX X k G) (gd : Gd X k) (hg : Gl X "len") (hg2 : Gl X "set") (ha : JA X (fun env st => evA G env xa st) a) (hs : starEach [a] X.env = (false, eval a X.env) :: starEach [] X.env) :
    JA X (fun env st => evA G env (.nset xa) st) (.Call (.Name "len" p) [.Call (.Name "set" p2) [a] [] q] [] pos) := by
  intro W tk
  refine PE.imp (pe_lenSetA gd.calm hg (gx.bt "len" (by decide +kernel)) hg2 (gx.bt "set" (by decide +kernel)) (ha W tk) hs) ?_
  rintro σ H Q ⟨ρ, env, st, he, hs, h⟩
  simp only [evA] at h
  refine ⟨ρ, env, st, he, hs, KR.bind h ?_⟩
  intro x st1 v1 H1 ρ1 e1 s1 r1 h1
  obtain ⟨z, ez, h2⟩ := KR.ofO h1
  obtain ⟨xs, e2, ez⟩ := Option.bind_eq_some_iff.mp ez
  obtain ⟨is, e3, ez⟩ := Option.bind_eq_some_iff.mp ez
  split at ez
  · rename_i hl
    cases ez
    obtain ⟨p, vs, rfl, hq, t⟩ := r1.seq s1 e2
    obtain rfl := intsOf_ok e3 t
    exact ⟨p, is, rfl, hq, hl, fin_d (h2.ext anti_A e1) s1 (.int _)⟩
  · cases ez
theorem rgOk_ok {i j : Int} (h : rgOk i j = true) : RgOk i j := by
  have h := of_decide_eq_true h
  exact ⟨h.1, h.2.1, h.2.2.1, h.2.2.2.1, by omega⟩
theorem rds_rng {i : Int} {n : Nat} : RDs K mg H ρ (rngI i n) ((List.range n).map fun m => V.int (i + (m : Nat))) := by
  unfold rngI
  generalize List.range n = L
  induction L with
  | nil => exact .nil
  | cons a r ih => exact .cons (.int _) ih
theorem ja_rgl1 {xa : Ex} {p p2 q : Pos} {T : Str} {t : Bool} (hT : T = if t = true then "tuple" else "list") (gx : GX X k G) (gd : Gd X k) (hg : Gl X T) (hg2 : Gl X "range") (ha : JA X (fun env st => evA G env xa st) a) (hs : starEach [a] X.env = (false, eval a X.env) :: starEach [] X.env) :
    JA X (fun env st => evA G env (.rgl t xa .no) st) (.Call (.Name T p) [.Call (.Name "range" p2) [a] [] q] [] pos) := by
  intro W tk
  have hr := prg_1 (pos := q) (p := p2) hg2 (gx.bt "range" (by decide +kernel)) (ha W tk) hs
  cases t with
  | true =>
    subst hT
    refine PE.imp (pe_tupRg gd.calm hg (gx.bt "tuple" (by decide +kernel)) hr) ?_
    rintro σ H Q ⟨ρ, env, st, he, hs, h⟩
    simp only [evA, evO] at h
    refine ⟨ρ, env, st, he, hs, KR.bind h ?_⟩
    intro x st1 v1 H1 ρ1 e1 s1 r1 h1
    simp only [Rs.bind] at h1
    split at h1
    · split at h1
      · rename_i c
        obtain rfl := r1.int
        refine ⟨_, rfl, rgOk_ok c, fun z hz => ?_⟩
        have h2 := fin_tup (h1.ext anti_A e1) s1 rds_rng hz
        unfold rgV
        rw [Int.sub_zero]
        exact h2
      · exact h1.elim
    · exact h1.elim
  | false =>
    subst hT
    refine PE.imp (pe_listRg gd.calm hg (gx.bt "list" (by decide +kernel)) hr) ?_
    rintro σ H Q ⟨ρ, env, st, he, hs, h⟩
    simp only [evA, evO] at h
    refine ⟨ρ, env, st, he, hs, KR.bind h ?_⟩
    intro x st1 v1 H1 ρ1 e1 s1 r1 h1
    simp only [Rs.bind] at h1
    split at h1
    · split at h1
      · rename_i c
        obtain rfl := r1.int
        refine ⟨_, rfl, rgOk_ok c, fun z hz => ?_⟩
        have h2 := fin_lst (h1.ext anti_A e1) s1 rds_rng hz
        unfold rgV
        rw [Int.sub_zero]
        exact h2
      · exact h1.elim
    · exact h1.elim
end
end Ev

namespace Ev
open PySem PySem.Spec PyProof.Rows L2

mutual
theorem same_eq : ∀ {a b : D}, same a b = true → a = b
  | .non, .non, _ => rfl
  | .bl a, .bl b, h => by simp [same] at h; rw [h]
  | .int a, .int b, h => by simp [same] at h; rw [h]
  | .str a, .str b, h => by simp [same] at h; rw [h]
  | .ty a, .ty b, h => by simp [same] at h; rw [h]
  | .tup a, .tup b, h => by simp only [same] at h; rw [sames_eq h]
  | .rol a, .rol b, h => by simp only [same] at h; rw [sames_eq h]
  | .loc a, .loc b, h => by simp [same] at h; rw [h]
  | .obj a, .obj b, h => by simp [same] at h; rw [h]
  | .exn a fs, .exn b gs, h => by simp only [same, Bool.and_eq_true, decide_eq_true_eq] at h; rw [h.1, sames_eq h.2]
  | .clo a fs, .clo b gs, h => by simp only [same, Bool.and_eq_true, beq_iff_eq] at h; rw [h.1, sames_eq h.2]
  | .non, .bl _, h | .non, .int _, h | .non, .str _, h | .non, .ty _, h | .non, .tup _, h | .non, .rol _, h | .non, .loc _, h | .non, .obj _, h | .non, .exn _ _, h | .non, .clo _ _, h => by simp [same] at h
  | .bl _, .non, h | .bl _, .int _, h | .bl _, .str _, h | .bl _, .ty _, h | .bl _, .tup _, h | .bl _, .rol _, h | .bl _, .loc _, h | .bl _, .obj _, h | .bl _, .exn _ _, h | .bl _, .clo _ _, h => by simp [same] at h
  | .int _, .non, h | .int _, .bl _, h | .int _, .str _, h | .int _, .ty _, h | .int _, .tup _, h | .int _, .rol _, h | .int _, .loc _, h | .int _, .obj _, h | .int _, .exn _ _, h | .int _, .clo _ _, h => by simp [same] at h
  | .str _, .non, h | .str _, .bl _, h | .str _, .int _, h | .str _, .ty _, h | .str _, .tup _, h | .str _, .rol _, h | .str _, .loc _, h | .str _, .obj _, h | .str _, .exn _ _, h | .str _, .clo _ _, h => by simp [same] at h
  | .ty _, .non, h | .ty _, .bl _, h | .ty _, .int _, h | .ty _, .str _, h | .ty _, .tup _, h | .ty _, .rol _, h | .ty _, .loc _, h | .ty _, .obj _, h | .ty _, .exn _ _, h | .ty _, .clo _ _, h => by simp [same] at h
  | .tup _, .non, h | .tup _, .bl _, h | .tup _, .int _, h | .tup _, .str _, h | .tup _, .ty _, h | .tup _, .rol _, h | .tup _, .loc _, h | .tup _, .obj _, h | .tup _, .exn _ _, h | .tup _, .clo _ _, h => by simp [same] at h
  | .rol _, .non, h | .rol _, .bl _, h | .rol _, .int _, h | .rol _, .str _, h | .rol _, .ty _, h | .rol _, .tup _, h | .rol _, .loc _, h | .rol _, .obj _, h | .rol _, .exn _ _, h | .rol _, .clo _ _, h => by simp [same] at h
  | .loc _, .non, h | .loc _, .bl _, h | .loc _, .int _, h | .loc _, .str _, h | .loc _, .ty _, h | .loc _, .tup _, h | .loc _, .rol _, h | .loc _, .obj _, h | .loc _, .exn _ _, h | .loc _, .clo _ _, h => by simp [same] at h
  | .obj _, .non, h | .obj _, .bl _, h | .obj _, .int _, h | .obj _, .str _, h | .obj _, .ty _, h | .obj _, .tup _, h | .obj _, .rol _, h | .obj _, .loc _, h | .obj _, .exn _ _, h | .obj _, .clo _ _, h => by simp [same] at h
  | .exn _ _, .non, h | .exn _ _, .bl _, h | .exn _ _, .int _, h | .exn _ _, .str _, h | .exn _ _, .ty _, h | .exn _ _, .tup _, h | .exn _ _, .rol _, h | .exn _ _, .loc _, h | .exn _ _, .obj _, h | .exn _ _, .clo _ _, h => by simp [same] at h
  | .clo _ _, .non, h | .clo _ _, .bl _, h | .clo _ _, .int _, h | .clo _ _, .str _, h | .clo _ _, .ty _, h | .clo _ _, .tup _, h | .clo _ _, .rol _, h | .clo _ _, .loc _, h | .clo _ _, .obj _, h | .clo _ _, .exn _ _, h => by simp [same] at h
theorem sames_eq : ∀ {a b : List D}, sames a b = true → a = b
  | [], [], _ => rfl
  | a :: r, b :: q, h => by
    simp only [sames, Bool.and_eq_true] at h
    rw [same_eq h.1, sames_eq h.2]
  | [], _ :: _, h => by simp [sames] at h
  | _ :: _, [], h => by simp [sames] at h
end
mutual
theorem same_refl : ∀ (a : D), same a a = true
  | .non => by simp [same]
  | .bl _ => by simp [same]
  | .int _ => by simp [same]
  | .str _ => by simp [same]
  | .ty _ => by simp [same]
  | .tup a => by simp [same, sames_refl a]
  | .rol a => by simp [same, sames_refl a]
  | .loc _ => by simp [same]
  | .obj _ => by simp [same]
  | .exn _ a => by simp [same, sames_refl a]
  | .clo _ a => by simp [same, sames_refl a]
theorem sames_refl : ∀ (a : List D), sames a a = true
  | [] => by simp [sames]
  | a :: r => by simp [sames, same_refl a, sames_refl r]
end
theorem live_at {st : Stt} {ls : List (Nat × List D)} {l : Nat} {xs : List D} (h : liveOk st ls = true) (m : (l, xs) ∈ ls) : stLst st l = some xs := by
  have q := List.all_eq_true.mp h _ m
  simp only at q
  split at q
  · rename_i zs e
    rw [e, sames_eq q]
  · cases q
theorem live_append {st : Stt} {a b : List (Nat × List D)} (h : liveOk st (a ++ b) = true) : liveOk st a = true ∧ liveOk st b = true := by
  unfold liveOk at h ⊢
  rw [List.all_append, Bool.and_eq_true] at h
  exact h

/-! ### what is walked -/
structure RJ (K : PySem.W.Frag) (mg : Str → Option Value) (H : Hp) (ρ : List Addr) (I : Its) (J : L2.It) : Prop where
  go : ∀ (i : Nat) (x : D) H2 ρ2 st2, Ext ρ H ρ2 H2 → RS K mg H2 ρ2 st2 → liveOk st2 I.live = true → I.xs[i]? = some x → J.go i H2
  yld : ∀ (i : Nat) (x : D) H2 ρ2 st2 v H', Ext ρ H ρ2 H2 → RS K mg H2 ρ2 st2 → liveOk st2 I.live = true → I.xs[i]? = some x → J.yld i H2 v H' → Ext ρ2 H2 ρ2 H' ∧ RS K mg H' ρ2 st2 ∧ RD K mg H' ρ2 x v
  stop : ∀ H2 ρ2 st2, Ext ρ H ρ2 H2 → RS K mg H2 ρ2 st2 → liveOk st2 I.live = true → J.stop I.xs.length H2
def KI (K : PySem.W.Frag) (mg : Str → Option Value) (W : WX) (σ : L2.St) (R : L2.It → Hp → Prop) (H : Hp) (ρ : List Addr) : Rs Its → Prop
  | .ok I st => ∀ J H' ρ', Ext ρ H ρ' H' → RS K mg H' ρ' st → RJ K mg H' ρ' I J → R J H'
  | .exc c fs st => ∀ cls d H' ρ', Ext ρ H ρ' H' → RS K mg H' ρ' st → RX K mg H' ρ' c fs cls d → W cls d σ H'
  | .bad => False
def tI (K : PySem.W.Frag) (mg : Str → Option Value) (m : Env → Stt → Rs Its) (W : WX) : TI := fun σ H R => ∃ ρ env st, REnv K mg H ρ env σ ∧ RS K mg H ρ st ∧ KI K mg W σ R H ρ (m env st)
def JI (X : Cx) (m : Env → Stt → Rs Its) (tg iter : Expr) : Prop := ∀ W, Takes X W → PI X tg iter (tI X.K X.mg m W)
theorem PI.imp {X : Cx} {tg iter : Expr} {t t' : TI} (h : PI X tg iter t) (i : ∀ σ H R, t' σ H R → t σ H R) : PI X tg iter t' := ⟨fun pins s σ H R I q => h.run pins s σ H R I (i σ H R q)⟩
section
variable {K : PySem.W.Frag} {mg : Str → Option Value} {W : WX} {σ : L2.St} {R : L2.It → Hp → Prop} {H H1 H0 : Hp} {ρ ρ1 : List Addr} {st : Stt} {I : Its} {x y : A} {v u : V} {α β : Type}
theorem KI.ext {m : Rs Its} (h : KI K mg W σ R H ρ m) (e : Ext ρ H ρ1 H1) : KI K mg W σ R H1 ρ1 m := by
  cases m with
  | ok a st => exact fun b H' ρ' f s r => h b H' ρ' (e.trans f) s r
  | exc c fs st => exact fun cls d H' ρ' f s r => h cls d H' ρ' (e.trans f) s r
  | bad => exact h
theorem KI.bind {rel : Rl α β} {Q : β → Hp → Prop} {m : Rs α} {k : α → M Its} (h : KI K mg W σ R H ρ (m.bind k))
    (hk : ∀ a st b H1 ρ1, Ext ρ H ρ1 H1 → RS K mg H1 ρ1 st → rel H H1 ρ1 a b → KI K mg W σ R H ρ (k a st) → Q b H1) : KR K mg rel W σ Q H ρ m := by
  cases m with
  | ok a st => exact fun b H' ρ' e s r => hk a st b H' ρ' e s r h
  | exc c fs st => exact h
  | bad => exact h
theorem KI.ofO {o : Option Its} (h : KI K mg W σ R H ρ (Ev.ofO o st)) : ∃ z, o = some z ∧ KI K mg W σ R H ρ (.ok z st) := by
  cases o with
  | none => exact h.elim
  | some z => exact ⟨z, rfl, h⟩
/-- a list's items as they stay -/
theorem src_list {p : Addr} {vs : List V} (s : RS K mg H ρ st) (r : RA K mg H0 H ρ x v) (h : srcA st x = some I) (ht : tupOf x = none) : ∃ p, v = .ref p ∧ (∀ H2 ρ2 st2, Ext ρ H ρ2 H2 → RS K mg H2 ρ2 st2 → liveOk st2 I.live = true → ∃ vs, SqL K H2 p vs ∧ RDs K mg H2 ρ2 I.xs vs) := by
  unfold srcA at h
  split at h
  · rename_i l
    simp only [Option.map_eq_some_iff] at h
    obtain ⟨xs, e, rfl⟩ := h
    obtain ⟨p, rfl, hl⟩ := r.loc
    refine ⟨p, rfl, fun H2 ρ2 st2 e2 s2 lv => ?_⟩
    obtain ⟨vs, g1, g2⟩ := s2.lst (e2.get hl) (live_at lv (List.mem_singleton.mpr rfl))
    exact ⟨vs, .inl (.inl g1), g2⟩
  · rename_i nl
    simp only [Option.map_eq_some_iff] at h
    obtain ⟨xs, e, rfl⟩ := h
    unfold seqOf at e
    rw [ht] at e
    simp only at e
    cases r with
    | d r =>
      cases r with
      | loc q => exact absurd rfl (nl _)
      | rol q t =>
        cases (Option.some.inj e : _ = xs)
        exact ⟨_, rfl, fun H2 ρ2 st2 e2 s2 _ => ⟨_, (e2.sqR q).l, t.mono e2⟩⟩
      | _ => cases e
    | l q1 q2 q3 q4 =>
      cases (Option.some.inj e : _ = xs)
      exact ⟨_, rfl, fun H2 ρ2 st2 e2 s2 _ => ⟨_, .inl (.inl (e2.out _ _ q3 q1)), q4.mono e2⟩⟩
theorem src_tup {xs : List D} (r : RA K mg H0 H ρ x v) (h : srcA st x = some I) (ht : tupOf x = some xs) : I = ⟨xs, []⟩ ∧ ∃ p vs, v = .ref p ∧ SqT K H p vs ∧ RDs K mg H ρ xs vs := by
  obtain ⟨p, vs, rfl, h1, h2⟩ := r.seqT ht
  refine ⟨?_, p, vs, rfl, h1, h2⟩
  unfold srcA at h
  split at h
  · rename_i l
    cases ht
  · unfold seqOf at h
    rw [ht] at h
    simp at h
    exact h.symm
theorem rj_list {p : Addr} (h : ∀ H2 ρ2 st2, Ext ρ H ρ2 H2 → RS K mg H2 ρ2 st2 → liveOk st2 I.live = true → ∃ vs, SqL K H2 p vs ∧ RDs K mg H2 ρ2 I.xs vs) : RJ K mg H ρ I (Itl K p) where
  go := fun i x H2 ρ2 st2 e s lv hx => by
    obtain ⟨vs, h1, h2⟩ := h H2 ρ2 st2 e s lv
    obtain ⟨w, h3, _⟩ := h2.get hx
    exact ⟨vs, w, h1, h3⟩
  yld := fun i x H2 ρ2 st2 v H' e s lv hx y => by
    obtain ⟨rfl, y⟩ := y
    obtain ⟨vs, h1, h2⟩ := h _ ρ2 st2 e s lv
    obtain ⟨w, h3, h4⟩ := h2.get hx
    have := y vs h1
    rw [h3] at this
    cases this
    exact ⟨Ext.refl _ _, s, h4⟩
  stop := fun H2 ρ2 st2 e s lv => by
    obtain ⟨vs, h1, h2⟩ := h H2 ρ2 st2 e s lv
    exact ⟨vs, h1, by rw [h2.length]; exact Nat.le_refl _⟩
theorem rj_tup {p : Addr} {xs : List D} {vs : List V} (h1 : SqT K H p vs) (h2 : RDs K mg H ρ xs vs) : RJ K mg H ρ ⟨xs, []⟩ (Itt K p) where
  go := fun i x H2 ρ2 st2 e s lv hx => by
    obtain ⟨w, h3, _⟩ := h2.get hx
    exact ⟨vs, w, e.sqT h1, h3⟩
  yld := fun i x H2 ρ2 st2 v H' e s lv hx y => by
    obtain ⟨rfl, y⟩ := y
    obtain ⟨w, h3, h4⟩ := h2.get hx
    have := y vs (e.sqT h1)
    rw [h3] at this
    cases this
    exact ⟨Ext.refl _ _, s, h4.mono e⟩
  stop := fun H2 ρ2 st2 e s lv => ⟨vs, e.sqT h1, by rw [← h2.length]; exact Nat.le_refl _⟩
theorem rj_rng {lo : Int} {n : Nat} : RJ K mg H ρ ⟨rngI lo n, []⟩ (Itr lo n) where
  go := fun i x H2 ρ2 st2 e s lv hx => by
    have := (List.getElem?_eq_some_iff.mp hx).1
    show i < n
    simpa [rngI] using this
  yld := fun i x H2 ρ2 st2 v H' e s lv hx y => by
    obtain ⟨rfl, rfl⟩ := y
    have hl := (List.getElem?_eq_some_iff.mp hx).1
    simp [rngI] at hl
    simp [rngI, hl] at hx
    subst hx
    exact ⟨Ext.refl _ _, s, .int _⟩
  stop := fun H2 ρ2 st2 e s lv => by simp [rngI, Itr]
theorem yld_pair {T : Addr} {a b : D} {w1 w2 : V} {ρ2 : List Addr} {H2 : Hp} {st2 : Stt} (s : RS K mg H2 ρ2 st2) (hT : H2 T = none) (r1 : RD K mg H2 ρ2 a w1) (r2 : RD K mg H2 ρ2 b w2) :
    Ext ρ2 H2 ρ2 (upd H2 T (.tup [w1, w2])) ∧ RS K mg (upd H2 T (.tup [w1, w2])) ρ2 st2 ∧ RD K mg (upd H2 T (.tup [w1, w2])) ρ2 (.tup [a, b]) (.ref T) :=
  ⟨Ext.fresh hT, s.grow hT, .tup (SqT.of upd_same) (.cons (r1.mono (Ext.fresh hT)) (.cons (r2.mono (Ext.fresh hT)) .nil))⟩
theorem rj_zipL {I J : Its} {p q : Addr} (h : ∀ H2 ρ2 st2, Ext ρ H ρ2 H2 → RS K mg H2 ρ2 st2 → liveOk st2 I.live = true → ∃ vs, SqL K H2 p vs ∧ RDs K mg H2 ρ2 I.xs vs)
    (g : ∀ H2 ρ2 st2, Ext ρ H ρ2 H2 → RS K mg H2 ρ2 st2 → liveOk st2 J.live = true → ∃ vs, SqL K H2 q vs ∧ RDs K mg H2 ρ2 J.xs vs) :
    RJ K mg H ρ ⟨List.zipWith (fun u w => .tup [u, w]) I.xs J.xs, I.live ++ J.live⟩ (Itz K p q) where
  go := fun i x H2 ρ2 st2 e s lv hx => by
    obtain ⟨l1, l2⟩ := live_append lv
    obtain ⟨vs, h1, h2⟩ := h H2 ρ2 st2 e s l1
    obtain ⟨ws, g1, g2⟩ := g H2 ρ2 st2 e s l2
    simp only [List.getElem?_zipWith_eq_some] at hx
    obtain ⟨a, b, ha, hb, rfl⟩ := hx
    obtain ⟨w, h3, _⟩ := h2.get ha
    obtain ⟨w', g3, _⟩ := g2.get hb
    exact ⟨vs, ws, w, w', h1, g1, h3, g3⟩
  yld := fun i x H2 ρ2 st2 v H' e s lv hx y => by
    obtain ⟨T, z1, z2, rfl, hT, rfl, y1, y2⟩ := y
    obtain ⟨l1, l2⟩ := live_append lv
    obtain ⟨vs, h1, h2⟩ := h H2 ρ2 st2 e s l1
    obtain ⟨ws, g1, g2⟩ := g H2 ρ2 st2 e s l2
    simp only [List.getElem?_zipWith_eq_some] at hx
    obtain ⟨a, b, ha, hb, rfl⟩ := hx
    obtain ⟨w, h3, h4⟩ := h2.get ha
    obtain ⟨w', g3, g4⟩ := g2.get hb
    have e1 := y1 vs h1
    rw [h3] at e1; cases e1
    have e2 := y2 ws g1
    rw [g3] at e2; cases e2
    exact yld_pair s hT h4 g4
  stop := fun H2 ρ2 st2 e s lv => by
    obtain ⟨l1, l2⟩ := live_append lv
    obtain ⟨vs, h1, h2⟩ := h H2 ρ2 st2 e s l1
    obtain ⟨ws, g1, g2⟩ := g H2 ρ2 st2 e s l2
    exact ⟨vs, ws, h1, g1, by simp only [List.length_zipWith, ← h2.length, ← g2.length]; omega⟩
theorem rj_zipT {xs ys : List D} {p q : Addr} {vs ws : List V} (h1 : SqT K H p vs) (h2 : RDs K mg H ρ xs vs) (g1 : SqT K H q ws) (g2 : RDs K mg H ρ ys ws) :
    RJ K mg H ρ ⟨List.zipWith (fun u w => .tup [u, w]) xs ys, []⟩ (RZ.ItzT K p q) where
  go := fun i x H2 ρ2 st2 e s lv hx => by
    simp only [List.getElem?_zipWith_eq_some] at hx
    obtain ⟨a, b, ha, hb, rfl⟩ := hx
    obtain ⟨w, h3, _⟩ := h2.get ha
    obtain ⟨w', g3, _⟩ := g2.get hb
    exact ⟨vs, ws, w, w', e.sqT h1, e.sqT g1, h3, g3⟩
  yld := fun i x H2 ρ2 st2 v H' e s lv hx y => by
    obtain ⟨T, z1, z2, rfl, hT, rfl, y1, y2⟩ := y
    simp only [List.getElem?_zipWith_eq_some] at hx
    obtain ⟨a, b, ha, hb, rfl⟩ := hx
    obtain ⟨w, h3, h4⟩ := h2.get ha
    obtain ⟨w', g3, g4⟩ := g2.get hb
    have e1 := y1 vs (e.sqT h1)
    rw [h3] at e1; cases e1
    have e2 := y2 ws (e.sqT g1)
    rw [g3] at e2; cases e2
    exact yld_pair s hT (h4.mono e) (g4.mono e)
  stop := fun H2 ρ2 st2 e s lv => by
    exact ⟨vs, ws, e.sqT h1, e.sqT g1, by simp only [List.length_zipWith, ← h2.length, ← g2.length]; omega⟩
theorem enumI_get : ∀ (xs : List D) (k i : Nat), (enumI k xs)[i]? = (xs[i]?).map fun x => D.tup [.int ((k + i : Nat) : Int), x]
  | [], k, i => by simp [enumI]
  | x :: r, k, 0 => by simp [enumI]
  | x :: r, k, i + 1 => by
    simp only [enumI, List.getElem?_cons_succ]
    rw [enumI_get r (k + 1) i]
    have : k + 1 + i = k + (i + 1) := by omega
    rw [this]
theorem enumI_length : ∀ (xs : List D) (k : Nat), (enumI k xs).length = xs.length
  | [], _ => rfl
  | _ :: r, k => by simp [enumI, enumI_length r]
theorem rj_enumL {I : Its} {p : Addr} (h : ∀ H2 ρ2 st2, Ext ρ H ρ2 H2 → RS K mg H2 ρ2 st2 → liveOk st2 I.live = true → ∃ vs, SqL K H2 p vs ∧ RDs K mg H2 ρ2 I.xs vs) :
    RJ K mg H ρ ⟨enumI 0 I.xs, I.live⟩ (Ite K p) where
  go := fun i x H2 ρ2 st2 e s lv hx => by
    obtain ⟨vs, h1, h2⟩ := h H2 ρ2 st2 e s lv
    rw [enumI_get] at hx
    simp only [Option.map_eq_some_iff] at hx
    obtain ⟨a, ha, rfl⟩ := hx
    obtain ⟨w, h3, _⟩ := h2.get ha
    exact ⟨vs, w, h1, h3⟩
  yld := fun i x H2 ρ2 st2 v H' e s lv hx y => by
    obtain ⟨T, z1, rfl, hT, rfl, y1⟩ := y
    obtain ⟨vs, h1, h2⟩ := h H2 ρ2 st2 e s lv
    rw [enumI_get] at hx
    simp only [Option.map_eq_some_iff] at hx
    obtain ⟨a, ha, rfl⟩ := hx
    obtain ⟨w, h3, h4⟩ := h2.get ha
    have e1 := y1 vs h1
    rw [h3] at e1; cases e1
    rw [Nat.zero_add]
    exact yld_pair s hT (.int _) h4
  stop := fun H2 ρ2 st2 e s lv => by
    obtain ⟨vs, h1, h2⟩ := h H2 ρ2 st2 e s lv
    refine ⟨vs, h1, ?_⟩
    rw [enumI_length, h2.length]; exact Nat.le_refl _
theorem rj_enumT {p : Addr} {xs : List D} {vs : List V} (h1 : SqT K H p vs) (h2 : RDs K mg H ρ xs vs) : RJ K mg H ρ ⟨enumI 0 xs, []⟩ (IteT K p) where
  go := fun i x H2 ρ2 st2 e s lv hx => by
    rw [enumI_get] at hx
    simp only [Option.map_eq_some_iff] at hx
    obtain ⟨a, ha, rfl⟩ := hx
    obtain ⟨w, h3, _⟩ := h2.get ha
    exact ⟨vs, w, e.sqT h1, h3⟩
  yld := fun i x H2 ρ2 st2 v H' e s lv hx y => by
    obtain ⟨T, z1, rfl, hT, rfl, y1⟩ := y
    rw [enumI_get] at hx
    simp only [Option.map_eq_some_iff] at hx
    obtain ⟨a, ha, rfl⟩ := hx
    obtain ⟨w, h3, h4⟩ := h2.get ha
    have e1 := y1 vs (e.sqT h1)
    rw [h3] at e1; cases e1
    rw [Nat.zero_add]
    exact yld_pair s hT (.int _) (h4.mono e)
  stop := fun H2 ρ2 st2 e s lv => by
    refine ⟨vs, e.sqT h1, ?_⟩
    rw [enumI_length, h2.length]; exact Nat.le_refl _
end
end Ev

namespace Ev
open PySem PySem.Spec PyProof.Rows L2

section
variable {X : Cx} {k : Nat} {G : Gam} {a b c e tg : Expr} {es : List Expr} {pos : Pos}
/-! ### walks -/
def iSeq (K : PySem.W.Frag) (tl : TE) : TI := fun σ H R => tl σ H fun x H1 => ∃ a, x = .ref a ∧ (((∃ xs, SqL K H1 a xs) ∧ R (Itl K a) H1) ∨ ((∃ xs, SqT K H1 a xs) ∧ R (Itt K a) H1))
theorem pi_seq {l : Expr} {tl : TE} (hl : PE X l tl) : PI X tg l (iSeq X.K tl) := by
  refine ⟨fun pins s σ H R I h => ?_⟩
  refine thn (hl.run pins s σ H _ I h) fun v s1 ⟨x, H1, I1, r1, q1⟩ => ?_
  obtain ⟨a, e, q⟩ := q1
  subst e
  cases r1
  rcases q with ⟨⟨xs, hq⟩, q⟩ | ⟨⟨xs, hq⟩, q⟩
  · obtain ⟨its, rv, p, hz⟩ := I1.list hq
    refine wpAny_pyIter_list p.isList ?_
    refine ⟨s1.heap.objs.size, [s1.heap.objs.size], _, _, H1, rfl, I1.kept (t' := s1.toks) fun b o e => Heap.get?_push_of_some _ e, turn_list a _, ⟨_, Heap.get?_push_size _ rfl, rfl, rfl⟩, fun b hb => ?_, q⟩
    have e : b = s1.heap.objs.size := by simpa using hb
    subst e
    exact I1.fpOk (Nat.le_refl _) (I1.hok.fresh (Nat.le_refl _))
  · obtain ⟨its, rv, p, hz⟩ := I1.tuple hq
    refine wpAny_pyIter_tuple (show s1.heap.IsTuple a its.toArray from p) ?_
    refine ⟨s1.heap.objs.size, [s1.heap.objs.size], _, _, H1, rfl, I1.kept (t' := s1.toks) fun b o e => Heap.get?_push_of_some _ e, turn_tuple a _, ⟨_, Heap.get?_push_size _ rfl, rfl, rfl⟩, fun b hb => ?_, q⟩
    have e : b = s1.heap.objs.size := by simpa using hb
    subst e
    exact I1.fpOk (Nat.le_refl _) (I1.hok.fresh (Nat.le_refl _))
theorem ji_val {xa : Ex} (ha : JA X (fun env st => evA G env xa st) a) : JI X (fun env st => evIt G env (.val xa) st) tg a := by
  intro W tk
  refine PI.imp (pi_seq (ha W tk)) ?_
  rintro σ H Q ⟨ρ, env, st, he, hs, h⟩
  simp only [evIt] at h
  refine ⟨ρ, env, st, he, hs, KI.bind h ?_⟩
  intro x st1 v1 H1 ρ1 e1 s1 r1 h1
  obtain ⟨I, eI, h2⟩ := KI.ofO h1
  cases ht : tupOf x with
  | none =>
    obtain ⟨p, rfl, hp⟩ := src_list (p := 0) (vs := []) s1 r1 eI ht
    refine ⟨p, rfl, .inl ⟨?_, h2 _ H1 ρ1 e1 s1 (rj_list hp)⟩⟩
    have lv : liveOk st1 I.live = true := by
      unfold srcA at eI
      split at eI
      · simp only [Option.map_eq_some_iff] at eI
        obtain ⟨xs, e2, rfl⟩ := eI
        simp only [liveOk, List.all_cons, List.all_nil, Bool.and_true, e2, sames_refl]
      · simp only [Option.map_eq_some_iff] at eI
        obtain ⟨xs, e2, rfl⟩ := eI
        rfl
    obtain ⟨vs, h3, _⟩ := hp H1 ρ1 st1 (Ext.refl _ _) s1 lv
    exact ⟨vs, h3⟩
  | some xs =>
    obtain ⟨rfl, p, vs, rfl, h3, h4⟩ := src_tup r1 eI ht
    exact ⟨p, rfl, .inr ⟨⟨vs, h3⟩, h2 _ H1 ρ1 e1 s1 (rj_tup h3 h4)⟩⟩
theorem rng_of {i : Int} (h : rngOk i = true) : -(2 ^ 62) ≤ i ∧ i < 2 ^ 62 := of_decide_eq_true h
theorem ji_rng {xa : Ex} {p : Pos} (gx : GX X k G) (hg : Gl X "range") (ha : JA X (fun env st => evA G env xa st) a) (hs1 : starEach (a :: []) X.env = (false, eval a X.env) :: starEach [] X.env) : JI X (fun env st => evIt G env (.rng xa) st) tg (.Call (.Name "range" p) [a] [] pos) := by
  intro W tk
  have hm := gx.bt "range" (by decide +kernel)
  refine PI.imp (pi_range1 hg hm (pa_cons (ha W tk) pa_nil hs1) hs1) ?_
  rintro σ H Q ⟨ρ, env, st, he, hs, h⟩
  simp only [evIt] at h
  refine ⟨ρ, env, st, he, hs, KI.bind h ?_⟩
  intro x st1 v1 H1 ρ1 e1 s1 r1 h1
  split at h1
  · rename_i n
    obtain rfl := r1.int
    split at h1
    · rename_i c
      have := rng_of c
      exact ⟨n, rfl, this.1, this.2, h1 _ H1 ρ1 e1 s1 rj_rng⟩
    · exact h1.elim
  · exact h1.elim
theorem ji_rng2 {xa xb : Ex} {p : Pos} (gx : GX X k G) (hg : Gl X "range") (ha : JA X (fun env st => evA G env xa st) a) (hb : JA X (fun env st => evA G env xb st) b)
    (hs2 : starEach (a :: [b]) X.env = (false, eval a X.env) :: starEach [b] X.env) (hs1 : starEach (b :: []) X.env = (false, eval b X.env) :: starEach [] X.env) : JI X (fun env st => evIt G env (.rng2 xa xb) st) tg (.Call (.Name "range" p) [a, b] [] pos) := by
  intro W tk
  have hm := gx.bt "range" (by decide +kernel)
  refine PI.imp (pi_range2 hg hm (pa_cons (ha W tk) (pa_cons (hb W tk) pa_nil hs1) hs2) (by rw [hs2, hs1]; rfl) hs1) ?_
  rintro σ H Q ⟨ρ, env, st, he, hs, h⟩
  simp only [evIt] at h
  refine ⟨ρ, env, st, he, hs, KI.bind h ?_⟩
  intro x st1 v1 H1 ρ1 e1 s1 r1 h1
  refine ⟨ρ1, env, st1, he.mono e1, s1, KI.bind (h1.ext e1) ?_⟩
  intro y st2 v2 H2 ρ2 e2 s2 r2 h2
  split at h2
  · rename_i i j
    obtain rfl := r1.int
    obtain rfl := r2.int
    split at h2
    · rename_i c
      have c1 := rng_of c.1
      have c2 := rng_of c.2
      exact ⟨i, j, rfl, ⟨c1.1, c1.2, c2.1, c2.2⟩, h2 _ H2 ρ2 e2 s2 rj_rng⟩
    · exact h2.elim
  · exact h2.elim
theorem src_live {st : Stt} {x : A} {I : Its} (h : srcA st x = some I) : liveOk st I.live = true := by
  unfold srcA at h
  split at h
  · simp only [Option.map_eq_some_iff] at h
    obtain ⟨xs, e2, rfl⟩ := h
    simp only [liveOk, List.all_cons, List.all_nil, Bool.and_true, e2, sames_refl]
  · simp only [Option.map_eq_some_iff] at h
    obtain ⟨xs, e2, rfl⟩ := h
    rfl
theorem ji_zip {xa xb : Ex} {p tpos : Pos} {elts : List Expr} {kk : Nat} (gx : GX X k G) (hg : Gl X "zip") (ha : JA X (fun env st => evA G env xa st) a) (hb : JA X (fun env st => evA G env xb st) b)
    (hs2 : starEach (a :: [b]) X.env = (false, eval a X.env) :: starEach [b] X.env) (hs1 : starEach (b :: []) X.env = (false, eval b X.env) :: starEach [] X.env) (hpl : (backTo pos (starEach [b] X.env)).any (·.1) = false) :
    JI X (fun env st => evIt G env (.zip xa xb) st) (.Tuple elts kk tpos) (.Call (.Name "zip" p) [a, b] [] pos) := by
  intro W tk
  have hm := gx.bt "zip" (by decide +kernel)
  refine PI.imp (RZ.pi_zipA hg hm (pa_cons (ha W tk) (pa_cons (hb W tk) pa_nil hs1) hs2) hs2 hpl) ?_
  rintro σ H Q ⟨ρ, env, st, he, hs, h⟩
  simp only [evIt] at h
  refine ⟨ρ, env, st, he, hs, KI.bind h ?_⟩
  intro x st1 v1 H1 ρ1 e1 s1 r1 h1
  refine ⟨ρ1, env, st1, he.mono e1, s1, KI.bind (h1.ext e1) ?_⟩
  intro y st2 v2 H2 ρ2 e2 s2 r2 h2
  split at h2
  · rename_i I J eI eJ
    split at h2
    · rename_i c
      have r1' := r1.mono e2
      cases hx : tupOf x with
      | none =>
        rw [hx] at c
        have hy : tupOf y = none := by
          cases hy : tupOf y with
          | none => rfl
          | some _ => rw [hy] at c; cases c
        obtain ⟨p, rfl, hp⟩ := src_list (p := 0) (vs := []) s2 r1' eI hx
        obtain ⟨q, rfl, hq⟩ := src_list (p := 0) (vs := []) s2 r2 eJ hy
        obtain ⟨vs, g1, _⟩ := hp H2 ρ2 st2 (Ext.refl _ _) s2 (src_live eI)
        obtain ⟨ws, g2, _⟩ := hq H2 ρ2 st2 (Ext.refl _ _) s2 (src_live eJ)
        exact ⟨p, q, vs, ws, rfl, .inl ⟨g1, g2, h2 _ H2 ρ2 e2 s2 (rj_zipL hp hq)⟩⟩
      | some xs =>
        rw [hx] at c
        cases hy : tupOf y with
        | none => rw [hy] at c; cases c
        | some ys =>
          obtain ⟨rfl, p, vs, rfl, h3, h4⟩ := src_tup r1' eI hx
          obtain ⟨rfl, q, ws, rfl, g3, g4⟩ := src_tup r2 eJ hy
          exact ⟨p, q, vs, ws, rfl, .inr ⟨h3, g3, h2 _ H2 ρ2 e2 s2 (rj_zipT h3 h4 g3 g4)⟩⟩
    · exact h2.elim
  · exact h2.elim
theorem ji_enum {xa : Ex} {p tpos : Pos} {elts : List Expr} {kk : Nat} (gx : GX X k G) (hg : Gl X "enumerate") (ha : JA X (fun env st => evA G env xa st) a) (hs1 : starEach (a :: []) X.env = (false, eval a X.env) :: starEach [] X.env) :
    JI X (fun env st => evIt G env (.enum xa) st) (.Tuple elts kk tpos) (.Call (.Name "enumerate" p) [a] [] pos) := by
  intro W tk
  have hm := gx.bt "enumerate" (by decide +kernel)
  refine PI.imp (pi_enumE hg hm (pa_cons (ha W tk) pa_nil hs1) hs1) ?_
  rintro σ H Q ⟨ρ, env, st, he, hs, h⟩
  simp only [evIt] at h
  refine ⟨ρ, env, st, he, hs, KI.bind h ?_⟩
  intro x st1 v1 H1 ρ1 e1 s1 r1 h1
  split at h1
  · rename_i I eI
    cases hx : tupOf x with
    | none =>
      obtain ⟨p, rfl, hp⟩ := src_list (p := 0) (vs := []) s1 r1 eI hx
      obtain ⟨vs, g1, _⟩ := hp H1 ρ1 st1 (Ext.refl _ _) s1 (src_live eI)
      exact ⟨p, vs, rfl, .inl ⟨g1, h1 _ H1 ρ1 e1 s1 (rj_enumL hp)⟩⟩
    | some xs =>
      obtain ⟨rfl, p, vs, rfl, h3, h4⟩ := src_tup r1 eI hx
      exact ⟨p, vs, rfl, .inr ⟨h3, h1 _ H1 ρ1 e1 s1 (rj_enumT h3 h4)⟩⟩
  · exact h1.elim

/-! ### targets -/
def gD (K : PySem.W.Frag) (mg : Str → Option Value) (t : Tg) : TG := fun v σ H Q => ∃ ρ env x env', REnv K mg H ρ env σ ∧ RD K mg H ρ x v ∧ asgD t x env = some env' ∧
  ∀ σ', REnv K mg H ρ env' σ' → (∀ vs, (∀ i ∈ slots t, i ∈ vs) → wipe σ' vs = wipe σ vs) → Q σ' H
def gDs (K : PySem.W.Frag) (mg : Str → Option Value) (t : Tgs) : TGs := fun vs σ H Q => ∃ ρ env xs env', REnv K mg H ρ env σ ∧ RDs K mg H ρ xs vs ∧ asgDs t xs env = some env' ∧
  ∀ σ', REnv K mg H ρ env' σ' → (∀ vs, (∀ i ∈ slotss t, i ∈ vs) → wipe σ' vs = wipe σ vs) → Q σ' H
abbrev JG (X : Cx) (t : Tg) (e : Expr) : Prop := PG X e (gD X.K X.mg t)
abbrev JGs (X : Cx) (t : Tgs) (es : List Expr) : Prop := PGs X es (gDs X.K X.mg t)
theorem PG.imp {X : Cx} {e : Expr} {t t' : TG} (h : PG X e t) (i : ∀ v σ H Q, t' v σ H Q → t v σ H Q) : PG X e t' := ⟨fun pins s σ H v u Q I r q => h.run pins s σ H v u Q I r (i v σ H Q q)⟩
theorem PGs.imp {X : Cx} {e : List Expr} {t t' : TGs} (h : PGs X e t) (i : ∀ v σ H Q, t' v σ H Q → t v σ H Q) : PGs X e t' := ⟨fun pins s σ H v u Q I r q => h.run pins s σ H v u Q I r (i v σ H Q q)⟩
theorem wipe_set {σ : L2.St} {i : Nat} {x : Option V} : ∀ {vs : List Nat}, i ∈ vs → wipe (σ.set i x) vs = wipe σ vs
  | v :: vs, h => by
    unfold wipe
    by_cases e : i ∈ vs
    · rw [wipe_set e]
    · have : i = v := by
        rcases List.mem_cons.mp h with h | h
        · exact h
        · exact absurd h e
      subst this
      have go : ∀ (vs : List Nat), (wipe (σ.set i x) vs).set i none = (wipe σ vs).set i none := by
        intro vs
        induction vs with
        | nil => simp [wipe]
        | cons w ws ih =>
          unfold wipe
          by_cases e : w = i
          · subst e
            simp only [List.set_set]
            exact ih
          · rw [List.set_comm _ _ e, ih, List.set_comm _ _ (Ne.symm e)]
      exact go vs
theorem jg_nm {i : Nat} {x : Str} (hN : X.N.Nodup) (hi : X.N[i]? = some x) (hx : Loc X.env.scope x) (hf : X.fn x = true ∨ X.env.scope.names.lookup x = some .local) : JG X (.nm i) (.Name x pos) := by
  refine PG.imp (pg_name hN hi hx hf) ?_
  rintro v σ H Q ⟨ρ, env, d, env', he, r, ea, q⟩
  simp only [asgD] at ea
  split at ea
  · cases ea
    exact q _ (he.set r i) fun vs hv => wipe_set (hv i (by simp [slots]))
  · cases ea
theorem jgs_nil : JGs X .nil [] := by
  refine PGs.imp pgs_nil ?_
  rintro v σ H Q ⟨ρ, env, xs, env', he, r, ea, q⟩
  cases r with
  | nil =>
    simp only [asgDs] at ea
    cases ea
    exact ⟨rfl, q σ he fun _ _ => rfl⟩
  | cons _ _ => simp [asgDs] at ea
theorem jgs_cons {t : Tg} {r : Tgs} (h1 : JG X t e) (h2 : JGs X r es) (hs : (assignEach (e :: es) X.env).map (·.2) = assign e X.env :: (assignEach es X.env).map (·.2)) : JGs X (.cons t r) (e :: es) := by
  refine PGs.imp (pgs_cons h1 h2 hs) ?_
  rintro v σ H Q ⟨ρ, env, xs, env', he, rr, ea, q⟩
  cases rr with
  | nil => simp [asgDs] at ea
  | cons r1 r2 =>
    simp only [asgDs] at ea
    obtain ⟨e2, ea, eb⟩ := Option.bind_eq_some_iff.mp ea
    refine ⟨_, _, rfl, ρ, env, _, e2, he, r1, ea, fun σ2 he2 hw2 => ⟨ρ, e2, _, env', he2, r2, eb, fun σ3 he3 hw3 => q σ3 he3 fun vs hv => ?_⟩⟩
    rw [hw3 vs fun i hi => hv i (by simp [slotss, hi]), hw2 vs fun i hi => hv i (by simp [slotss, hi])]
def tgsLen : Tgs → Nat
  | .nil => 0
  | .cons _ r => tgsLen r + 1
theorem asgDs_len : ∀ {t : Tgs} {xs : List D} {e e' : Env}, asgDs t xs e = some e' → xs.length = tgsLen t
  | .nil, [], _, _, _ => rfl
  | .nil, _ :: _, _, _, h => by simp [asgDs] at h
  | .cons _ _, [], _, _, h => by simp [asgDs] at h
  | .cons t r, x :: xs, e, e', h => by
    simp only [asgDs] at h
    obtain ⟨e2, _, eb⟩ := Option.bind_eq_some_iff.mp h
    simp [tgsLen, asgDs_len eb]
theorem jg_tup {ts : Tgs} {n kk : Nat} (hc : X.calm = true) (h : JGs X ts es) (hn : (assignEach es X.env).length = tgsLen ts) (hst : (assignEach es X.env).findIdx? (·.1) = none) : JG X (.tup ts) (.Tuple es kk pos) := by
  refine PG.imp (pg_tup hc h hn hst) ?_
  rintro v σ H Q ⟨ρ, env, d, env', he, r, ea, q⟩
  simp only [asgD] at ea
  split at ea
  · rename_i xs
    obtain ⟨a, vs, rfl, h1, h2⟩ := r.tup'
    refine ⟨a, vs, rfl, h1, ?_, ρ, env, xs, env', he, h2, ea, fun σ' h3 h4 => q σ' h3 fun vs hv => h4 vs (by simpa [slots] using hv)⟩
    rw [← h2.length, asgDs_len ea]
  · cases ea
end
end Ev

namespace Ev
open PySem PySem.Spec PyProof.Rows L2

/-! ### a list under way, that nobody names -/
section
variable {K : PySem.W.Frag} {mg : Str → Option Value} {ρ ρ' ρ1 : List Addr} {H H' H1 : Hp} {D : Addr} {o : HO} {st : Stt}
theorem RD.move (im : ∀ a o, H a = some o → Imm o → H' a = some o) (go : ∀ (l : Nat) (a : Addr), ρ[l]? = some a → ρ'[l]? = some a) {x : Ev.D} {v : V} (h : RD K mg H ρ x v) : RD K mg H' ρ' x v := by
  have rd : ∀ {a : Addr} {u : HO}, Rd H a u → Imm u → Rd H' a u := fun {a u} h hi => by
    rcases h with h | ⟨o, h⟩
    · exact .inl (im a _ h hi)
    · exact .inr ⟨o, im a _ h trivial⟩
  have sT : ∀ {a : Addr} {xs : List V}, SqT K H a xs → SqT K H' a xs := fun h => by
    rcases h with h | h
    · exact .inl (rd h trivial)
    · exact .inr h
  have sR : ∀ {a : Addr} {xs : List V}, SqR K H a xs → SqR K H' a xs := fun h => by
    rcases h with ⟨o, h⟩ | h
    · exact .inl ⟨o, im _ _ h trivial⟩
    · exact .inr h
  exact (RD.rec (motive_1 := fun x v _ => RD K mg H' ρ' x v) (motive_2 := fun xs vs _ => RDs K mg H' ρ' xs vs)
    .non .bl .int .str .ty (fun h _ t => .tup (sT h) t) (fun h _ t => .rol (sR h) t) (fun h => .loc (go _ _ h)) .obj (fun h1 h2 => .exn0 h1 (im _ _ h2 trivial)) (fun h1 h2 h3 _ r => .exn1 h1 (im _ _ h2 trivial) (im _ _ h3 trivial) r) .nil (fun _ _ a b => .cons a b) h)
theorem RDs.move (im : ∀ a o, H a = some o → Imm o → H' a = some o) (go : ∀ (l : Nat) (a : Addr), ρ[l]? = some a → ρ'[l]? = some a) {xs : List Ev.D} {vs : List V} (h : RDs K mg H ρ xs vs) : RDs K mg H' ρ' xs vs := by
  induction xs generalizing vs with
  | nil => cases h; exact .nil
  | cons x xs ih => cases h with
    | cons a t => exact .cons (a.move im go) (ih t)
theorem RKs.move (im : ∀ a o, H a = some o → Imm o → H' a = some o) (go : ∀ (l : Nat) (a : Addr), ρ[l]? = some a → ρ'[l]? = some a) {κ : Type} {xs : List (κ × Ev.D)} {vs : List (κ × V)} (h : RKs K mg H ρ xs vs) : RKs K mg H' ρ' xs vs := by
  induction h with
  | nil => exact .nil
  | cons h _ ih => exact .cons (h.move im go) ih
theorem RO.move (im : ∀ a o, H a = some o → Imm o → H' a = some o) (go : ∀ (l : Nat) (a : Addr), ρ[l]? = some a → ρ'[l]? = some a) {u : Ob} {a : Addr} (h : RO K mg H ρ u a) (k : H' a = H a) : RO K mg H' ρ' u a := by
  cases h with
  | lst h1 h2 => exact .lst (k.trans h1) (h2.move im go)
  | dic h1 h2 => exact .dic (k.trans h1) (h2.move im go)
  | ins h0 h1 h2 => exact .ins h0 (k.trans h1) (h2.move im go)
theorem imm_poke {vs : List V} (h : H D = some (.lst vs)) : ∀ a u, H a = some u → Imm u → upd H D o a = some u := fun a u q i => by
  by_cases e : a = D
  · subst e; rw [h] at q; cases q; exact i.elim
  · rw [upd_ne e]; exact q
theorem RS.poke {vs : List V} (s : RS K mg H ρ st) (n : D ∉ ρ) (h : H D = some (.lst vs)) : RS K mg (upd H D o) ρ st :=
  ⟨s.len, s.nd, fun l a u h1 h2 => (s.at' l a u h1 h2).move (imm_poke h) (fun _ _ q => q) (upd_ne fun e => n (e ▸ List.mem_of_getElem? h1))⟩
theorem Ext.poke (e : Ext ρ H ρ' H') (h : H D = none) : Ext ρ H ρ' (upd H' D o) where
  pre := e.pre
  new := e.new
  out := fun a u q n => by rw [upd_ne (ne_of_none q h)]; exact e.out a u q n
  imm := fun a u q n => by rw [upd_ne (ne_of_none q h)]; exact e.imm a u q n
  kept := fun a q => by
    by_cases z : a = D
    · rw [z]; exact h
    · rw [upd_ne z] at q; exact e.kept a q
theorem Ext.notin (e : Ext ρ H ρ' H') (n : D ∉ ρ) (h : H D = some o) : D ∉ ρ' := fun m => by
  rcases e.new D m with q | q
  · exact n q
  · rw [h] at q; cases q
theorem wipeE_len (e : Env) : ∀ vs, (wipeE e vs).length = e.length
  | [] => rfl
  | i :: r => by simp [wipeE, wipeE_len e r]
theorem wipeE_get {e : Env} {i : Nat} {x : Ev.D} : ∀ {vs}, (wipeE e vs)[i]? = some (some x) → e[i]? = some (some x) ∧ i ∉ vs
  | [], h => ⟨h, by simp⟩
  | v :: vs, h => by
    unfold wipeE at h
    by_cases hi : v = i
    · subst hi
      by_cases hv : v < (wipeE e vs).length
      · rw [List.getElem?_set_self hv] at h; cases h
      · rw [List.getElem?_eq_none (by simpa using hv)] at h; cases h
    · rw [List.getElem?_set_ne hi] at h
      obtain ⟨h1, h2⟩ := wipeE_get h
      exact ⟨h1, by simp only [List.mem_cons, not_or]; exact ⟨fun e => hi e.symm, h2⟩⟩
theorem wipe_get {σ : L2.St} {i : Nat} : ∀ {vs : List Nat}, i ∉ vs → (wipe σ vs)[i]? = σ[i]?
  | [], _ => rfl
  | v :: vs, h => by
    unfold wipe
    simp only [List.mem_cons, not_or] at h
    rw [List.getElem?_set_ne (fun e => h.1 e.symm), wipe_get h.2]
theorem wipe_in {σ : L2.St} {i : Nat} : ∀ {vs : List Nat}, i ∈ vs → (L2.wipe σ vs)[i]? = if i < σ.length then some none else none
  | v :: vs, h => by
    unfold L2.wipe
    by_cases e : v = i
    · subst e
      by_cases q : v < σ.length
      · rw [List.getElem?_set_self (by rw [wipe_length]; exact q), if_pos q]
      · rw [if_neg q, List.getElem?_eq_none (by rw [List.length_set, wipe_length]; omega)]
    · rw [List.getElem?_set_ne e]
      exact wipe_in ((List.mem_cons.mp h).resolve_left fun z => e z.symm)
theorem wipe_wipe {σ : L2.St} {vs : List Nat} : L2.wipe (L2.wipe σ vs) vs = L2.wipe σ vs := by
  apply List.ext_getElem?
  intro i
  by_cases h : i ∈ vs
  · rw [wipe_in h, wipe_in h, wipe_length]
  · rw [wipe_get h]
theorem REnv.wipe {env : Env} {σ : L2.St} (h : REnv K mg H ρ env σ) (vs : List Nat) : REnv K mg H ρ (wipeE env vs) (L2.wipe σ vs) := by
  refine ⟨by rw [wipeE_len, wipe_length, h.1], fun i x q => ?_⟩
  obtain ⟨q1, q2⟩ := wipeE_get q
  obtain ⟨v, a, b⟩ := h.2 i x q1
  exact ⟨v, by rw [wipe_get q2]; exact a, b⟩
end
section
variable {K : PySem.W.Frag} {mg : Str → Option Value} {W : WX} {σ : L2.St} {H H1 H0 : Hp} {ρ ρ1 : List Addr} {st : Stt} {α β γ δ : Type}
theorem KI.bindV {rel2 : Rl γ δ} {Q : δ → Hp → Prop} {R : L2.It → Hp → Prop} {m : Rs Its} {k : Its → M γ} (h : KR K mg rel2 W σ Q H ρ (m.bind k))
    (hk : ∀ I st J H1 ρ1, m = .ok I st → Ext ρ H ρ1 H1 → RS K mg H1 ρ1 st → RJ K mg H1 ρ1 I J → KR K mg rel2 W σ Q H ρ (k I st) → R J H1) : KI K mg W σ R H ρ m := by
  cases m with
  | ok a st => exact fun b H' ρ' e s r => hk a st b H' ρ' rfl e s r h
  | exc c fs st => exact h
  | bad => exact h
theorem Rs.bind_ok {m : Rs α} {k : α → M γ} {z : γ} {s : Stt} (h : m.bind k = .ok z s) : ∃ a s1, m = .ok a s1 ∧ k a s1 = .ok z s := by
  cases m with
  | ok a s1 => exact ⟨a, s1, rfl, h⟩
  | exc c fs s1 => cases h
  | bad => cases h
/-- a run that ends well takes any wish -/
theorem KR.ok {rel : Rl α β} {R : β → Hp → Prop} {m : Rs α} {a : α} {st' : Stt} (h : m = .ok a st') (hk : ∀ b H1 ρ1, Ext ρ H ρ1 H1 → RS K mg H1 ρ1 st' → rel H H1 ρ1 a b → R b H1) : KR K mg rel W σ R H ρ m := by
  subst h
  exact hk
end
def JTs (X : Cx) (m : Env → Stt → Rs Bool) (ifs : List Expr) : Prop := ∀ W, Takes X W → PTs X ifs (tR X.K X.mg rEq m W)
theorem PTs.imp {X : Cx} {e : List Expr} {t t' : TT} (h : PTs X e t) (i : ∀ σ H Q, t' σ H Q → t σ H Q) : PTs X e t' := ⟨fun pins s σ H Q I q => h.run pins s σ H Q I (i σ H Q q)⟩
/-- a comprehension's test -/
def evIf (G : Gam) (env : Env) (f : Eo) (st : Stt) : Rs Bool := match f with
  | .no => .ok true st
  | .so c => (evA G env c st).bind truA
section
variable {X : Cx} {k : Nat} {G : Gam} {a b c e tg iter elt : Expr} {es ifs : List Expr} {pos : Pos}
theorem jts_no : JTs X (fun env st => evIf G env .no st) [] := by
  intro W tk
  refine PTs.imp pts_nil ?_
  rintro σ H Q ⟨ρ, env, st, he, hs, h⟩
  exact h true H ρ (Ext.refl _ _) hs rfl
theorem jts_so {xc : Ex} (h : JT X (fun env st => tst G env xc st) c) : JTs X (fun env st => evIf G env (.so xc) st) [c] := fun W tk => pts_one (h W tk)
theorem acc_len {live : List (Nat × List Ev.D)} {step : Ev.D → Stt → Rs (Option Ev.D)} {x : Ev.D} {r zs : List Ev.D} {st st' : Stt} (h : lcGo live step (x :: r) st = .ok zs st') :
    liveOk st live = true ∧ ∃ y st1 ys, step x st = .ok y st1 ∧ lcGo live step r st1 = .ok ys st' ∧ zs = (match y with
      | some z => z :: ys
      | none => ys) := by
  simp only [lcGo] at h
  split at h
  · rename_i lv
    refine ⟨lv, ?_⟩
    split at h
    · rename_i y st1 e1
      split at h
      · rename_i ys st2 e2
        cases h
        exact ⟨y, st1, ys, e1, e2, rfl⟩
      · cases h
    · cases h
  · cases h
/-- one turn's run -/
def lcStep (G : Gam) (env : Env) (t : Tg) (f : Eo) (xe : Ex) (x : Ev.D) (st : Stt) : Rs (Option Ev.D) :=
  (ofO (asgD t x env) st).bind fun e2 st => (evIf G e2 f st).bind fun b st => if b = true then (evE G e2 xe st).bind fun z st => .ok (some z) st else .ok none st
theorem evA_lc {t : Tg} {xi : It} {f : Eo} {xe : Ex} {ow : List Nat} {env : Env} {st : Stt} : evA G env (.lc xe t xi f ow) st = (evIt G env xi st).bind fun I st => (lcGo I.live (lcStep G (wipeE env ow) t f xe) I.xs st).bind fun ys st => if lenOk I.xs.length = true then .ok (.l ys) st else .bad := by
  simp only [evA]
  congr 1
  funext I st
  congr 2
  funext x st
  unfold lcStep
  congr 1
  funext e2 st
  cases f <;> simp only [evIf] <;> congr 1 <;> funext b st <;> cases b <;> simp only [Bool.false_eq_true, if_true, if_false, evE] <;> cases evA G e2 xe st <;> rfl
abbrev tLcE (X : Cx) (G : Gam) (W : WX) (t : Tg) (xi : It) (f : Eo) (xe : Ex) (ow : List Nat) : TE := tLc (tI X.K X.mg (fun env st => evIt G env xi st) W) (gD X.K X.mg t) (tR X.K X.mg rEq (fun env st => evIf G env f st) (fun _ _ _ _ => False)) (tR X.K X.mg (rD X.K X.mg) (fun env st => evE G env xe st) (fun _ _ _ _ => False)) ow
theorem lc_imp {W : WX} {t : Tg} {xi : It} {f : Eo} {xe : Ex} {own : List (Str × Nat)} (hsl : ∀ i ∈ slots t, i ∈ own.map (·.2)) :
    ∀ σ H Q, tR X.K X.mg (RA X.K X.mg) (fun env st => evA G env (.lc xe t xi f (own.map (·.2))) st) W σ H Q → tLcE X G W t xi f xe (own.map (·.2)) σ H Q := by
  rintro σ H Q ⟨ρ, env, st, hE, hS, h⟩
  have h : KR X.K X.mg (RA X.K X.mg) W σ Q H ρ (evA G env (.lc xe t xi f (own.map (·.2))) st) := h
  rw [evA_lc] at h
  refine ⟨ρ, env, st, hE, hS, KI.bindV h ?_⟩
  intro I st1 J H1 ρ1 _ e1 s1 rj h1 D hD
  have e10 : H D = none := e1.kept D hD
  -- the block's run ends well
  have hrun : ∃ ys st', lcGo I.live (lcStep G (wipeE env (own.map (·.2))) t f xe) I.xs st1 = .ok ys st' ∧ lenOk I.xs.length = true ∧ KR X.K X.mg (RA X.K X.mg) W σ Q H ρ (.ok (.l ys) st') := by
    cases q : lcGo I.live (lcStep G (wipeE env (own.map (·.2))) t f xe) I.xs st1 with
    | ok ys st' =>
      rw [q] at h1
      have h1 : KR X.K X.mg (RA X.K X.mg) W σ Q H ρ (if lenOk I.xs.length = true then .ok (.l ys) st' else .bad) := h1
      split at h1
      · rename_i c
        exact ⟨ys, st', rfl, c, h1⟩
      · exact h1.elim
    | exc c fs st' =>
      exfalso
      cases q2 : I.xs with
      | nil => rw [q2] at q; simp only [lcGo] at q; split at q <;> cases q
      | cons x r =>
        rw [q2] at q; simp only [lcGo] at q
        split at q
        · split at q
          · split at q <;> cases q
          · cases q
        · cases q
    | bad => rw [q] at h1; exact h1.elim
  obtain ⟨ys, st', hgo, hlen, hfin⟩ := hrun
  have hlen : I.xs.length ≤ 1000000 := of_decide_eq_true hlen
  have hE1 := hE.mono e1
  refine ⟨fun i m H2 => m = I.xs.length - i ∧ i ≤ I.xs.length ∧ ∃ ρ2 st2 acc vacc zs, Ext ρ1 H1 ρ2 H2 ∧ RS X.K X.mg H2 ρ2 st2 ∧ D ∉ ρ2 ∧ H2 D = some (.lst vacc) ∧ RDs X.K X.mg H2 ρ2 acc vacc ∧ acc.length ≤ i ∧
    lcGo I.live (lcStep G (wipeE env (own.map (·.2))) t f xe) (I.xs.drop i) st2 = .ok zs st' ∧ ys = acc ++ zs, ⟨I.xs.length, rfl, Nat.zero_le _, ρ1, st1, [], [], ys, Ext.fresh hD, s1.grow hD, s1.fresh hD, upd_same, .nil, Nat.le_refl _, hgo, rfl⟩, ?_⟩
  rintro i m H2 ⟨rfl, hle, ρ2, st2, acc, vacc, zs, x2, s2, n2, d2, r2, l2, g2, rfl⟩
  by_cases hlt : i < I.xs.length
  · right
    have hx : I.xs[i]? = some I.xs[i] := List.getElem?_eq_getElem hlt
    rw [List.drop_eq_getElem_cons hlt] at g2
    obtain ⟨lv, y, st3, zs3, e3, g3, rfl⟩ := acc_len g2
    refine ⟨rj.go i _ H2 ρ2 st2 x2 s2 lv hx, fun H' => ∃ ρ2 st2 acc vacc zs, Ext ρ1 H1 ρ2 H' ∧ RS X.K X.mg H' ρ2 st2 ∧ D ∉ ρ2 ∧ H' D = some (.lst vacc) ∧ RDs X.K X.mg H' ρ2 acc vacc ∧ acc.length ≤ i + 1 ∧
      lcGo I.live (lcStep G (wipeE env (own.map (·.2))) t f xe) (I.xs.drop (i + 1)) st2 = .ok zs st' ∧ _ = acc ++ zs, fun H' z => ⟨_, by omega, rfl, hlt, z⟩, fun v H3 yy => ?_⟩
    obtain ⟨x3, s3, r3⟩ := rj.yld i _ H2 ρ2 st2 v H3 x2 s2 lv hx yy
    unfold lcStep at e3
    obtain ⟨env2, st4, e4, e31⟩ := Rs.bind_ok e3
    have e4' : asgD t I.xs[i] (wipeE env (own.map (·.2))) = some env2 ∧ st2 = st4 := by
      cases q : asgD t I.xs[i] (wipeE env (own.map (·.2))) with
      | none => rw [q] at e4; cases e4
      | some z => rw [q] at e4; cases e4; exact ⟨rfl, rfl⟩
    obtain ⟨e41, e42⟩ := e4'
    rw [e42] at s3
    obtain ⟨bb, st5, e5, e3⟩ := Rs.bind_ok e31
    refine ⟨ρ2, _, _, env2, ((hE1.mono (x2.trans x3)).wipe _), r3, e41, fun σ2 he2 hw2 => ⟨(hw2 _ hsl).trans wipe_wipe, ρ2, env2, _, he2, s3, KR.ok e5 ?_⟩⟩
    intro b' H5 ρ5 x5 s5 hb
    subst hb
    have d3 : H3 D = some (.lst vacc) := x3.out _ _ d2 n2
    have n3 : D ∉ ρ2 := n2
    have d5 : H5 D = some (.lst vacc) := x5.out _ _ d3 n3
    have n5 : D ∉ ρ5 := x5.notin n3 d3
    cases bb with
    | false =>
      rw [if_neg Bool.false_ne_true] at e3 ⊢
      cases e3
      exact ⟨ρ5, _, acc, vacc, zs3, (x2.trans x3).trans x5, s5, n5, d5, (r2.mono x3).mono x5, by omega, g3, rfl⟩
    | true =>
      rw [if_pos rfl] at e3 ⊢
      obtain ⟨z, st6, e6, e3⟩ := Rs.bind_ok e3
      cases e3
      refine ⟨ρ5, env2, _, he2.mono x5, s5, KR.ok e6 ?_⟩
      intro y' H6 ρ6 x6 s6 ry
      have d6 : H6 D = some (.lst vacc) := x6.out _ _ d5 n5
      have n6 : D ∉ ρ6 := x6.notin n5 d5
      have racc := ((r2.mono x3).mono x5).mono x6
      refine ⟨vacc, d6, ?_, ρ6, _, acc ++ [z], vacc ++ [y'], zs3, (((x2.trans x3).trans x5).trans x6).poke hD, s6.poke n6 d6, n6, upd_same, ?_, ?_, g3, by simp⟩
      · rw [← racc.length]
        have : acc.length ≤ 1000000 := by omega
        exact Nat.lt_of_le_of_lt this (by decide)
      · exact (racc.append (.cons ry .nil)).move (imm_poke d6) (fun _ _ q => q)
      · simp; omega
  · left
    have hi2 : i = I.xs.length := by omega
    subst hi2
    rw [List.drop_length] at g2
    simp only [lcGo] at g2
    split at g2
    · rename_i lv
      cases g2
      rw [List.append_nil] at hfin
      exact ⟨rj.stop H2 ρ2 _ x2 s2 lv, hfin _ H2 ρ2 (e1.trans x2) s2 (.l n2 e10 d2 r2)⟩
    · cases g2
theorem ja_lc {t : Tg} {xi : It} {f : Eo} {xe : Ex} {scope : Scope} {own : List (Str × Nat)} (gd : Gd X k) (hi : JI X (fun env st => evIt G env xi st) tg iter) (ok : BlkOk X.N X.env.scope scope own)
    (hg : ∀ (s : Shared) (H : Hp) (C : Addr) (cl : List (Str × Addr)) (fp : List Addr), JG (X.blk s H scope (compEnvC scope cl C X.env) fp) t tg)
    (ht : ∀ (s : Shared) (H : Hp) (C : Addr) (cl : List (Str × Addr)) (fp : List Addr), JTs (X.blk s H scope (compEnvC scope cl C X.env) fp) (fun env st => evIf G env f st) ifs)
    (he : ∀ (s : Shared) (H : Hp) (C : Addr) (cl : List (Str × Addr)) (fp : List Addr), JA (X.blk s H scope (compEnvC scope cl C X.env) fp) (fun env st => evA G env xe st) elt)
    (hsl : ∀ i ∈ slots t, i ∈ own.map (·.2)) (hs : ∀ x, foldedSetIterable iter X.env x = pure x) :
    JA X (fun env st => evA G env (.lc xe t xi f (own.map (·.2))) st) (.ListComp elt [⟨tg, iter, ifs, 0⟩] scope pos) := fun W tk =>
  PE.imp (pe_lc gd.calm gd.nd (hi W tk) ok hg (fun s H C cl fp => ht s H C cl fp _ L2.takes0) (fun s H C cl fp => je_of (he s H C cl fp) _ L2.takes0) hs) (lc_imp hsl)
end
end Ev

namespace Ev
open PySem PySem.Spec PyProof.Rows L2

/-! ### statements -/
def KS (K : PySem.W.Frag) (mg : Str → Option Value) (W : WX) (E : Ends) (H : Hp) (ρ : List Addr) : Rf → Prop
  | .ok .nx e st => ∀ σ' H' ρ', Ext ρ H ρ' H' → RS K mg H' ρ' st → REnv K mg H' ρ' e σ' → E.nx σ' H'
  | .ok .bk e st => ∀ σ' H' ρ', Ext ρ H ρ' H' → RS K mg H' ρ' st → REnv K mg H' ρ' e σ' → E.bk σ' H'
  | .ok .ct e st => ∀ σ' H' ρ', Ext ρ H ρ' H' → RS K mg H' ρ' st → REnv K mg H' ρ' e σ' → E.ct σ' H'
  | .ok (.rt d) e st => ∀ v H' ρ', Ext ρ H ρ' H' → RS K mg H' ρ' st → RD K mg H' ρ' d v → E.rt v H'
  | .exc c fs e st => ∀ cls d σ' H' ρ', Ext ρ H ρ' H' → RS K mg H' ρ' st → REnv K mg H' ρ' e σ' → RX K mg H' ρ' c fs cls d → W cls d σ' H'
  | .bad => False
def tS (K : PySem.W.Frag) (mg : Str → Option Value) (m : Env → Stt → Rf) (W : WX) : TS := fun E σ H => ∃ ρ env st, REnv K mg H ρ env σ ∧ RS K mg H ρ st ∧ KS K mg W E H ρ (m env st)
def JS (X : Cx) (m : Env → Stt → Rf) (s : Stmt) : Prop := ∀ W, Takes X W → PS X s (tS X.K X.mg m W)
def JSs (X : Cx) (m : Env → Stt → Rf) (ss : List Stmt) : Prop := ∀ W, Takes X W → PSs X ss (tS X.K X.mg m W)
section
variable {K : PySem.W.Frag} {mg : Str → Option Value} {W : WX} {E E' : Ends} {H H1 H0 : Hp} {ρ ρ1 : List Addr} {σ : L2.St} {st st' : Stt} {env : Env} {α β : Type}
theorem KS.ext {m : Rf} (h : KS K mg W E H ρ m) (e : Ext ρ H ρ1 H1) : KS K mg W E H1 ρ1 m := by
  cases m with
  | ok f e' st => cases f with
    | nx => exact fun σ' H' ρ' f s r => h σ' H' ρ' (e.trans f) s r
    | rt d => exact fun v H' ρ' f s r => h v H' ρ' (e.trans f) s r
    | bk => exact fun σ' H' ρ' f s r => h σ' H' ρ' (e.trans f) s r
    | ct => exact fun σ' H' ρ' f s r => h σ' H' ρ' (e.trans f) s r
  | exc c fs e' st => exact fun cls d σ' H' ρ' f s r x => h cls d σ' H' ρ' (e.trans f) s r x
  | bad => exact h
/-- an expression first -/
theorem KS.exp {rel : Rl α β} {Q : β → Hp → Prop} {m : Rs α} {k : α → Stt → Rf} (he : REnv K mg H ρ env σ) (h : KS K mg W E H ρ (m.then env k))
    (hk : ∀ a st b H1 ρ1, Ext ρ H ρ1 H1 → RS K mg H1 ρ1 st → REnv K mg H1 ρ1 env σ → rel H H1 ρ1 a b → KS K mg W E H1 ρ1 (k a st) → Q b H1) : KR K mg rel W σ Q H ρ m := by
  cases m with
  | ok a st => exact fun b H' ρ' e s r => hk a st b H' ρ' e s (he.mono e) r (KS.ext h e)
  | exc c fs st => exact fun cls d H' ρ' e s x => h cls d σ H' ρ' e s (he.mono e) x
  | bad => exact h
/-- .. the wish as it stood ahead -/
theorem KS.exp0 {rel : Rl α β} {Q : β → Hp → Prop} {m : Rs α} {k : α → Stt → Rf} (he : REnv K mg H ρ env σ) (h : KS K mg W E H ρ (m.then env k))
    (hk : ∀ a st b H1 ρ1, Ext ρ H ρ1 H1 → RS K mg H1 ρ1 st → REnv K mg H1 ρ1 env σ → rel H H1 ρ1 a b → KS K mg W E H ρ (k a st) → Q b H1) : KR K mg rel W σ Q H ρ m := by
  cases m with
  | ok a st => exact fun b H' ρ' e s r => hk a st b H' ρ' e s (he.mono e) r h
  | exc c fs st => exact fun cls d H' ρ' e s x => h cls d σ H' ρ' e s (he.mono e) x
  | bad => exact h
theorem REnv.name {p : Addr} (h : REnv K mg H ρ env σ) : REnv K mg H (ρ ++ [p]) env σ := ⟨h.1, fun i x q => let ⟨v, a, b⟩ := h.2 i x q; ⟨v, a, b.name⟩⟩
/-- a statement first -/
theorem KS.seq {m : Rf} {k : Env → Stt → Rf} (h : KS K mg W E H ρ (m.then k))
    (hn : ∀ e st σ' H1 ρ1, Ext ρ H ρ1 H1 → RS K mg H1 ρ1 st → REnv K mg H1 ρ1 e σ' → KS K mg W E H1 ρ1 (k e st) → E'.nx σ' H1)
    (hr : E'.rt = E.rt) (hb : E'.bk = E.bk) (hc : E'.ct = E.ct) : KS K mg W E' H ρ m := by
  cases m with
  | ok f e' st => cases f with
    | nx => exact fun σ' H' ρ' f s r => hn _ _ σ' H' ρ' f s r (KS.ext h f)
    | rt d => intro v H' ρ' f s r; rw [hr]; exact h v H' ρ' f s r
    | bk => intro σ' H' ρ' f s r; rw [hb]; exact h σ' H' ρ' f s r
    | ct => intro σ' H' ρ' f s r; rw [hc]; exact h σ' H' ρ' f s r
  | exc c fs e' st => exact h
  | bad => exact h
/-- a loop's turn -/
theorem KS.turn {m : Rf} {k : Env → Stt → Rf} (h : KS K mg W E H ρ (match m with
      | .ok .nx e st => k e st
      | .ok .ct e st => k e st
      | .ok .bk e st => .ok .nx e st
      | r => r))
    (hn : ∀ e st σ' H1 ρ1, Ext ρ H ρ1 H1 → RS K mg H1 ρ1 st → REnv K mg H1 ρ1 e σ' → KS K mg W E H1 ρ1 (k e st) → E'.nx σ' H1)
    (hr : E'.rt = E.rt) (hb : E'.bk = E.nx) (hc : E'.ct = E'.nx) : KS K mg W E' H ρ m := by
  cases m with
  | ok f e' st => cases f with
    | nx => exact fun σ' H' ρ' f s r => hn _ _ σ' H' ρ' f s r (KS.ext h f)
    | rt d => intro v H' ρ' f s r; rw [hr]; exact h v H' ρ' f s r
    | bk => intro σ' H' ρ' f s r; rw [hb]; exact h σ' H' ρ' f s r
    | ct => intro σ' H' ρ' f s r; rw [hc]; exact hn _ _ σ' H' ρ' f s r (KS.ext h f)
  | exc c fs e' st => exact h
  | bad => exact h
end
section
variable {X : Cx} {k : Nat} {G : Gam} {a b c e tg iter elt o : Expr} {es ifs : List Expr} {pos : Pos} {s : Stmt} {ss : List Stmt}
theorem jss_nil : JSs X (fun env st => evSs G .nil env st) [] := by
  intro W tk
  refine PSs.imp pss_nil ?_
  rintro E σ H ⟨ρ, env, st, he, hs, h⟩
  exact h σ H ρ (Ext.refl _ _) hs he
theorem jss_cons {xs : Sx} {xr : Ss} (h1 : JS X (fun env st => evS G xs env st) s) (h2 : JSs X (fun env st => evSs G xr env st) ss) : JSs X (fun env st => evSs G (.cons xs xr) env st) (s :: ss) := by
  intro W tk
  refine PSs.imp (pss_cons (h1 W tk) (h2 W tk)) ?_
  rintro E σ H ⟨ρ, env, st, he, hs, h⟩
  refine ⟨ρ, env, st, he, hs, KS.seq (E := E) (m := evS G xs env st) (k := fun e st => evSs G xr e st) (by simpa only [evSs] using h) ?_ rfl rfl rfl⟩
  intro e st' σ' H1 ρ1 e1 s1 r1 h1
  exact ⟨ρ1, e, st', r1, s1, h1⟩
theorem js_pass : JS X (fun env st => evS G .pass env st) (.Pass pos) := by
  intro W tk
  refine PS.imp ps_pass ?_
  rintro E σ H ⟨ρ, env, st, he, hs, h⟩
  exact h σ H ρ (Ext.refl _ _) hs he
theorem js_doc {x : Str} {j : Nat} {pos' : Pos} : JS X (fun env st => evS G .pass env st) (.Expr (.Constant (.str x) j pos) pos') := by
  intro W tk
  refine PS.imp ps_doc ?_
  rintro E σ H ⟨ρ, env, st, he, hs, h⟩
  exact h σ H ρ (Ext.refl _ _) hs he
theorem js_brk : JS X (fun env st => evS G .brk env st) (.Break pos) := by
  intro W tk
  refine PS.imp ps_break ?_
  rintro E σ H ⟨ρ, env, st, he, hs, h⟩
  exact h σ H ρ (Ext.refl _ _) hs he
theorem js_cont : JS X (fun env st => evS G .cont env st) (.Continue pos) := by
  intro W tk
  refine PS.imp ps_continue ?_
  rintro E σ H ⟨ρ, env, st, he, hs, h⟩
  exact h σ H ρ (Ext.refl _ _) hs he
theorem js_ret0 : JS X (fun env st => evS G .ret0 env st) (.Return none pos) := by
  intro W tk
  refine PS.imp ps_retN ?_
  rintro E σ H ⟨ρ, env, st, he, hs, h⟩
  exact h _ H ρ (Ext.refl _ _) hs .non
theorem js_ret {xa : Ex} (ha : JA X (fun env st => evA G env xa st) a) : JS X (fun env st => evS G (.ret xa) env st) (.Return (some a) pos) := by
  intro W tk
  refine PS.imp (ps_ret (je_of ha W tk)) ?_
  rintro E σ H ⟨ρ, env, st, he, hs, h⟩
  refine ⟨ρ, env, st, he, hs, KS.exp (rel := rD X.K X.mg) (k := fun d st => Rf.ok (.rt d) env st) he h ?_⟩
  intro x st1 v1 H1 ρ1 e1 s1 he1 r1 h1
  exact h1 v1 H1 ρ1 (Ext.refl _ _) s1 r1
theorem js_ex {xa : Ex} (ha : JA X (fun env st => evA G env xa st) a) (hs : swapsWith a none pos.line X.env = pure false) : JS X (fun env st => evS G (.ex xa) env st) (.Expr a pos) := by
  intro W tk
  refine PS.imp (ps_expr (ha W tk) hs) ?_
  rintro E σ H ⟨ρ, env, st, he, hs, h⟩
  refine ⟨ρ, env, st, he, hs, KS.exp (rel := RA X.K X.mg) (k := fun _ st => Rf.ok .nx env st) he h ?_⟩
  intro x st1 v1 H1 ρ1 e1 s1 he1 r1 h1
  exact h1 σ H1 ρ1 (Ext.refl _ _) s1 he1
theorem js_if {xt : Ex} {xa xb : Ss} {t : Expr} {sa sb : List Stmt} (ht : JT X (fun env st => tst G env xt st) t) (ha : JSs X (fun env st => evSs G xa env st) sa) (hb : JSs X (fun env st => evSs G xb env st) sb) :
    JS X (fun env st => evS G (.ife xt xa xb) env st) (.If t sa sb pos) := by
  intro W tk
  refine PS.imp (ps_if (ht W tk) (ha W tk) (hb W tk)) ?_
  rintro E σ H ⟨ρ, env, st, he, hs, h⟩
  have h : KS X.K X.mg W E H ρ (evS G (.ife xt xa xb) env st) := h
  rw [evS] at h
  refine ⟨ρ, env, st, he, hs, KS.exp (rel := rEq) he h ?_⟩
  intro x st1 v1 H1 ρ1 e1 s1 he1 r1 h1
  cases r1
  cases x with
  | true =>
    rw [if_pos rfl] at h1 ⊢
    exact ⟨ρ1, env, st1, he1, s1, h1⟩
  | false =>
    rw [if_neg Bool.false_ne_true] at h1 ⊢
    exact ⟨ρ1, env, st1, he1, s1, h1⟩
/-- name = e -/
theorem evS_nm {i : Nat} {xa : Ex} {env : Env} {st : Stt} : evS G (.asg (.nm i) xa) env st = (evE G env xa st).then env fun d st => match asgD (.nm i) d env with
    | some e => .ok .nx e st
    | none => .bad := by
  rw [evS]
  unfold evE
  cases evA G env xa st with
  | ok z s1 =>
    simp only [Rs.then, Rs.bind, asgA]
    cases z <;> simp only [allocA, Rs.bind, Rs.then] <;> (generalize asgD _ _ _ = q; cases q <;> rfl)
  | exc c fs s1 => rfl
  | bad => rfl
theorem js_asg {i : Nat} {xa : Ex} {tg : Expr} (ha : JA X (fun env st => evA G env xa st) a) (hg : JG X (.nm i) tg) (hs : swapsWithSole [tg] a pos.line X.env = pure false) (hw : swappedStores [tg] a X.env = pure none) (h1 : (assignEach [tg] X.env).map (·.2) = [assign tg X.env]) :
    JS X (fun env st => evS G (.asg (.nm i) xa) env st) (.Assign [tg] a pos) := by
  intro W tk
  refine PS.imp (ps_asg (je_of ha W tk) hg hs hw h1) ?_
  rintro E σ H ⟨ρ, env, st, he, hs, h⟩
  have h : KS X.K X.mg W E H ρ (evS G (.asg (.nm i) xa) env st) := h
  rw [evS_nm] at h
  refine ⟨ρ, env, st, he, hs, KS.exp (rel := rD X.K X.mg) he h ?_⟩
  intro x st1 v1 H1 ρ1 e1 s1 he1 r1 h1
  split at h1
  · rename_i e2 q
    exact ⟨ρ1, env, x, e2, he1, r1, q, fun σ' he2 _ => h1 σ' H1 ρ1 (Ext.refl _ _) s1 he2⟩
  · exact h1.elim
/-- y = [..] on one line, y a local -/
theorem js_setLc {i : Nat} {y : Str} {py : Pos} {t : Tg} {xi : It} {f : Eo} {xe : Ex} {scope : Scope} {own : List (Str × Nat)} {p2 : Pos} (gd : Gd X k) (hy : X.N[i]? = some y) (hyl : X.env.scope.names.lookup y = some .local)
    (hsw : swapsWith (.ListComp elt [⟨a, iter, ifs, 0⟩] scope p2) (some (.Name y py)) pos.line X.env = pure true) (hi : JI X (fun env st => evIt G env xi st) a iter) (ok : BlkOk X.N X.env.scope scope own)
    (hg : ∀ (s : Shared) (H : Hp) (C : Addr) (cl : List (Str × Addr)) (fp : List Addr), JG (X.blk s H scope (compEnvC scope cl C X.env) fp) t a)
    (ht : ∀ (s : Shared) (H : Hp) (C : Addr) (cl : List (Str × Addr)) (fp : List Addr), JTs (X.blk s H scope (compEnvC scope cl C X.env) fp) (fun env st => evIf G env f st) ifs)
    (he : ∀ (s : Shared) (H : Hp) (C : Addr) (cl : List (Str × Addr)) (fp : List Addr), JA (X.blk s H scope (compEnvC scope cl C X.env) fp) (fun env st => evA G env xe st) elt)
    (hsl : ∀ i ∈ slots t, i ∈ own.map (·.2)) (hs : ∀ x, foldedSetIterable iter X.env x = pure x) :
    JS X (fun env st => evS G (.asg (.nm i) (.lc xe t xi f (own.map (·.2)))) env st) (.Assign [.Name y py] (.ListComp elt [⟨a, iter, ifs, 0⟩] scope p2) pos) := by
  intro W tk
  refine PS.imp (ps_setLc (g := gD X.K X.mg t) (tt := tR X.K X.mg rEq (fun env st => evIf G env f st) (fun _ _ _ _ => False)) (te := tR X.K X.mg (rD X.K X.mg) (fun env st => evE G env xe st) (fun _ _ _ _ => False)) gd.calm gd.nd hy hyl hsw (hi W tk) ok hg (fun s H C cl fp => ht s H C cl fp _ L2.takes0) (fun s H C cl fp => je_of (he s H C cl fp) _ L2.takes0) hs) ?_
  rintro E σ H ⟨ρ, env, st, he, hs, h⟩
  refine lc_imp (X := X) (G := G) hsl σ H _ ⟨ρ, env, st, he, hs, ?_⟩
  have h : KS X.K X.mg W E H ρ (evS G (.asg (.nm i) (.lc xe t xi f (own.map (·.2)))) env st) := h
  rw [evS] at h
  refine KS.exp0 (rel := RA X.K X.mg) he h ?_
  intro x st1 v1 H1 ρ1 e1 s1 he1 r1 h1
  have hlen : i < env.length := by
    cases q : decide (i < env.length) with
    | true => exact of_decide_eq_true q
    | false =>
      have q : ¬ i < env.length := of_decide_eq_false q
      exfalso
      cases x with
      | d x => simp only [asgA, allocA, Rs.bind, asgD, if_neg q, ofO] at h1; exact h1.elim
      | l x => simp only [asgA, allocA, Rs.bind, asgD, if_neg q, ofO] at h1; exact h1.elim
  cases r1 with
  | d r =>
    simp only [asgA, allocA, Rs.bind, asgD, if_pos hlen, ofO] at h1
    exact h1 _ H1 ρ1 e1 s1 (he1.set r i)
  | l g1 g2 g3 g4 =>
    simp only [asgA, allocA, Rs.bind, asgD, if_pos hlen, ofO] at h1
    exact h1 _ H1 _ (e1.name g2) (s1.name g1 (.lst g3 g4)) (he1.name.set (RD.last s1) i)
/-- a, b = e -/
def gT (K : PySem.W.Frag) (mg : Str → Option Value) (ts : Tgs) : TG := fun v σ H Q => ∃ ρ H0 env a st xs env', REnv K mg H ρ env σ ∧ RS K mg H ρ st ∧ RA K mg H0 H ρ a v ∧ seqOf st a = some xs ∧ asgDs ts xs env = some env' ∧ ∀ σ', REnv K mg H ρ env' σ' → Q σ' H
theorem pg_or {X : Cx} {e : Expr} {t t' : TG} (h : PG X e t) (h' : PG X e t') : PG X e (fun v σ H Q => t v σ H Q ∨ t' v σ H Q) := ⟨fun pins s σ H v u Q I r q => q.elim (fun q => h.run pins s σ H v u Q I r q) (fun q => h'.run pins s σ H v u Q I r q)⟩
theorem jg_un {ts : Tgs} {kk : Nat} (hc : X.calm = true) (h : JGs X ts es) (hn : (assignEach es X.env).length = tgsLen ts) (hst : (assignEach es X.env).findIdx? (·.1) = none) : PG X (.Tuple es kk pos) (gT X.K X.mg ts) := by
  refine PG.imp (pg_or (pg_tup hc h hn hst) (pg_lst hc h hn hst)) ?_
  rintro v σ H Q ⟨ρ, H0, env, a, st, xs, env', he, hs, r, e1, e2, q⟩
  have hl := asgDs_len e2
  obtain ⟨p, vs, rfl, h1, h2⟩ := r.seq hs e1
  have g : gDs X.K X.mg ts vs σ H Q := ⟨ρ, env, xs, env', he, h2, e2, fun σ' h3 _ => q σ' h3⟩
  rcases h1 with h1 | h1
  · exact .inr ⟨p, vs, rfl, h1, by rw [← h2.length, hl], g⟩
  · exact .inl ⟨p, vs, rfl, h1, by rw [← h2.length, hl], g⟩
theorem js_un {ts : Tgs} {xa : Ex} {tg : Expr} (ha : JA X (fun env st => evA G env xa st) a) (hg : PG X tg (gT X.K X.mg ts)) (hs : swapsWithSole [tg] a pos.line X.env = pure false) (hw : swappedStores [tg] a X.env = pure none) (h1 : (assignEach [tg] X.env).map (·.2) = [assign tg X.env]) :
    JS X (fun env st => evS G (.asg (.tup ts) xa) env st) (.Assign [tg] a pos) := by
  intro W tk
  refine PS.imp (ps_asg (ha W tk) hg hs hw h1) ?_
  rintro E σ H ⟨ρ, env, st, he, hs, h⟩
  have h : KS X.K X.mg W E H ρ (evS G (.asg (.tup ts) xa) env st) := h
  rw [evS] at h
  refine ⟨ρ, env, st, he, hs, KS.exp (rel := RA X.K X.mg) he h ?_⟩
  intro x st1 v1 H1 ρ1 e1 s1 he1 r1 h1
  simp only [asgA] at h1
  cases q : seqOf st1 x with
  | none => rw [q] at h1; exact h1.elim
  | some xs =>
    rw [q] at h1
    cases q2 : asgDs ts xs env with
    | none => simp only [q2] at h1; exact h1.elim
    | some e2 =>
      simp only [q2] at h1
      exact ⟨ρ1, H, env, x, st1, xs, e2, he1, s1, r1, q, q2, fun σ' he2 => h1 σ' H1 ρ1 (Ext.refl _ _) s1 he2⟩
/-- a, b = x, y: stored from the right -/
theorem js_par {i j : Nat} {x y : Str} {xs : Es} {a b : Expr} {px py pt : Pos} {kt k2 pt2} (gd : Gd X k) (hi : X.N[i]? = some x) (hj : X.N[j]? = some y) (hij : i ≠ j)
    (hx : X.env.scope.names.lookup x = some .local) (hy : X.env.scope.names.lookup y = some .local) (ha : JL X (fun env st => evEs G env xs st) [a, b])
    (hw : swappedStores [.Tuple [.Name x px, .Name y py] kt pt] (.Tuple [a, b] k2 pt2) X.env = pure (some [x, y])) (hs : swapsWithSole [.Tuple [.Name x px, .Name y py] kt pt] (.Tuple [a, b] k2 pt2) pos.line X.env = pure false) :
    JS X (fun env st => evS G (.asg (.tup (.cons (.nm i) (.cons (.nm j) .nil))) (.tup xs)) env st) (.Assign [.Tuple [.Name x px, .Name y py] kt pt] (.Tuple [a, b] k2 pt2) pos) := by
  intro W tk
  refine PS.imp (ps_par gd.calm gd.nd hi hj hij hx hy (ha W tk) hw hs) ?_
  rintro E σ H ⟨ρ, env, st, he, hs, h⟩
  have h : KS X.K X.mg W E H ρ (evS G (.asg (.tup (.cons (.nm i) (.cons (.nm j) .nil))) (.tup xs)) env st) := h
  have e0 : evS G (.asg (.tup (.cons (.nm i) (.cons (.nm j) .nil))) (.tup xs)) env st = (evEs G env xs st).then env fun ds st => if lenOk ds.length = true then (match asgDs (.cons (.nm i) (.cons (.nm j) .nil)) ds env with
    | some e => .ok .nx e st
    | none => .bad) else .bad := by
    rw [evS]
    simp only [evA]
    cases evEs G env xs st with
    | ok ds s1 =>
      simp only [Rs.bind]
      by_cases hc : lenOk ds.length = true
      · simp only [Rs.then, if_pos hc, asgA, seqOf, tupOf]
        generalize asgDs _ _ _ = q
        cases q <;> rfl
      · simp only [Rs.then, if_neg hc]
    | exc c fs s1 => rfl
    | bad => rfl
  rw [e0] at h
  refine ⟨ρ, env, st, he, hs, KS.exp (rel := rDs X.K X.mg) he h ?_⟩
  intro ds st1 vs H1 ρ1 e1 s1 he1 r1 h1
  split at h1
  · split at h1
    · rename_i e2 q
      have hl := asgDs_len q
      cases r1 with
      | nil => simp [tgsLen] at hl
      | cons ra rr =>
        cases rr with
        | nil => simp [tgsLen] at hl
        | cons rb rr =>
          cases rr with
          | cons _ _ => simp [tgsLen] at hl
          | nil =>
            refine ⟨_, _, rfl, h1 _ H1 ρ1 (Ext.refl _ _) s1 ?_⟩
            simp only [asgDs, asgD] at q
            split at q
            · simp only [Option.bind_some] at q
              split at q
              · simp only [Option.bind_some] at q
                cases q
                exact (he1.set ra i).set rb j
              · cases q
            · cases q
    · exact h1.elim
  · exact h1.elim
theorem js_par3 {i j l : Nat} {x y z : Str} {xs : Es} {a b c : Expr} {px py pz pt : Pos} {kt k2 pt2} (gd : Gd X k) (hi : X.N[i]? = some x) (hj : X.N[j]? = some y) (hl : X.N[l]? = some z) (hij : i ≠ j) (hil : i ≠ l) (hjl : j ≠ l)
    (hx : X.env.scope.names.lookup x = some .local) (hy : X.env.scope.names.lookup y = some .local) (hz : X.env.scope.names.lookup z = some .local) (ha : JL X (fun env st => evEs G env xs st) [a, b, c])
    (hw : swappedStores [.Tuple [.Name x px, .Name y py, .Name z pz] kt pt] (.Tuple [a, b, c] k2 pt2) X.env = pure (some [x, y, z])) (hs : swapsWithSole [.Tuple [.Name x px, .Name y py, .Name z pz] kt pt] (.Tuple [a, b, c] k2 pt2) pos.line X.env = pure false) :
    JS X (fun env st => evS G (.asg (.tup (.cons (.nm i) (.cons (.nm j) (.cons (.nm l) .nil)))) (.tup xs)) env st) (.Assign [.Tuple [.Name x px, .Name y py, .Name z pz] kt pt] (.Tuple [a, b, c] k2 pt2) pos) := by
  intro W tk
  refine PS.imp (ps_par3 gd.calm gd.nd hi hj hl hij hil hjl hx hy hz (ha W tk) hw hs) ?_
  rintro E σ H ⟨ρ, env, st, he, hs, h⟩
  have h : KS X.K X.mg W E H ρ (evS G (.asg (.tup (.cons (.nm i) (.cons (.nm j) (.cons (.nm l) .nil)))) (.tup xs)) env st) := h
  have e0 : evS G (.asg (.tup (.cons (.nm i) (.cons (.nm j) (.cons (.nm l) .nil)))) (.tup xs)) env st = (evEs G env xs st).then env fun ds st => if lenOk ds.length = true then (match asgDs (.cons (.nm i) (.cons (.nm j) (.cons (.nm l) .nil))) ds env with
    | some e => .ok .nx e st
    | none => .bad) else .bad := by
    rw [evS]
    simp only [evA]
    cases evEs G env xs st with
    | ok ds s1 =>
      simp only [Rs.bind]
      by_cases hc : lenOk ds.length = true
      · simp only [Rs.then, if_pos hc, asgA, seqOf, tupOf]
        generalize asgDs _ _ _ = q
        cases q <;> rfl
      · simp only [Rs.then, if_neg hc]
    | exc c fs s1 => rfl
    | bad => rfl
  rw [e0] at h
  refine ⟨ρ, env, st, he, hs, KS.exp (rel := rDs X.K X.mg) he h ?_⟩
  intro ds st1 vs H1 ρ1 e1 s1 he1 r1 h1
  split at h1
  · split at h1
    · rename_i e2 q
      have hl := asgDs_len q
      cases r1 with
      | nil => simp [tgsLen] at hl
      | cons ra rr =>
        cases rr with
        | nil => simp [tgsLen] at hl
        | cons rb rr =>
          cases rr with
          | nil => simp [tgsLen] at hl
          | cons rc rr =>
            cases rr with
            | cons _ _ => simp [tgsLen] at hl
            | nil =>
              refine ⟨_, _, _, rfl, h1 _ H1 ρ1 (Ext.refl _ _) s1 ?_⟩
              simp only [asgDs, asgD] at q
              split at q
              · simp only [Option.bind_some] at q
                split at q
                · simp only [Option.bind_some] at q
                  split at q
                  · simp only [Option.bind_some] at q
                    cases q
                    exact ((he1.set ra i).set rb j).set rc l
                  · cases q
                · cases q
              · cases q
    · exact h1.elim
  · exact h1.elim
/-- o[i] = e -/
theorem js_st {xo xi xa : Ex} {i : Expr} {p2 : Pos} (ha : JA X (fun env st => evA G env xa st) a) (ho : JA X (fun env st => evA G env xo st) o) (hi : JA X (fun env st => evA G env xi st) i)
    (hg : ∀ v, assign (.Subscript o i p2) X.env v = (do
      let ov ← holding [v] (eval o X.env)
      let iv ← holding [v, ov] (eval i X.env)
      standAt p2
      holding [v, ov, iv] (setItem ov iv v)
      release [v, ov, iv] []))
    (hs : swapsWithSole [.Subscript o i p2] a pos.line X.env = pure false) (hw : swappedStores [.Subscript o i p2] a X.env = pure none) (h1 : (assignEach [.Subscript o i p2] X.env).map (·.2) = [assign (.Subscript o i p2) X.env]) :
    JS X (fun env st => evS G (.st xo xi xa) env st) (.Assign [.Subscript o i p2] a pos) := by
  intro W tk
  refine PS.imp (ps_asg (je_of ha W tk) (pg_sub (ho W tk) (hi W tk) set_list hg) hs hw h1) ?_
  rintro E σ H ⟨ρ, env, st, he, hs, h⟩
  have h : KS X.K X.mg W E H ρ (evS G (.st xo xi xa) env st) := h
  rw [evS] at h
  refine ⟨ρ, env, st, he, hs, KS.exp (rel := rD X.K X.mg) he h ?_⟩
  intro y st1 v1 H1 ρ1 e1 s1 he1 r1 h1
  refine ⟨ρ1, env, st1, he1, s1, KS.exp (rel := RA X.K X.mg) he1 h1 ?_⟩
  intro z st2 v2 H2 ρ2 e2 s2 he2 r2 h2
  refine ⟨ρ2, env, st2, he2, s2, KS.exp (rel := RA X.K X.mg) he2 h2 ?_⟩
  intro kx st3 v3 H3 ρ3 e3 s3 he3 r3 h3
  split at h3
  · rename_i l kk
    cases hl : stLst st3 l with
    | none => simp only [hl] at h3; exact h3.elim
    | some xs =>
      simp only [hl] at h3
      cases hj : ixN xs.length kk with
      | none => simp only [hj] at h3; exact h3.elim
      | some j =>
        simp only [hj] at h3
        obtain rfl := r3.int
        cases r2 with
        | d r2 =>
          cases r2 with
          | loc q =>
            have q3 := e3.get q
            obtain ⟨vs, g1, g2⟩ := s3.lst q3 hl
            have w := Ext.write (u := .lst (vs.set j v1)) s3 (List.mem_of_getElem? q3)
            have ry := ((r1.mono e2).mono e3)
            refine ⟨_, vs, kk, j, rfl, rfl, g1, by rw [← g2.length]; exact hj, h3 σ _ ρ3 w (s3.write q3 (.lst upd_same ((g2.set ry j).mono w))) (he3.mono w)⟩
  · exact h3.elim
theorem js_nev : JS X (fun env st => evS G .nev env st) s := by
  intro W tk
  refine PS.imp ps_never ?_
  rintro E σ H ⟨ρ, env, st, he, hs, h⟩
  exact h
/-- raise X('m') -/
theorem js_raise {x m : Str} {j : Nat} {p p2 p3 : Pos} (gx : GX X k G) (gd : Gd X k) (hg : Gl X x) (hdb : (x == ("__debug__" : Str)) = false) : JS X (fun env st => evS G (.raise x .nil) env st) (.Raise (some (.Call (.Name x p) [.Constant (.str m) j p2] [] p3)) none pos) := by
  intro W tk
  cases q : G.xc x with
  | false =>
    refine PS.imp ps_never ?_
    rintro E σ H ⟨ρ, env, st, he, hs, h⟩
    have h : KS X.K X.mg W E H ρ (evS G (.raise x .nil) env st) := h
    rw [evS, q, if_neg Bool.false_ne_true] at h
    exact h
  | true =>
    obtain ⟨C, bmB, B, newId, initId, h1, h2, h3, h4, h5, h6⟩ := gx.xc x q
    refine PS.imp (ps_raise gd.calm tk (pmk_own h3 h4 h1 h2 (raises_own h5 h6) hg hdb)) ?_
    rintro E σ H ⟨ρ, env, st, he, hs, h⟩
    have h : KS X.K X.mg W E H ρ (evS G (.raise x .nil) env st) := h
    rw [evS, q, if_pos rfl] at h
    simp only [evEs, Rs.then] at h
    exact h (.ref C) none σ H ρ (Ext.refl _ _) hs he ⟨C, h1, rfl, rfl⟩
theorem KS.iterW {W : WX} {E : Ends} {σ : L2.St} {H : Hp} {ρ : List Addr} {env : Env} {R : L2.It → Hp → Prop} {m : Rs Its} {kk : Its → Stt → Rf} (he : REnv X.K X.mg H ρ env σ) (h : KS X.K X.mg W E H ρ (m.then env kk))
    (hk : ∀ I st J H1 ρ1, Ext ρ H ρ1 H1 → RS X.K X.mg H1 ρ1 st → REnv X.K X.mg H1 ρ1 env σ → RJ X.K X.mg H1 ρ1 I J → KS X.K X.mg W E H1 ρ1 (kk I st) → R J H1) : KI X.K X.mg W σ R H ρ m := by
  cases m with
  | ok a st => exact fun b H' ρ' e s r => hk a st b H' ρ' e s (he.mono e) r (KS.ext h e)
  | exc c fs st => exact fun cls d H' ρ' e s x => h cls d σ H' ρ' e s (he.mono e) x
  | bad => exact h
theorem js_for {t : Tg} {xi : It} {xb : Ss} {tg iter : Expr} {body : List Stmt} (gd : Gd X k) (hi : JI X (fun env st => evIt G env xi st) tg iter) (hg : JG X t tg) (hb : JSs X (fun env st => evSs G xb env st) body)
    (hs : ∀ x, foldedSetIterable iter X.env x = pure x) : JS X (fun env st => evS G (.for t xi xb) env st) (.For tg iter body [] pos) := by
  intro W tk
  refine PS.imp (ps_for gd.pass gd.calm (hi W tk) hg (hb W tk) hs) ?_
  rintro E σ H ⟨ρ, env, st, he, hS, h⟩
  have h : KS X.K X.mg W E H ρ (evS G (.for t xi xb) env st) := h
  rw [evS] at h
  refine ⟨ρ, env, st, he, hS, KS.iterW he h ?_⟩
  intro I st1 J H1 ρ1 e1 s1 he1 rj h1
  refine ⟨fun i m σ H => m = I.xs.length - i ∧ i ≤ I.xs.length ∧ ∃ ρ2 env2 st2, Ext ρ1 H1 ρ2 H ∧ RS X.K X.mg H ρ2 st2 ∧ REnv X.K X.mg H ρ2 env2 σ ∧ KS X.K X.mg W E H ρ2 (forGo I.live t (fun e st => evSs G xb e st) (I.xs.drop i) env2 st2),
    ⟨I.xs.length, rfl, Nat.zero_le _, ρ1, env, st1, Ext.refl _ _, s1, he1, h1⟩, ?_⟩
  rintro i m σ2 H2 ⟨rfl, hle, ρ2, env2, st2, x2, s2, he2, g2⟩
  by_cases hlt : i < I.xs.length
  · right
    have hx : I.xs[i]? = some I.xs[i] := List.getElem?_eq_getElem hlt
    rw [List.drop_eq_getElem_cons hlt] at g2
    simp only [forGo] at g2
    split at g2
    · rename_i lv
      refine ⟨rj.go i _ H2 ρ2 st2 x2 s2 lv hx, fun σ' H' => ∃ ρ2 env2 st2, Ext ρ1 H1 ρ2 H' ∧ RS X.K X.mg H' ρ2 st2 ∧ REnv X.K X.mg H' ρ2 env2 σ' ∧ KS X.K X.mg W E H' ρ2 (forGo I.live t (fun e st => evSs G xb e st) (I.xs.drop (i + 1)) env2 st2),
        fun σ' H' z => ⟨_, by omega, rfl, hlt, z⟩, fun v H3 yy => ?_⟩
      obtain ⟨x3, s3, r3⟩ := rj.yld i _ H2 ρ2 st2 v H3 x2 s2 lv hx yy
      split at g2
      · rename_i env3 ea
        refine ⟨ρ2, env2, _, env3, he2.mono x3, r3, ea, fun σ3 he3 _ => ⟨ρ2, env3, st2, he3, s3, KS.turn (E := E) (k := fun e st => forGo I.live t (fun e st => evSs G xb e st) (I.xs.drop (i + 1)) e st) (KS.ext g2 x3) ?_ rfl rfl rfl⟩⟩
        intro e4 st4 σ4 H4 ρ4 x4 s4 he4 g4
        exact ⟨ρ4, e4, st4, (x2.trans x3).trans x4, s4, he4, g4⟩
      · exact g2.elim
    · exact g2.elim
  · left
    have hi2 : i = I.xs.length := by omega
    subst hi2
    rw [List.drop_length] at g2
    simp only [forGo] at g2
    split at g2
    · rename_i lv
      exact ⟨rj.stop H2 ρ2 _ x2 s2 lv, g2 σ2 H2 ρ2 (Ext.refl _ _) s2 he2⟩
    · exact g2.elim
theorem js_whl {xt : Ex} {xb : Ss} {t : Expr} {body : List Stmt} (gd : Gd X k) (ht : JT X (fun env st => tst G env xt st) t) (hb : JSs X (fun env st => evSs G xb env st) body) :
    JS X (fun env st => evS G (.whl xt xb) env st) (.While t body [] pos) := by
  intro W tk
  refine PS.imp (ps_while gd.pass (ht W tk) (hb W tk)) ?_
  rintro E σ H ⟨ρ, env, st, he, hS, h⟩
  have h : KS X.K X.mg W E H ρ (evS G (.whl xt xb) env st) := h
  rw [evS] at h
  unfold whl at h
  split at h
  · rename_i hn
    cases q : whlN (fun e st => tst G e xt st) (fun e st => evSs G xb e st) (Classical.choose hn) env st with
    | none => rw [q] at h; exact h.elim
    | some r =>
      rw [q] at h
      refine ⟨fun m σ H => ∃ ρ2 env2 st2, RS X.K X.mg H ρ2 st2 ∧ REnv X.K X.mg H ρ2 env2 σ ∧ ∃ r, whlN (fun e st => tst G e xt st) (fun e st => evSs G xb e st) m env2 st2 = some r ∧ KS X.K X.mg W E H ρ2 r, ⟨_, ρ, env, st, hS, he, r, q, h⟩, ?_⟩
      rintro m σ2 H2 ⟨ρ2, env2, st2, s2, he2, r2, q2, h2⟩
      cases m with
      | zero => simp only [whlN] at q2; cases q2
      | succ n =>
        simp only [whlN] at q2
        refine ⟨ρ2, env2, st2, he2, s2, ?_⟩
        show KR X.K X.mg rEq W σ2 _ H2 ρ2 (tst G env2 xt st2)
        cases qt : tst G env2 xt st2 with
        | bad => rw [qt] at q2; cases q2; exact h2.elim
        | exc c fs st3 => rw [qt] at q2; cases q2; exact fun cls d H' ρ' e s x => h2 cls d σ2 H' ρ' e s (he2.mono e) x
        | ok b st3 =>
          rw [qt] at q2
          intro b' H3 ρ3 x3 s3 eb
          cases eb
          have he3 := he2.mono x3
          cases b with
          | false =>
            cases q2
            rw [if_neg Bool.false_ne_true]
            exact h2 σ2 H3 ρ3 x3 s3 he3
          | true =>
            rw [if_pos rfl]
            have h3 := h2.ext x3
            refine ⟨fun σ H => ∃ ρ2 env2 st2, RS X.K X.mg H ρ2 st2 ∧ REnv X.K X.mg H ρ2 env2 σ ∧ ∃ r, whlN (fun e st => tst G e xt st) (fun e st => evSs G xb e st) n env2 st2 = some r ∧ KS X.K X.mg W E H ρ2 r, fun σ' H' z => ⟨n, by omega, z⟩, ρ3, env2, st3, he3, s3, ?_⟩
            show KS X.K X.mg W _ H3 ρ3 (evSs G xb env2 st3)
            simp only at q2
            cases qb : evSs G xb env2 st3 with
            | bad => rw [qb] at q2; cases q2; exact h3.elim
            | exc c fs e4 st4 => rw [qb] at q2; cases q2; exact h3
            | ok f e4 st4 =>
              rw [qb] at q2
              cases f with
              | nx => exact fun σ' H' ρ' f s r => ⟨ρ', e4, st4, s, r, r2, q2, h3.ext f⟩
              | ct => exact fun σ' H' ρ' f s r => ⟨ρ', e4, st4, s, r, r2, q2, h3.ext f⟩
              | bk => cases q2; exact fun σ' H' ρ' f s r => h3 σ' H' ρ' f s r
              | rt d => cases q2; exact fun v H' ρ' f s r => h3 v H' ρ' f s r
  · exact h.elim
end
end Ev

namespace Ev
open PySem PySem.Spec PyProof.Rows L2
section
variable {X : Cx} {pins : List (Addr × Obj)} {σ : L2.St} {H : Hp} {s : Shared} {a : Addr} {o : HO}
/-- an object that stands in the heap, and that no one tracks, is tracked from here on -/
theorem adopt (I : Inv X pins σ H s) (na : H a = none) (f0 : X.s_0.heap.get? a = none) (nL : a ≠ X.env.locals) (nc : ∀ x c, X.env.cells.lookup x = some c → c ≠ a) (np : ∀ p ∈ X.pn ++ pins, p.1 ≠ a)
    (w : ObjOk X.prog X.w (upd H a o) s.heap a o) : Inv X pins σ (upd H a o) s where
  ok := I.ok
  os := I.os
  bare := I.bare
  base :=
    { keep := I.base.keep
      slot := I.base.slot
      free := fun b ob e n x => by
        rw [upd_ne (fun z => by rw [z, f0] at e; cases e)]
        exact I.base.free b ob e n x
      there := I.base.there
      tups := fun b xs e => by
        have q := I.base.tups b xs e
        rw [upd_ne (ne_of_none q na)]; exact q
      frzs := fun b ob u e => by
        have q := I.base.frzs b ob u e
        rw [upd_ne (ne_of_none q na)]; exact q
      tbls := fun b ps e => by
        obtain ⟨m, q⟩ := I.base.tbls b ps e
        exact ⟨m, by rw [upd_ne (ne_of_none q na)]; exact q⟩ }
  loc := I.loc
  cell := I.cell
  free := by rw [upd_ne (Ne.symm nL)]; exact I.free
  freeC := fun x c e => by rw [upd_ne (nc x c e)]; exact I.freeC x c e
  pin := fun p hp => by
    obtain ⟨e, n, r⟩ := I.pin p hp
    exact ⟨e, by rw [upd_ne (np p hp)]; exact n, r⟩
  hok := fun b u e => by
    by_cases z : b = a
    · subst z
      rw [upd_same] at e
      cases e
      exact w
    · rw [upd_ne z] at e
      have q := I.hok b u e
      exact q.stay (fun _ _ _ k => k) (fun c k => by rw [upd_ne (ne_of_none k na)]; exact k) (fun c xs k => by rw [upd_ne (ne_of_none k na)]; exact k)
  len := I.len
theorem toSuite (I : Inv X pins σ H s) : Inv (X.suite a (X.pn ++ pins)) [] σ H s :=
  ⟨I.ok.suite _ _, I.os, I.bare, I.base, I.loc, I.cell, I.free, I.freeC, fun p hp => I.pin p (by rw [List.append_nil] at hp; exact hp), I.hok, I.len⟩
theorem ofSuite {pn' : List (Addr × Obj)} (ok : X.Ok) (I : Inv (X.suite a (X.pn ++ pins)) pn' σ H s) : Inv X pins σ H s :=
  ⟨ok, I.os, I.bare, I.base, I.loc, I.cell, I.free, I.freeC, fun p hp => I.pin p (List.mem_append.mpr (.inl hp)), I.hok, I.len⟩
end
/-- what a clause that keeps its exception wishes -/
def wC (K : PySem.W.Frag) (c : Value) (i : Nat) (ts : TS) (Wout : WX) (D : Ends) : WX := fun cls d σ H =>
  ∃ b, PySem.W.exmOne K cls c = some b ∧ (b = true → ∀ a, H a = none →
      ts ⟨fun σ' H' => D.nx (σ'.set i none) H', D.rt, fun σ' H' => D.bk (σ'.set i none) H', fun σ' H' => D.ct (σ'.set i none) H'⟩ (σ.set i (some (.ref a))) (upd H a (.ext (XoP a cls d)))) ∧
    (b = false → Wout cls d σ H)
section
variable {X : Cx} {x n : Str} {c : Value} {i : Nat} {body suite : List Stmt} {b₀ : Stmt} {np pos pos' : Pos} {tb : WX → TS} {ts : TS} {Wout : WX}
theorem ps_catch (hex : X.ex = []) (hs : X.stack = X.env :: X.outer) (hf : X.env.frame = some X.env.locals) (hN : X.N.Nodup) (hi : X.N[i]? = some n) (hln : X.env.kindOf n = some .local) (hc : Names X x c) (tk : Takes X Wout)
    (hb : ∀ (W : WX) (pn : List (Addr × Obj)) (xe : Value → Shared → Prop), Takes (X.tr pn xe) W → PassesOwn (model X.prog X.w) X.A X.env xe → PSs (X.tr pn xe) body (tb W))
    (hsu : ∀ (a : Addr) (pn : List (Addr × Obj)), PSs (X.suite a pn) (b₀ :: suite) ts) :
    PS X (.Try body [.ExceptHandler (some (.Name x np)) (some n) (b₀ :: suite) pos'] [] [] pos) (fun D σ H => tb (wC X.K c i ts Wout D) D σ H) := by
  constructor
  intro pins s σ H D I0 want
  have okX := I0.ok
  have frA : X.A.frames = some (X.env :: X.outer) := okX.frames.trans (congrArg some hs)
  apply wpAny_Try_except
  let xe0 : Value → Shared → Prop := fun e t1 => wpAny (model X.prog X.w) X.A (noteFrame e X.env)
    (fun _ t2 => wpAny (model X.prog X.w) X.A (setFlight e none)
      (fun _ t3 => wpAny (model X.prog X.w) X.A (handleBy e X.env [.ExceptHandler (some (.Name x np)) (some n) (b₀ :: suite) pos']) (SP X pins D) X.xe t3) X.xe t2) X.xe t1
  have takes : Takes (X.tr (X.pn ++ pins) xe0) (wC X.K c i ts Wout D) := by
    rintro u t1 ⟨a, B, tI, pns, σ1, H1, cls, d, rfl, Jt, nb, up, sky, na, os, ag, b, hb1, yes, no⟩
    have J : Inv X pins σ1 H1 tI := Jt.ofTry okX
    have sky2 : Sky B (X.env :: X.outer) a (Zc cls d) X.env.locals t1.heap := hs ▸ sky
    change wpAny (model X.prog X.w) X.A (noteFrame (.ref a) X.env) _ _ _
    apply Sky.land Zc.steady frA hf sky2
    intro h3 fl up3
    have J3 := J.landed (s' := { t1 with heap := h3 }) nb fl.1 (up.trans up3) os ag
    obtain ⟨ob, vs, gob, zob, dob⟩ := fl.there
    have noFrame : ∀ {h : Heap} {o : Obj} {vs : Array Value}, h.FunFrames B (X.env :: X.outer) → h.get? a = some o → o.data = .fields vs → a ∉ frs (X.env :: X.outer) := by
      intro h o vs ff e dd hm
      obtain ⟨_, o2, e2, z⟩ := ff.mem hm
      rw [e] at e2
      cases e2
      exact z _ dd
    have nfr := noFrame fl.2.2.1 gob dob
    have nL : a ≠ X.env.locals := fun z => nfr (List.mem_filterMap.mpr ⟨X.env, by simp, by rw [hf, z]⟩)
    -- it was not there ahead
    have fresh : tI.heap.get? a = none := by
      cases q : tI.heap.get? a with
      | none => rfl
      | some o =>
        have := nb a o q (by rw [hs]; exact nfr)
        rw [fl.2.1] at this
        cases this
    have fresh0 : X.s_0.heap.get? a = none := by
      cases q : X.s_0.heap.get? a with
      | none => rfl
      | some o =>
        exfalso
        obtain ⟨o2, e2⟩ := J.base.there a o q (by rw [hex]; simp)
        rw [fresh] at e2
        cases e2
    have npin : ∀ p ∈ X.pn ++ pins, p.1 ≠ a := fun p hp z => by
      have e := (J.pin p hp).1
      rw [z, fresh] at e
      cases e
    have ncell : ∀ y c, X.env.cells.lookup y = some c → c ≠ a := fun y c e z => by
      obtain ⟨v, o, e2, _⟩ := J.cell y c e
      rw [z, fresh] at e2
      cases e2
    have keepIt : ∀ {h4 : Heap} {o : Obj} {vs : Array Value}, h4.get? a = some o → Zc cls d o → o.data = .fields vs → ObjOk X.prog X.w (upd H1 a (.ext (XoP a cls d))) h4 a (.ext (XoP a cls d)) := by
      intro h4 o vs e z dd
      exact ⟨⟨o, vs, e, z, dd⟩, ⟨o, e⟩, fun h5 h6 ⟨o5, vs5, e5, r5⟩ k => ⟨o5, vs5, k _ e5, r5⟩⟩
    have S3 := toSuite (a := a) J3
    apply wpAny_handleBy_cons (codeAny_handlers_test ?_) (by intro q; cases q)
    have LT : PySem.W.Looks (model X.prog X.w) h3 (typeOf (.ref a)) cls := fun A Q E s k q => wpAny_typeOf_ref (k _ _ gob) (by rw [zob.1]; exact q)
    have LM := PySem.W.exm_one (M := model X.prog X.w) J3.kIn LT hb1
    have asked : ∀ {Q E : Value → Shared → Prop}, Q c { t1 with heap := h3 } → wpAny (model X.prog X.w) (X.A.mark (some (.ref a))) (eval (.Name x np) X.env) Q E { t1 with heap := h3 } := by
      intro Q E q
      obtain ⟨hg, hdb, hm | ⟨hm, hv, hn⟩⟩ := hc
      · exact ld_glob (X := X.suite a (X.pn ++ pins)) S3 hg hm q hdb
      · exact ld_blt (X := X.suite a (X.pn ++ pins)) S3 hg hm hv q hn hdb
    apply asked
    apply LM.here
    cases b with
    | true =>
      apply codeAny_handlers_suite_as
      apply HandSPX.lands_againZ fl
      intro h4 fl4 up4
      have J4 := J.landed (s' := { t1 with heap := h4 }) nb fl4.1 ((up.trans up3).trans up4) os ag
      obtain ⟨o4, vs4, e4, z4, d4⟩ := fl4.there
      have J5 := adopt J4 na fresh0 nL ncell npin (keepIt e4 z4 d4)
      refine store_ok (X := X.suite a (X.pn ++ pins)) (v := .ref a) (toSuite J5) hN hi (.inl hln) rfl (fun t5 S5 => ?_) (.inr hln)
      refine wpAny_mono ((hsu a (X.pn ++ pins)).run [] t5 _ _ _ S5 (yes rfl a na)) (fun f t6 sp => ?_) (fun _ _ z => z.elim)
      have leave : ∀ {σ6 : L2.St} {H6 : Hp} {Q : Shared → Prop}, Inv (X.suite a (X.pn ++ pins)) [] σ6 H6 t6 → (∀ t7, Inv X pins (σ6.set i none) H6 t7 → Q t7) →
          wpAny (model X.prog X.w) X.A (do bindName X.env n .none; unbindBehindTheSuite X.env n pos') (fun _ t7 => Q t7) X.xe t6 :=
        fun S6 hq => gone_ok (ofSuite okX S6) hN hi hln hq
      cases f with
      | next => obtain ⟨_, _, S6, q6⟩ := sp; exact leave S6 fun t7 J7 => ⟨_, _, J7, q6⟩
      | brk => obtain ⟨_, _, S6, q6⟩ := sp; exact leave S6 fun t7 J7 => ⟨_, _, J7, q6⟩
      | cont => obtain ⟨_, _, S6, q6⟩ := sp; exact leave S6 fun t7 J7 => ⟨_, _, J7, q6⟩
      | ret u => obtain ⟨_, _, _, S6, r6, q6⟩ := sp; exact leave S6 fun t7 J7 => ⟨_, _, _, J7, r6, q6⟩
    | false =>
      change wpAny _ X.A (handleBy (.ref a) X.env []) _ _ _
      apply wpAny_handleBy_nil
      obtain ⟨k1, k2, k3, oe, us, T, oT, ts', he, hz, hd, h1, hr⟩ := id fl
      unfold PySem.passOn
      apply wpAny_bind
      apply wpAny_field he hd h1
      rw [if_neg (by simp : ¬ ((Value.ref T == Value.none) = true))]
      have fin : wpAny (model X.prog X.w) X.A (setFlight (.ref a) X.env.frame) (fun _ t4 => wpAny (model X.prog X.w) X.A (throw (.ref a) : Sem Flow) (SP X pins D) X.xe t4) X.xe { t1 with heap := h3 } := by
        rw [hf]
        apply HandSPX.setFlight_upZ fl
        intro h4 hh4 up4
        exact wpAny_throw (tk _ _ ⟨a, B, tI, pins, σ1, H1, cls, d, rfl, J, nb, (up.trans up3).trans up4, .inr (.inr (by rw [hs]; exact hh4)), na, os, ag, no rfl⟩)
      first
        | exact wpAny_bind (wpAny_pure (wpAny_bind fin))
        | exact wpAny_bind fin
  refine wpAny_mono ((hb _ (X.pn ++ pins) xe0 takes PassesOwn.looking).run [] s σ H D (I0.toTry _) want) (fun f t1 sp => ?_) (fun e t1 he => he)
  cases f with
  | next => obtain ⟨_, _, J', q⟩ := sp; exact wpAny_execs_nil ⟨_, _, J'.ofTry okX, q⟩
  | brk => obtain ⟨_, _, J', q⟩ := sp; exact ⟨_, _, J'.ofTry okX, q⟩
  | cont => obtain ⟨_, _, J', q⟩ := sp; exact ⟨_, _, J'.ofTry okX, q⟩
  | ret u => obtain ⟨_, _, _, J', r, q⟩ := sp; exact ⟨_, _, _, J'.ofTry okX, r, q⟩
end
section
variable {X : Cx} {k : Nat} {G : Gam} {pos : Pos}
theorem REnv.unset {K : PySem.W.Frag} {mg : Str → Option Value} {H : Hp} {ρ : List Addr} {e : Env} {σ : L2.St} (h : REnv K mg H ρ e σ) (i : Nat) : REnv K mg H ρ (e.set i none) (σ.set i none) := by
  refine ⟨by simp [h.1], fun j x q => ?_⟩
  by_cases z : i = j
  · subst z
    by_cases hl : i < e.length
    · rw [List.getElem?_set_self hl] at q; cases q
    · rw [List.getElem?_eq_none (by simpa using hl)] at q; cases q
  · rw [List.getElem?_set_ne z] at q ⊢
    exact h.2 j x q
theorem js_try {n c : Str} {i : Nat} {xb xh : Ss} {body suite : List Stmt} {b₀ : Stmt} {np pos' : Pos} (gx : GX X k G) (gd : Gd X k) (hex : X.ex = []) (hs : X.stack = X.env :: X.outer) (hf : X.env.frame = some X.env.locals) (hi : X.N[i]? = some n) (hln : X.env.kindOf n = some .local)
    (hcl : ∃ D, X.mg c = some (.ref D)) (hg : Gl X c) (hdb : (c == ("__debug__" : Str)) = false) (hb : ∀ (pn : List (Addr × Obj)) (xe : Value → Shared → Prop), PassesOwn (model X.prog X.w) X.A X.env xe → JSs (X.tr pn xe) (fun env st => evSs G xb env st) body)
    (hsu : ∀ (a : Addr) (pn : List (Addr × Obj)), JSs (X.suite a pn) (fun env st => evSs G xh env st) (b₀ :: suite)) :
    JS X (fun env st => evS G (.try xb c i xh) env st) (.Try body [.ExceptHandler (some (.Name c np)) (some n) (b₀ :: suite) pos'] [] [] pos) := by
  intro W tk
  · obtain ⟨D, hm⟩ := hcl
    refine PS.imp (ps_catch (c := .ref D) (ts := tS X.K X.mg (fun env st => evSs G xh env st) (fun _ _ _ _ => False)) (tb := fun W => tS X.K X.mg (fun env st => evSs G xb env st) W) (Wout := W) hex hs hf gd.nd hi hln ⟨hg, hdb, .inl hm⟩ tk (fun W pn xe tk hp => hb pn xe hp W tk) (fun a pn => hsu a pn _ L2.takes0)) ?_
    rintro E σ H ⟨ρ, env, st, he, hS, h⟩
    refine ⟨ρ, env, st, he, hS, ?_⟩
    have h : KS X.K X.mg W E H ρ (evS G (.try xb c i xh) env st) := h
    rw [evS] at h
    show KS X.K X.mg _ E H ρ (evSs G xb env st)
    cases q : evSs G xb env st with
    | bad => rw [q] at h; exact h.elim
    | ok f e2 st2 => rw [q] at h; cases f <;> exact h
    | exc c' fs e2 st2 =>
      rw [q] at h
      intro cls d σ2 H2 ρ2 x2 s2 he2 rx
      simp only at h
      cases hsub : G.sub c' c with
      | none => rw [hsub] at h; exact h.elim
      | some b =>
        rw [hsub] at h
        obtain ⟨C, D', m1, m2, m3⟩ := gx.sub c' c b hsub
        rw [hm] at m2
        cases m2
        have rx0 := rx
        obtain ⟨C', m4, rfl, rx⟩ := rx
        rw [m1] at m4
        cases m4
        refine ⟨b, m3, fun hbt a na => ?_, fun hbf => ?_⟩
        · subst hbt
          simp only at h
          have xf : Ext ρ2 H2 ρ2 (upd H2 a (.ext (XoP a (.ref C) d))) := Ext.fresh na
          have rd : RD X.K X.mg (upd H2 a (.ext (XoP a (.ref C) d))) ρ2 (.exn c' fs) (.ref a) := by
            match fs, rx with
            | [], rx => subst rx; exact .exn0 m1 upd_same
            | [r], rx =>
              obtain ⟨dd, v, rfl, r1, r2⟩ := rx
              exact .exn1 m1 upd_same (xf.imm _ _ r1 trivial) (r2.mono xf)
          refine ⟨ρ2, e2.set i (some (.exn c' fs)), st2, (he2.mono xf).set rd i, s2.grow na, ?_⟩
          have h := KS.ext h (x2.trans xf)
          show KS X.K X.mg _ _ _ ρ2 (evSs G xh (e2.set i (some (.exn c' fs))) st2)
          cases q3 : evSs G xh (e2.set i (some (.exn c' fs))) st2 with
          | bad => rw [q3] at h; exact h.elim
          | exc c4 fs4 e4 st4 => rw [q3] at h; exact h.elim
          | ok f e4 st4 =>
            rw [q3] at h
            cases f with
            | nx => exact fun σ' H' ρ' x s r => h _ H' ρ' x s (r.unset i)
            | rt d => exact fun v H' ρ' x s r => h v H' ρ' x s r
            | bk => exact h.elim
            | ct => exact h.elim
        · subst hbf
          simp only at h
          exact h (.ref C) d σ2 H2 ρ2 x2 s2 he2 rx0
/-- isinstance(e, C), e an exception that was caught -/
theorem call_isX : CallR X (.builtin "isinstance") (fun xs H Q => ∃ (a C : Addr) (c : V) (cv : Value) (b : Bool), xs = [.ref a, c] ∧ (∀ u, RelV c u → u = cv) ∧ H a = some (.ext (XoP a (.ref C) none)) ∧ ExcC X.K C ∧ PySem.W.kitOne X.K (.ref C) cv = some b ∧ Q (.bl b) H) := by
  intro pins s σ H xs us Q I r ⟨a, C, c, cv, b, e1, hcv, ha, cC, hk, q⟩
  subst e1
  obtain ⟨u1, u2, rfl, r1, r2⟩ := vals2 r
  cases (show u1 = Value.ref a from r1)
  obtain rfl := hcv _ r2
  obtain ⟨⟨oe, vs, e2, hz, hd⟩, _, _⟩ := I.hok a _ ha
  have at0 : PySem.W.InstAt s.heap a oe C none := by
    cases oe
    simp only [Zc] at hz hd
    obtain ⟨z1, z2⟩ := hz
    subst z1 z2 hd
    exact ⟨e2, rfl, rfl, trivial⟩
  refine PySem.W.kia_one (PySem.W.handS_kitx_exc cC.hg cC.hk cC.hs cC.hd cC.ha cC.hn cC.ht cC.hm) I.kIn at0 hk (by intro z; cases z) ?_
  intro tk
  exact ⟨.bl b, H, I.kept (t' := tk) (fun _ _ z => z), rfl, q⟩
theorem ja_isiE {a : Expr} {xa : Ex} {T : Str} {p p2 : Pos} (gx : GX X k G) (gd : Gd X k) (hg : Gl X "isinstance") (hgT : Gl X T) (hdb : (T == ("__debug__" : Str)) = false) (hT : tyName T = none) (hcl : (∃ D, X.mg T = some (.ref D)) ∨ T = "ValueError") (ha : JA X (fun env st => evA G env xa st) a)
    (hs : starEach (a :: [.Name T p2]) X.env = (false, eval a X.env) :: starEach [.Name T p2] X.env) : JA X (fun env st => evA G env (.isi xa [T]) st) (.Call (.Name "isinstance" p) [a, .Name T p2] [] pos) := by
  intro W tk
  have hm := gx.bt "isinstance" (by decide +kernel)
  have nm : ∃ (v : V) (cv : Value), PE X (.Name T p2) (tC v) ∧ (∀ u, RelV v u → u = cv) ∧ ((∃ D, X.mg T = some (.ref D) ∧ cv = .ref D) ∨ (T = "ValueError" ∧ cv = .type "ValueError")) := by
    rcases hcl with ⟨D, h⟩ | rfl
    · exact ⟨.ref D, .ref D, pe_glob hgT h rfl hdb, fun u r => r, .inl ⟨D, h, rfl⟩⟩
    · exact ⟨.ty "ValueError", .type "ValueError", pe_bltn (v := .ty "ValueError") hgT (gx.bt _ (by decide +kernel)) (by decide +kernel) rfl (by decide +kernel) hdb, fun u r => r, .inr ⟨rfl, rfl⟩⟩
  obtain ⟨v, cv, hv, hcv, hk⟩ := nm
  refine PE.imp (pe_callB call_isX hg hm PyProof.Rows.boot_isinstance (pa_cons (ha W tk) (pa_cons hv pa_nil) hs) (by decide +kernel) (by decide +kernel) hs) ?_
  rintro σ H Q ⟨ρ, env, st, he, hS, h⟩
  simp only [evA] at h
  refine ⟨ρ, env, st, he, hS, KR.bind h ?_⟩
  intro x st1 v1 H1 ρ1 e1 s1 r1 h1
  obtain ⟨z, ez, h2⟩ := KR.ofO h1
  simp only [Option.map_eq_some_iff, isiA, isiOne, hT] at ez
  obtain ⟨b, ez, rfl⟩ := ez
  split at ez
  · rename_i e
    obtain ⟨C, m1, cC, m2⟩ := gx.ist e T b ez
    have hk2 : PySem.W.kitOne X.K (.ref C) cv = some b := by
      rcases hk with ⟨D, h3, rfl⟩ | ⟨h3, rfl⟩
      · rcases m2 with ⟨D', m3, m4⟩ | ⟨m3, m4⟩
        · rw [h3] at m3; cases m3; exact m4
        · subst m3
          rw [gx.bt "ValueError" (by decide +kernel)] at h3
          cases h3
      · rcases m2 with ⟨D', m3, m4⟩ | ⟨m3, m4⟩
        · rw [h3, gx.bt "ValueError" (by decide +kernel)] at m3
          cases m3
        · exact m4
    cases r1 with
    | d r1 =>
      cases r1 with
      | exn0 g1 g2 =>
        rw [m1] at g1
        cases g1
        exact ⟨_, C, v, cv, b, rfl, hcv, g2, cC, hk2, fin_d (h2.ext anti_A e1) s1 (.bl _)⟩
  · cases ez
/-- a call through a local name -/
theorem pe_callV {W : WX} (tk : Takes X W) {i : Nat} {x : Str} {p : Pos} {e : Expr} {es : List Expr} {t : TA} (hr : Room k X.A) (hi : X.N[i]? = some x) (hv : Vis X.env.scope x) (hd : (x == ("__debug__" : Str)) = false) (hcd : (x == ("__classdict__" : Str)) = false) (ha : PA X (e :: es) t)
    (he : starEach (e :: es) X.env = (false, eval e X.env) :: starEach es X.env) (hpl : (backTo pos (starEach es X.env)).any (·.1) = false) :
    PE X (.Call (.Name x p) (e :: es) [] pos) (fun σ H Q => ∃ a fd ps sp, σ[i]? = some (some (.ref a)) ∧ PySem.W.keepIn X.K (.ref a) = true ∧ Binds X.K fd ps [] ∧ FnOk X.prog X.w X.K X.mg X.base (L2.CX X.prog X.w) k a fd ps sp ∧ t σ H fun vs H1 => sp vs H1 Q (WE W σ)) := by
  constructor
  rintro pins s σ H Q I ⟨a, fd, ps, sp, e1, hk, hb, F, ht⟩
  apply wpAny_Call_Name_kw
  refine thn ((pe_var (pos := p) hi hv hd hcd).run pins s σ H (fun v H1 => v = .ref a ∧ H1 = H) I ⟨_, e1, rfl, rfl⟩) ?_
  rintro u s1 ⟨v, H1, I1, r1, rfl, rfl⟩
  cases r1
  refine PySem.W.callWith_K (h₀ := X.base) I.ok.mod.kin hk (thn (ha.run pos pins s1 σ _ _ I1 ht) ?_) he hpl
  rintro us s2 ⟨vs, H2, I2, r, q⟩
  exact ⟨I2.kIn, run_fnS F hr hb (passAt tk σ) I2 r q⟩
theorem ja_callv {i : Nat} {x : Str} {xs : Es} {p : Pos} {e : Expr} {es : List Expr} (gx : GX X k G) (gd : Gd X k) (hi : X.N[i]? = some x) (hv : Vis X.env.scope x) (hd : (x == ("__debug__" : Str)) = false) (hcd : (x == ("__classdict__" : Str)) = false) (ha : JL X (fun env st => evEs G env xs st) (e :: es))
    (hs : starEach (e :: es) X.env = (false, eval e X.env) :: starEach es X.env) (hpl : (backTo pos (starEach es X.env)).any (·.1) = false) : JA X (fun env st => evA G env (.callv i xs) st) (.Call (.Name x p) (e :: es) [] pos) := by
  intro W tk
  refine PE.imp (pe_callV tk gd.room hi hv hd hcd (ha W tk) hs hpl) ?_
  rintro σ H Q ⟨ρ, env, st, he, hS, h⟩
  simp only [evA] at h
  split at h
  · rename_i f eq
    split at h
    · rename_i F qf
      obtain ⟨a, fd, ps, h1, h2, h3, h4, h5⟩ := gx.fn f F qf
      obtain ⟨v, g1, g2⟩ := he.2 _ _ eq
      cases g2 with
      | obj g2 =>
        rw [h1] at g2
        cases g2
        refine ⟨a, fd, ps, _, g1, h2, h3, h4, ρ, env, st, he, hS, KR.bind h ?_⟩
        intro x st1 v1 H1 ρ1 e1 s1 r1 h
        refine ⟨?_, ρ1, x, st1, r1, s1, ?_⟩
        · rw [← RDs.length r1]
          exact h5 x st1 ⟨_, rfl, fun z => by rw [z] at h; exact h.elim⟩
        · cases qf2 : F x st1 with
          | bad => rw [qf2] at h; exact h.elim
          | exc c fs st2 =>
            rw [qf2] at h
            exact fun cls d H' ρ' f s r => h cls d H' ρ' (e1.trans f) s r
          | ok z st2 =>
            rw [qf2] at h
            exact fun b H' ρ' f s r => h b H' ρ' (e1.trans f) s (.d r)
    · exact h.elim
  · exact h.elim
end
end Ev

namespace Ev
open PySem PySem.Spec PyProof.Rows L2

/-! ### from the text to the short text -/
structure TC where
  N : List Str
  sc : Scope
  fb : Str → Bool
  cl : List Str
structure Tr (X : Cx) (k : Nat) (G : Gam) (c : TC) : Prop where
  N : X.N = c.N
  sc : X.env.scope = c.sc
  fb : ∀ x, c.fb x = true → X.fn x = true
  gd : Gd X k
  gx : GX X k G
  cl : ∀ x ∈ c.cl, ∃ D, X.mg x = some (.ref D)
def dbgs (x : Str) : Bool := (x == ("__debug__" : Str)) || (x == ("__classdict__" : Str))
def ixOf (x : Str) : List Str → Option Nat
  | [] => none
  | y :: r => if y = x then some 0 else (ixOf x r).map (· + 1)
theorem ixOf_ok {x : Str} : ∀ {N : List Str} {i : Nat}, ixOf x N = some i → N[i]? = some x
  | y :: r, i, h => by
    unfold ixOf at h
    split at h
    · rename_i e; cases h; simp [e]
    · simp only [Option.map_eq_some_iff] at h
      obtain ⟨j, h, rfl⟩ := h
      simpa using ixOf_ok h
def visB (sc : Scope) (x : Str) : Bool := match sc.names.lookup x with
  | some .local => true
  | some .cell => true
  | some .free => true
  | _ => false
def locB (sc : Scope) (x : Str) : Bool := match sc.names.lookup x with
  | some .local => true
  | some .cell => true
  | _ => false
def lclB (sc : Scope) (x : Str) : Bool := match sc.names.lookup x with
  | some .local => true
  | _ => false
def glB (sc : Scope) (x : Str) : Bool := match sc.names.lookup x with
  | some .globalImplicit => !dbgs x
  | _ => false
theorem visB_ok {sc : Scope} {x : Str} (h : visB sc x = true) : Vis sc x := by
  unfold visB at h; unfold Vis
  split at h
  · rename_i e; exact .inl e
  · rename_i e; exact .inr (.inl e)
  · rename_i e; exact .inr (.inr e)
  · cases h
theorem locB_ok {sc : Scope} {x : Str} (h : locB sc x = true) : L2.Loc sc x := by
  unfold locB at h; unfold L2.Loc
  split at h
  · rename_i e; exact .inl e
  · rename_i e; exact .inr e
  · cases h
theorem lclB_ok {sc : Scope} {x : Str} (h : lclB sc x = true) : sc.names.lookup x = some .local := by
  unfold lclB at h
  split at h
  · rename_i e; exact e
  · cases h
section
variable {X : Cx} {k : Nat} {G : Gam} {c : TC}
theorem glB_ok (t : Tr X k G c) {x : Str} (h : glB c.sc x = true) : Gl X x ∧ (x == ("__debug__" : Str)) = false := by
  unfold glB at h
  split at h
  · rename_i e
    refine ⟨?_, ?_⟩
    · show X.env.scope.names.lookup x = _
      rw [t.sc]; exact e
    · unfold dbgs at h
      cases q : (x == ("__debug__" : Str)) with
      | false => rfl
      | true => rw [q] at h; simp at h
  · cases h
end
def nst : Expr → Bool
  | .Starred _ _ => false
  | _ => true
theorem starEach_ok {e : Expr} {es : List Expr} {env : PySem.Env} (h : nst e = true) : starEach (e :: es) env = (false, eval e env) :: starEach es env := by
  cases e <;> first | rfl | cases h
theorem back_ok {pos : Pos} {env : PySem.Env} : ∀ {es : List Expr}, es.all nst = true → (backTo pos (starEach es env)).any (·.1) = false
  | [], _ => rfl
  | e :: es, h => by
    rw [List.all_cons, Bool.and_eq_true] at h
    rw [starEach_ok h.1]
    simpa [backTo] using back_ok (pos := pos) (env := env) h.2
theorem back_all {pos : Pos} {env : PySem.Env} : ∀ {es : List Expr}, es.all nst = true → (backTo pos (starEach es env)).all (fun x => !x.1) = true
  | [], _ => rfl
  | e :: es, h => by
    rw [List.all_cons, Bool.and_eq_true] at h
    rw [starEach_ok h.1]
    simpa [backTo] using back_all (pos := pos) (env := env) h.2
theorem assignEach_ok {e : Expr} {es : List Expr} {env : PySem.Env} (h : nst e = true) : assignEach (e :: es) env = (false, assign e env) :: assignEach es env := by
  cases e <;> first | rfl | cases h
def mapEs (f : Expr → Option Ex) : List Expr → Option Es
  | [] => some .nil
  | e :: r => if nst e = true then (f e).bind fun x => (mapEs f r).map fun y => .cons x y else none
def trO (f : Expr → Option Ex) : Option Expr → Option Eo
  | none => some .no
  | some e => (f e).map .so
def trIf (f : Expr → Option Ex) : List Expr → Option Eo
  | [] => some .no
  | [e] => (f e).map .so
  | _ => none
mutual
def trTg (c : TC) : Nat → Expr → Option Tg
  | 0, _ => none
  | n + 1, .Name x _ => if locB c.sc x = true ∧ (c.fb x || lclB c.sc x) = true then (ixOf x c.N).map .nm else none
  | n + 1, .Tuple es _ _ => (trTgs c n es).map .tup
  | _, _ => none
def trTgs (c : TC) : Nat → List Expr → Option Tgs
  | 0, _ => none
  | _ + 1, [] => some .nil
  | n + 1, e :: r => if nst e = true then (trTg c n e).bind fun x => (trTgs c n r).map fun y => .cons x y else none
end
section
variable {X : Cx} {k : Nat} {G : Gam} {c : TC}
theorem trTg_ok (t : Tr X k G c) : ∀ n, (∀ e x, trTg c n e = some x → JG X x e) ∧ (∀ es xs, trTgs c n es = some xs → JGs X xs es ∧ (assignEach es X.env).length = tgsLen xs ∧ (assignEach es X.env).findIdx? (·.1) = none)
  | 0 => ⟨fun e x h => by simp [trTg] at h, fun es xs h => by simp [trTgs] at h⟩
  | n + 1 => by
    have ih := trTg_ok t n
    refine ⟨fun e x h => ?_, fun es xs h => ?_⟩
    · cases e with
      | Name y pos =>
        simp only [trTg] at h
        split at h
        · rename_i q
          simp only [Option.map_eq_some_iff] at h
          obtain ⟨i, h, rfl⟩ := h
          refine jg_nm t.gd.nd ?_ ?_ ?_
          · rw [t.N]; exact ixOf_ok h
          · rw [t.sc]; exact locB_ok q.1
          · rw [t.sc]
            rcases Bool.or_eq_true_iff.mp q.2 with q | q
            · exact .inl (t.fb _ q)
            · exact .inr (lclB_ok q)
        · cases h
      | Tuple es kk pos =>
        simp only [trTg, Option.map_eq_some_iff] at h
        obtain ⟨ts, h, rfl⟩ := h
        obtain ⟨h1, h2, h3⟩ := ih.2 es ts h
        exact jg_tup (n := 0) t.gd.calm h1 h2 h3
      | _ => simp [trTg] at h
    · cases es with
      | nil =>
        simp only [trTgs] at h
        cases h
        exact ⟨jgs_nil, rfl, rfl⟩
      | cons e r =>
        simp only [trTgs] at h
        split at h
        · rename_i q
          obtain ⟨x, hx, h⟩ := Option.bind_eq_some_iff.mp h
          simp only [Option.map_eq_some_iff] at h
          obtain ⟨y, hy, rfl⟩ := h
          obtain ⟨h1, h2, h3⟩ := ih.2 r y hy
          refine ⟨jgs_cons (ih.1 e x hx) h1 ?_, ?_, ?_⟩
          · rw [assignEach_ok q]; rfl
          · rw [assignEach_ok q]; simp [tgsLen, h2]
          · rw [assignEach_ok q]; simp [List.findIdx?_cons, h3]
        · cases h
end
/-- the block's own names -/
def ownOf (N : List Str) : List (Str × NameKind) → List (Str × Nat)
  | [] => []
  | (x, k) :: r => (match k, ixOf x N with
    | .local, some i => [(x, i)]
    | .cell, some i => [(x, i)]
    | _, _ => []) ++ ownOf N r
def blkTC (c : TC) (scope : Scope) : TC := ⟨c.N, relS scope c.sc, fun x => scope.names.lookup x == some .cell, c.cl⟩
theorem Tr.blk {X : Cx} {k : Nat} {G : Gam} {c : TC} (t : Tr X k G c) {scope : Scope} (s : Shared) (H : Hp) (C : Addr) (cl : List (Str × Addr)) (fp : List Addr) : Tr (X.blk s H scope (compEnvC scope cl C X.env) fp) k G (blkTC c scope) where
  N := t.N
  sc := by
    show relS scope X.env.scope = _
    rw [t.sc]; rfl
  fb := fun x h => h
  gd := ⟨t.gd.calm, t.gd.nd, t.gd.room, PassesOwn.never⟩
  gx := t.gx
  cl := t.cl
def setB : Expr → Bool
  | .Set _ _ _ => true
  | _ => false
theorem fold_ok {e : Expr} {env : PySem.Env} (h : setB e = false) : ∀ x, foldedSetIterable e env x = pure x := by
  cases e <;> first | (intro x; rfl) | cases h
structure LcT where
  xe : Ex
  t : Tg
  it : It
  f : Eo
  own : List (Str × Nat)
def isTup : Expr → Bool
  | .Tuple _ _ _ => true
  | _ => false
/-- what is walked -/
def trIt (c : TC) (f : Expr → Option Ex) (tg : Expr) (e : Expr) : Option It :=
  match e with
  | .Call (.Name x _) [a] [] _ =>
    if x = ("range" : Str) then
      if glB c.sc "range" = true ∧ nst a = true then (f a).map .rng else none
    else if x = ("enumerate" : Str) then
      if glB c.sc "enumerate" = true ∧ nst a = true ∧ isTup tg = true then (f a).map .enum else none
    else (f e).map .val
  | .Call (.Name x _) [a, b] [] _ =>
    if x = ("range" : Str) then
      if glB c.sc "range" = true ∧ nst a = true ∧ nst b = true then (f a).bind fun p => (f b).map fun q => .rng2 p q else none
    else if x = ("zip" : Str) then
      if glB c.sc "zip" = true ∧ nst a = true ∧ nst b = true ∧ isTup tg = true then (f a).bind fun p => (f b).map fun q => .zip p q else none
    else (f e).map .val
  | e => (f e).map .val
def trLc (c : TC) (f : TC → Expr → Option Ex) (n : Nat) (elt tg iter : Expr) (ifs : List Expr) (scope : Scope) : Option LcT :=
  let own := ownOf c.N scope.names
  let c' := blkTC c scope
  if blkC c.N c.sc scope own = true ∧ setB iter = false then
    (trIt c (f c) tg iter).bind fun it => (trTg c' n tg).bind fun t => (trIf (f c') ifs).bind fun g => (f c' elt).bind fun x =>
      if (slots t).all (fun i => (own.map (·.2)).contains i) = true then some ⟨x, t, it, g, own⟩ else none
  else none
def slcB : Expr → Bool
  | .Slice _ _ _ _ => true
  | _ => false
def c0B : Expr → Bool
  | .Call _ [] [] _ => true
  | _ => false
def opB (op : BoolOp) (es : Es) : Option Ex :=
  match es with
  | .nil => none
  | _ => match op with
    | .And => some (.and es)
    | .Or => some (.or es)
/-- len(set(b)), list(range(b)), tuple(range(b)) -/
def trSp (c : TC) (f : Expr → Option Ex) (g : Str) (a : Expr) (es : List Expr) : Option Ex :=
  match es with
  | [] => match a with
    | .Call (.Name h _) [b] [] _ =>
      if glB c.sc g = true ∧ glB c.sc h = true ∧ nst b = true then
        if g = ("len" : Str) ∧ h = ("set" : Str) then (f b).map .nset
        else if g = ("list" : Str) ∧ h = ("range" : Str) then (f b).map fun x => .rgl false x .no
        else if g = ("tuple" : Str) ∧ h = ("range" : Str) then (f b).map fun x => .rgl true x .no
        else none
      else none
    | _ => none
  | _ => none
def trE : Nat → TC → Expr → Option Ex
  | 0, _, _ => none
  | n + 1, c, e =>
    match e with
    | .Name x _ => if dbgs x = true then none else if visB c.sc x = true then (ixOf x c.N).map .v else if glB c.sc x = true then some (.g x) else none
    | .Constant v _ _ => match v with
      | .int i => some (.c (.int i))
      | .bool b => some (.c (.bl b))
      | .none => some (.c .non)
      | .str s => some (.c (.str s))
      | _ => none
    | .BinOp a op b _ => (trE n c a).bind fun x => (trE n c b).map fun y => .bin op x y
    | .UnaryOp .USub a _ => (trE n c a).map .neg
    | .UnaryOp .Not a _ => (trE n c a).map .nt
    | .BoolOp op vs _ => (mapEs (trE n c) vs).bind (opB op)
    | .Compare a [op] [b] _ => if behindInMarks op b = true then none else (trE n c a).bind fun x => (trE n c b).map fun y => .cmp x op y
    | .Compare a [op, op2] [b, d] _ => if lastMarks [op, op2] [b, d] = true then none else (trE n c a).bind fun x => (trE n c b).bind fun y => (trE n c d).map fun z => .cmp2 x op y op2 z
    | .Compare a [op, op2, op3] [b, d, e] _ => if lastMarks [op, op2, op3] [b, d, e] = true then none else (trE n c a).bind fun x => (trE n c b).bind fun y => (trE n c d).bind fun z => (trE n c e).map fun w => .cmp3 x op y op2 z op3 w
    | .Call (.Name f _) (a :: es) [] _ =>
      match trSp c (trE n c) f a es with
      | some x => some x
      | none =>
      if f = ("isinstance" : Str) then
        match es with
        | [.Name T _] => if nst a = true ∧ glB c.sc "isinstance" = true ∧ glB c.sc T = true ∧ ((tyName T).isSome || T == ("ValueError" : Str) || c.cl.contains T) = true then (trE n c a).map fun x => .isi x [T] else none
        | _ => none
      else if glB c.sc f = true then
        (mapEs (trE n c) (a :: es)).map fun xs => if (bval f).isSome = true then .bi f xs else .call f xs
      else if visB c.sc f = true ∧ dbgs f = false then (ixOf f c.N).bind fun i => (mapEs (trE n c) (a :: es)).map fun xs => .callv i xs
      else none
    | .Call (.Attribute o m apos) es [] pos =>
      if c0B o = true ∨ (mtab.lookup m).isNone = true ∨ (apos.endLine == pos.line) = false ∨ 4 ≤ es.length then none else (trE n c o).bind fun x => (mapEs (trE n c) es).map fun xs => .mt m x xs
    | .Subscript a i _ => match i with
      | .Slice none none (some (.UnaryOp .USub (.Constant (.int 1) _ _) _)) _ => (trE n c a).map .rev
      | .Slice lo hi none _ => (trE n c a).bind fun x => (trO (trE n c) lo).bind fun l => (trO (trE n c) hi).map fun h => .sl x l h
      | i => if slcB i = true then none else (trE n c a).bind fun x => (trE n c i).map fun y => .ix x y
    | .Tuple es _ _ => (mapEs (trE n c) es).map .tup
    | .List es _ => (mapEs (trE n c) es).map .lst
    | .Dict [] [] _ => some .dict0
    | .Dict [some (.Constant (.int k) _ _)] [.Constant v _ _] _ => match v with
      | .int i => some (.dic1 k (.int i))
      | .bool b => some (.dic1 k (.bl b))
      | .none => some (.dic1 k .non)
      | _ => none
    | .ListComp elt [⟨tg, iter, ifs, 0⟩] scope _ => (trLc c (fun c => trE n c) n elt tg iter ifs scope).map fun r => .lc r.xe r.t r.it r.f (r.own.map (·.2))
    | .IfExp t a b _ => (trE n c t).bind fun x => (trE n c a).bind fun y => (trE n c b).map fun z => .ife x y z
    | _ => none
section
variable {X : Cx} {k : Nat} {G : Gam} {c : TC}
theorem mapEs_nst {f : Expr → Option Ex} : ∀ {es : List Expr} {xs : Es}, mapEs f es = some xs → es.all nst = true
  | [], _, _ => rfl
  | e :: r, xs, h => by
    simp only [mapEs] at h
    split at h
    · rename_i q
      obtain ⟨x, hx, h⟩ := Option.bind_eq_some_iff.mp h
      simp only [Option.map_eq_some_iff] at h
      obtain ⟨y, hy, rfl⟩ := h
      rw [List.all_cons, q, mapEs_nst hy]; rfl
    · cases h
theorem mapEs_len {f : Expr → Option Ex} : ∀ {es : List Expr}, mapEs f es = some .nil → es = []
  | [], _ => rfl
  | e :: r, h => by
    simp only [mapEs] at h
    split at h
    · obtain ⟨x, hx, h⟩ := Option.bind_eq_some_iff.mp h
      simp only [Option.map_eq_some_iff] at h
      obtain ⟨y, hy, h⟩ := h
      cases h
    · cases h
theorem jl_map {f : Expr → Option Ex} (hf : ∀ e x, f e = some x → JA X (fun env st => evA G env x st) e) : ∀ {es : List Expr} {xs : Es}, mapEs f es = some xs → JL X (fun env st => evEs G env xs st) es
  | [], xs, h => by cases h; exact jl_nil
  | e :: r, xs, h => by
    simp only [mapEs] at h
    split at h
    · rename_i q
      obtain ⟨x, hx, h⟩ := Option.bind_eq_some_iff.mp h
      simp only [Option.map_eq_some_iff] at h
      obtain ⟨y, hy, rfl⟩ := h
      exact jl_cons (hf e x hx) (jl_map hf hy) (starEach_ok q)
    · cases h
theorem jls_map {f : Expr → Option Ex} (hf : ∀ e x, f e = some x → JA X (fun env st => evA G env x st) e) : ∀ {es : List Expr} {xs : Es}, mapEs f es = some xs → JLs X (fun env st => evAs G env xs st) es
  | [], xs, h => by cases h; exact jls_nil
  | e :: r, xs, h => by
    simp only [mapEs] at h
    split at h
    · rename_i q
      obtain ⟨x, hx, h⟩ := Option.bind_eq_some_iff.mp h
      simp only [Option.map_eq_some_iff] at h
      obtain ⟨y, hy, rfl⟩ := h
      exact jls_cons (hf e x hx) (jls_map hf hy) (starEach_ok q)
    · cases h
theorem ja_bop {f : Expr → Option Ex} {pos : Pos} (hf : ∀ e x, f e = some x → JA X (fun env st => evA G env x st) e) : ∀ {es : List Expr} {x : Ex} {xs : Es},
    (mapEs f es = some (.cons x xs) → JA X (fun env st => evAnd G env (.cons x xs) st) (.BoolOp .And es pos)) ∧ (mapEs f es = some (.cons x xs) → JA X (fun env st => evOr G env (.cons x xs) st) (.BoolOp .Or es pos))
  | [], x, xs => ⟨fun h => by simp [mapEs] at h, fun h => by simp [mapEs] at h⟩
  | e :: r, x, xs => by
    have key : ∀ (P : Prop), (∀ hx : f e = some x, mapEs f r = some xs → P) → mapEs f (e :: r) = some (.cons x xs) → P := fun P hp h => by
      simp only [mapEs] at h
      split at h
      · obtain ⟨x', hx, h⟩ := Option.bind_eq_some_iff.mp h
        simp only [Option.map_eq_some_iff] at h
        obtain ⟨y, hy, h⟩ := h
        cases h
        exact hp hx hy
      · cases h
    refine ⟨key _ fun hx hr => ?_, key _ fun hx hr => ?_⟩
    · cases xs with
      | nil =>
        obtain rfl := mapEs_len hr
        simpa only [evAnd] using ja_one (hf e x hx)
      | cons y ys =>
        cases r with
        | nil => simp [mapEs] at hr
        | cons e2 r2 => exact ja_and (hf e x hx) ((ja_bop (pos := pos) hf).1 hr)
    · cases xs with
      | nil =>
        obtain rfl := mapEs_len hr
        simpa only [evOr] using ja_one (hf e x hx)
      | cons y ys =>
        cases r with
        | nil => simp [mapEs] at hr
        | cons e2 r2 => exact ja_or (hf e x hx) ((ja_bop (pos := pos) hf).2 hr)
theorem jw_bop {f : Expr → Option Ex} {pos : Pos} (hf : ∀ e x, f e = some x → JT X (fun env st => tst G env x st) e) : ∀ {es : List Expr} {x : Ex} {xs : Es},
    (mapEs f es = some (.cons x xs) → JW X (fun env st => tstAnd G env (.cons x xs) st) (.BoolOp .And es pos)) ∧ (mapEs f es = some (.cons x xs) → JW X (fun env st => tstOr G env (.cons x xs) st) (.BoolOp .Or es pos))
  | [], x, xs => ⟨fun h => by simp [mapEs] at h, fun h => by simp [mapEs] at h⟩
  | e :: r, x, xs => by
    have key : ∀ (P : Prop), (∀ hx : f e = some x, mapEs f r = some xs → P) → mapEs f (e :: r) = some (.cons x xs) → P := fun P hp h => by
      simp only [mapEs] at h
      split at h
      · obtain ⟨x', hx, h⟩ := Option.bind_eq_some_iff.mp h
        simp only [Option.map_eq_some_iff] at h
        obtain ⟨y, hy, h⟩ := h
        cases h
        exact hp hx hy
      · cases h
    refine ⟨key _ fun hx hr => ?_, key _ fun hx hr => ?_⟩
    · cases xs with
      | nil =>
        obtain rfl := mapEs_len hr
        exact jw_and1 (hf e x hx)
      | cons y ys =>
        cases r with
        | nil => simp [mapEs] at hr
        | cons e2 r2 => exact jw_and (hf e x hx) ((jw_bop (pos := pos) hf).1 hr)
    · cases xs with
      | nil =>
        obtain rfl := mapEs_len hr
        exact jw_or1 (hf e x hx)
      | cons y ys =>
        cases r with
        | nil => simp [mapEs] at hr
        | cons e2 r2 => exact jw_or (hf e x hx) ((jw_bop (pos := pos) hf).2 hr)
theorem trO_ok {f : Expr → Option Ex} (hf : ∀ e x, f e = some x → JA X (fun env st => evA G env x st) e) {o : Option Expr} {x : Eo} (h : trO f o = some x) : JO X (fun env st => evO G env x st) o := by
  cases o with
  | none => cases h; exact jo_no
  | some e =>
    simp only [trO, Option.map_eq_some_iff] at h
    obtain ⟨x, h, rfl⟩ := h
    exact jo_so (hf e x h)
theorem trIf_ok {f : Expr → Option Ex} (hf : ∀ e x, f e = some x → JT X (fun env st => tst G env x st) e) {o : List Expr} {x : Eo} (h : trIf f o = some x) : JTs X (fun env st => evIf G env x st) o := by
  unfold trIf at h
  split at h
  · cases h; exact jts_no
  · simp only [Option.map_eq_some_iff] at h
    obtain ⟨x, h, rfl⟩ := h
    exact jts_so (hf _ x h)
  · cases h
theorem trIt_val {f : Expr → Option Ex} {tg e : Expr} {it : It} (hf : ∀ e x, f e = some x → JA X (fun env st => evA G env x st) e) (h : (f e).map It.val = some it) : JI X (fun env st => evIt G env it st) tg e := by
  simp only [Option.map_eq_some_iff] at h
  obtain ⟨x, h, rfl⟩ := h
  exact ji_val (hf e x h)
theorem trIt_ok {f : Expr → Option Ex} (t : Tr X k G c) (hf : ∀ e x, f e = some x → JA X (fun env st => evA G env x st) e) {tg e : Expr} {it : It} (h : trIt c f tg e = some it) : JI X (fun env st => evIt G env it st) tg e := by
  have tup : isTup tg = true → ∃ a b d, tg = .Tuple a b d := fun q => by
    cases tg <;> first | exact ⟨_, _, _, rfl⟩ | cases q
  unfold trIt at h
  split at h
  · split at h
    · rename_i ex
      subst ex
      split at h
      · rename_i q
        simp only [Option.map_eq_some_iff] at h
        obtain ⟨x, h, rfl⟩ := h
        exact ji_rng t.gx (glB_ok t q.1).1 (hf _ x h) (starEach_ok q.2)
      · cases h
    · split at h
      · rename_i ex
        subst ex
        split at h
        · rename_i q
          simp only [Option.map_eq_some_iff] at h
          obtain ⟨x, h, rfl⟩ := h
          obtain ⟨_, _, _, rfl⟩ := tup q.2.2
          exact ji_enum t.gx (glB_ok t q.1).1 (hf _ x h) (starEach_ok q.2.1)
        · cases h
      · exact trIt_val hf h
  · split at h
    · rename_i ex
      subst ex
      split at h
      · rename_i q
        obtain ⟨x, hx, h⟩ := Option.bind_eq_some_iff.mp h
        simp only [Option.map_eq_some_iff] at h
        obtain ⟨y, hy, rfl⟩ := h
        exact ji_rng2 t.gx (glB_ok t q.1).1 (hf _ x hx) (hf _ y hy) (starEach_ok q.2.1) (starEach_ok q.2.2)
      · cases h
    · split at h
      · rename_i ex
        subst ex
        split at h
        · rename_i q
          obtain ⟨x, hx, h⟩ := Option.bind_eq_some_iff.mp h
          simp only [Option.map_eq_some_iff] at h
          obtain ⟨y, hy, rfl⟩ := h
          obtain ⟨_, _, _, rfl⟩ := tup q.2.2.2
          refine ji_zip t.gx (glB_ok t q.1).1 (hf _ x hx) (hf _ y hy) (starEach_ok q.2.1) (starEach_ok q.2.2.1) (back_ok ?_)
          rw [List.all_cons, q.2.2.1]; rfl
        · cases h
      · exact trIt_val hf h
  · exact trIt_val hf h
end
end Ev

namespace Ev
open PySem PySem.Spec PyProof.Rows L2

structure LcOk (X : Cx) (G : Gam) (r : LcT) (elt tg iter : Expr) (ifs : List Expr) (scope : Scope) : Prop where
  it : JI X (fun env st => evIt G env r.it st) tg iter
  ok : BlkOk X.N X.env.scope scope r.own
  tg : ∀ (s : Shared) (H : Hp) (C : Addr) (cl : List (Str × Addr)) (fp : List Addr), JG (X.blk s H scope (compEnvC scope cl C X.env) fp) r.t tg
  ifs : ∀ (s : Shared) (H : Hp) (C : Addr) (cl : List (Str × Addr)) (fp : List Addr), JTs (X.blk s H scope (compEnvC scope cl C X.env) fp) (fun env st => evIf G env r.f st) ifs
  el : ∀ (s : Shared) (H : Hp) (C : Addr) (cl : List (Str × Addr)) (fp : List Addr), JA (X.blk s H scope (compEnvC scope cl C X.env) fp) (fun env st => evA G env r.xe st) elt
  sl : ∀ i ∈ slots r.t, i ∈ r.own.map (·.2)
  fs : ∀ x, foldedSetIterable iter X.env x = pure x
def GoodF (k : Nat) (G : Gam) (f : TC → Expr → Option Ex) : Prop := ∀ X c, Tr X k G c → ∀ e x, f c e = some x → JA X (fun env st => evA G env x st) e ∧ JT X (fun env st => tst G env x st) e
section
variable {X : Cx} {k : Nat} {G : Gam} {c : TC}
theorem trLc_ok (t : Tr X k G c) {f : TC → Expr → Option Ex} (hf : GoodF k G f) {n : Nat} {elt tg iter : Expr} {ifs : List Expr} {scope : Scope} {r : LcT} (h : trLc c f n elt tg iter ifs scope = some r) : LcOk X G r elt tg iter ifs scope := by
  unfold trLc at h
  dsimp only at h
  split at h
  · rename_i q
    obtain ⟨it, hi, h⟩ := Option.bind_eq_some_iff.mp h
    obtain ⟨tt, ht, h⟩ := Option.bind_eq_some_iff.mp h
    obtain ⟨g, hg, h⟩ := Option.bind_eq_some_iff.mp h
    obtain ⟨x, hx, h⟩ := Option.bind_eq_some_iff.mp h
    split at h
    · rename_i hs
      cases h
      refine ⟨trIt_ok t (fun e x h => (hf X c t e x h).1) hi, ?_, fun s H C cl fp => (trTg_ok (t.blk s H C cl fp) n).1 _ _ ht, fun s H C cl fp => trIf_ok (fun e x h => (hf _ _ (t.blk s H C cl fp) e x h).2) hg, fun s H C cl fp => (hf _ _ (t.blk s H C cl fp) _ _ hx).1, fun i hi => ?_, fold_ok q.2⟩
      · rw [t.N, t.sc]; exact blkOk_by q.1
      · have := List.all_eq_true.mp hs i hi
        simpa using this
    · cases h
  · cases h
theorem both {x : Ex} {e : Expr} (ha : JA X (fun env st => evA G env x st) e) (he : ∀ whole, isTrue e X.env whole = (do let v ← whole; standAt e.pos; holding [v] (truthy v))) : JA X (fun env st => evA G env x st) e ∧ JT X (fun env st => tst G env x st) e := ⟨ha, jt_of ha he⟩
theorem pt_ifExp {a b t : Expr} {tt ta tb : TT} {pos : Pos} (ht : PT X t tt) (ha : PT X a ta) (hb : PT X b tb) : PT X (.IfExp t a b pos) (fun σ H Q => tt σ H fun c H1 => if c = true then ta σ H1 Q else tb σ H1 Q) := by
  refine ⟨fun pins s σ H Q I h => ?_⟩
  show wpAny _ _ (do if ← isTrue t X.env (eval t X.env) then isTrue a X.env (eval a X.env) else isTrue b X.env (eval b X.env)) _ _ _
  refine wpAny_bind (thn (ht.run pins s σ H _ I h) fun c s1 ⟨H1, I1, q⟩ => ?_)
  cases c with
  | true => exact ha.run pins s1 σ H1 Q I1 q
  | false => exact hb.run pins s1 σ H1 Q I1 q
theorem jt_ife {a b t : Expr} {xt xa xb : Ex} {pos : Pos} (ht : JT X (fun env st => tst G env xt st) t) (ha : JT X (fun env st => tst G env xa st) a) (hb : JT X (fun env st => tst G env xb st) b) : JT X (fun env st => tst G env (.ife xt xa xb) st) (.IfExp t a b pos) := by
  intro W tk
  refine PT.imp (pt_ifExp (ht W tk) (ha W tk) (hb W tk)) ?_
  rintro σ H Q ⟨ρ, env, st, he, hs, h⟩
  have e0 : tst G env (.ife xt xa xb) st = (tst G env xt st).bind fun r st => if r = true then tst G env xa st else tst G env xb st := by
    simp only [tst, evA]
    cases evA G env xt st with
    | ok z s1 =>
      simp only [Rs.bind]
      cases truA z s1 with
      | ok b s2 => cases b <;> rfl
      | exc c fs s2 => rfl
      | bad => rfl
    | exc c fs s1 => rfl
    | bad => rfl
  have h : KR X.K X.mg rEq W σ Q H ρ (tst G env (.ife xt xa xb) st) := h
  rw [e0] at h
  refine ⟨ρ, env, st, he, hs, KR.bind h ?_⟩
  intro x st1 v1 H1 ρ1 e1 s1 r1 h1
  cases r1
  cases x with
  | true =>
    rw [if_pos rfl] at h1 ⊢
    exact ⟨ρ1, env, st1, he.mono e1, s1, h1.ext anti_eq e1⟩
  | false =>
    rw [if_neg Bool.false_ne_true] at h1 ⊢
    exact ⟨ρ1, env, st1, he.mono e1, s1, h1.ext anti_eq e1⟩
theorem plain_ok {b : Expr} (h : slcB b = false) : PlainIx b := by
  intro o i
  cases b <;> first | rfl | cases h
theorem base_ok {o : Expr} {m : Str} {env : PySem.Env} {w : Sem Value} (h : c0B o = false) : attributeBase o m env w = w := by
  unfold attributeBase
  split
  · cases h
  · rfl
theorem trSp_ok (t : Tr X k G c) {f : Expr → Option Ex} (hA : ∀ e x, f e = some x → JA X (fun env st => evA G env x st) e) {g : Str} {a : Expr} {es : List Expr} {x : Ex} {p pos : Pos} (h : trSp c f g a es = some x) : JA X (fun env st => evA G env x st) (.Call (.Name g p) (a :: es) [] pos) := by
  unfold trSp at h
  split at h
  · split at h
    · split at h
      · rename_i q
        obtain ⟨q1, q2, q3⟩ := q
        split at h
        · rename_i r
          obtain ⟨rfl, rfl⟩ := r
          simp only [Option.map_eq_some_iff] at h
          obtain ⟨y, hy, rfl⟩ := h
          exact ja_nset t.gx t.gd (glB_ok t q1).1 (glB_ok t q2).1 (hA _ _ hy) (starEach_ok q3)
        · split at h
          · rename_i r
            obtain ⟨rfl, rfl⟩ := r
            simp only [Option.map_eq_some_iff] at h
            obtain ⟨y, hy, rfl⟩ := h
            exact ja_rgl1 (by rfl) t.gx t.gd (glB_ok t q1).1 (glB_ok t q2).1 (hA _ _ hy) (starEach_ok q3)
          · split at h
            · rename_i r
              obtain ⟨rfl, rfl⟩ := r
              simp only [Option.map_eq_some_iff] at h
              obtain ⟨y, hy, rfl⟩ := h
              exact ja_rgl1 (by rfl) t.gx t.gd (glB_ok t q1).1 (glB_ok t q2).1 (hA _ _ hy) (starEach_ok q3)
            · cases h
      · cases h
    · cases h
  · cases h
theorem trE_ok : ∀ n, GoodF k G (trE n)
  | 0 => fun X c t e x h => by simp [trE] at h
  | n + 1 => fun X c t e x h => by
    have ih := trE_ok n
    have hA : ∀ e x, trE n c e = some x → JA X (fun env st => evA G env x st) e := fun e x h => (ih X c t e x h).1
    have hT : ∀ e x, trE n c e = some x → JT X (fun env st => tst G env x st) e := fun e x h => (ih X c t e x h).2
    unfold trE at h
    split at h
    · -- Name
      rename_i y pos
      split at h
      · cases h
      · rename_i hd
        unfold dbgs at hd
        simp only [Bool.or_eq_true, not_or, Bool.not_eq_true] at hd
        split at h
        · rename_i hv
          simp only [Option.map_eq_some_iff] at h
          obtain ⟨i, h, rfl⟩ := h
          exact both (ja_v (by rw [t.N]; exact ixOf_ok h) (by rw [t.sc]; exact visB_ok hv) hd.1 hd.2) fun _ => rfl
        · split at h
          · rename_i hg
            cases h
            exact both (ja_g t.gx (glB_ok t hg).1 hd.1) fun _ => rfl
          · cases h
    · -- Constant
      split at h <;> cases h
      · exact both ja_int fun _ => rfl
      · exact both ja_bl fun _ => rfl
      · exact both ja_non fun _ => rfl
      · exact both ja_str fun _ => rfl
    · obtain ⟨x, hx, h⟩ := Option.bind_eq_some_iff.mp h
      simp only [Option.map_eq_some_iff] at h
      obtain ⟨y, hy, rfl⟩ := h
      exact both (ja_bin (hA _ _ hx) (hA _ _ hy)) fun _ => rfl
    · simp only [Option.map_eq_some_iff] at h
      obtain ⟨y, hy, rfl⟩ := h
      exact both (ja_neg (hA _ _ hy)) fun _ => rfl
    · simp only [Option.map_eq_some_iff] at h
      obtain ⟨y, hy, rfl⟩ := h
      exact ⟨ja_nt (hA _ _ hy), jt_nt (hT _ _ hy)⟩
    · obtain ⟨xs, hx, h⟩ := Option.bind_eq_some_iff.mp h
      unfold opB at h
      split at h
      · cases h
      · rename_i hne
        cases xs with
        | nil => exact (hne rfl).elim
        | cons y ys =>
          split at h <;> cases h
          · exact ⟨(by simpa only [evA] using (ja_bop hA).1 hx), jt_and ((jw_bop hT).1 hx)⟩
          · exact ⟨(by simpa only [evA] using (ja_bop hA).2 hx), jt_or ((jw_bop hT).2 hx)⟩
    · split at h
      · cases h
      · rename_i hm
        obtain ⟨x, hx, h⟩ := Option.bind_eq_some_iff.mp h
        simp only [Option.map_eq_some_iff] at h
        obtain ⟨y, hy, rfl⟩ := h
        exact ⟨ja_cmp t.gd (hA _ _ hx) (hA _ _ hy) (by simpa using hm), jt_cmp t.gd (hA _ _ hx) (hA _ _ hy) (by simpa using hm)⟩
    · split at h
      · cases h
      · rename_i hm
        obtain ⟨x, hx, h⟩ := Option.bind_eq_some_iff.mp h
        obtain ⟨y, hy, h⟩ := Option.bind_eq_some_iff.mp h
        simp only [Option.map_eq_some_iff] at h
        obtain ⟨z, hz, rfl⟩ := h
        exact ⟨ja_cmp2 t.gd (hA _ _ hx) (hA _ _ hy) (hA _ _ hz) (by simpa using hm), jt_cmp2 t.gd (hA _ _ hx) (hA _ _ hy) (hA _ _ hz) (by simpa using hm)⟩
    · split at h
      · cases h
      · rename_i hm
        obtain ⟨x, hx, h⟩ := Option.bind_eq_some_iff.mp h
        obtain ⟨y, hy, h⟩ := Option.bind_eq_some_iff.mp h
        obtain ⟨z, hz, h⟩ := Option.bind_eq_some_iff.mp h
        simp only [Option.map_eq_some_iff] at h
        obtain ⟨w, hw, rfl⟩ := h
        exact ⟨ja_cmp3 t.gd (hA _ _ hx) (hA _ _ hy) (hA _ _ hz) (hA _ _ hw) (by simpa using hm), jt_cmp3 t.gd (hA _ _ hx) (hA _ _ hy) (hA _ _ hz) (hA _ _ hw) (by simpa using hm)⟩
    · -- Call of a name
      split at h
      · rename_i hsp
        cases h
        exact both (trSp_ok t hA hsp) fun _ => rfl
      rename_i hsp
      clear hsp
      split at h
      · rename_i ef
        subst ef
        split at h
        · split at h
          · rename_i q
            simp only [Option.map_eq_some_iff] at h
            obtain ⟨y, hy, rfl⟩ := h
            rename_i _ T _
            cases hn : tyName T with
            | some nm => exact both (ja_isi1 t.gx t.gd (glB_ok t q.2.1).1 (glB_ok t q.2.2.1).1 hn (hA _ _ hy) (starEach_ok q.1)) fun _ => rfl
            | none =>
              have hT : (∃ D, X.mg T = some (.ref D)) ∨ T = "ValueError" := by
                have q3 := q.2.2.2
                rw [hn] at q3
                simp only [Option.isSome_none, Bool.false_or, Bool.or_eq_true, beq_iff_eq] at q3
                rcases q3 with q3 | q3
                · exact .inr q3
                · exact .inl (t.cl T (by simpa using q3))
              exact both (ja_isiE t.gx t.gd (glB_ok t q.2.1).1 (glB_ok t q.2.2.1).1 (glB_ok t q.2.2.1).2 hn hT (hA _ _ hy) (starEach_ok q.1)) fun _ => rfl
          · cases h
        · cases h
      · split at h
        · rename_i hg
          simp only [Option.map_eq_some_iff] at h
          obtain ⟨xs, hx, rfl⟩ := h
          have hn := mapEs_nst hx
          rw [List.all_cons, Bool.and_eq_true] at hn
          split
          · rename_i hb
            obtain ⟨cu, hc⟩ := Option.isSome_iff_exists.mp hb
            exact both (ja_bi t.gx t.gd (glB_ok t hg).1 hc (jls_map hA hx) (starEach_ok hn.1) (back_ok hn.2)) fun _ => rfl
          · exact both (ja_call t.gx t.gd (glB_ok t hg).1 (glB_ok t hg).2 (jl_map hA hx) (starEach_ok hn.1) (back_ok hn.2)) fun _ => rfl
        · split at h
          · rename_i q
            obtain ⟨i, hi, h⟩ := Option.bind_eq_some_iff.mp h
            simp only [Option.map_eq_some_iff] at h
            obtain ⟨xs, hx, rfl⟩ := h
            have hn := mapEs_nst hx
            rw [List.all_cons, Bool.and_eq_true] at hn
            have hd := q.2
            unfold dbgs at hd
            simp only [Bool.or_eq_false_iff] at hd
            exact both (ja_callv t.gx t.gd (by rw [t.N]; exact ixOf_ok hi) (by rw [t.sc]; exact visB_ok q.1) hd.1 hd.2 (jl_map hA hx) (starEach_ok hn.1) (back_ok hn.2)) fun _ => rfl
          · cases h
    · -- a method
      rename_i o m apos es pos
      split at h
      · cases h
      · rename_i q
        simp only [not_or, Bool.not_eq_true, Bool.not_eq_false] at q
        obtain ⟨x, hx, h⟩ := Option.bind_eq_some_iff.mp h
        simp only [Option.map_eq_some_iff] at h
        obtain ⟨ys, hy, rfl⟩ := h
        obtain ⟨⟨T, id⟩, hm⟩ : ∃ p, mtab.lookup _ = some p := Option.ne_none_iff_exists'.mp (by simpa using q.2.1)
        have hn := mapEs_nst hy
        cases es with
        | nil =>
          cases hy
          exact both (ja_mt0 hm (hA _ _ hx) (base_ok q.1) q.2.2.1) fun _ => rfl
        | cons e es =>
          have hn2 := hn
          rw [List.all_cons, Bool.and_eq_true] at hn2
          refine both (ja_mt hm (hA _ _ hx) (jls_map hA hy) (base_ok q.1) q.2.2.1 ?_ (starEach_ok hn2.1) (back_ok hn2.2)) fun _ => rfl
          rw [back_all hn]
          have : (e :: es).length < 4 := by omega
          simp only [List.length_cons] at this ⊢
          simp [backToKw, keywordEach]
          omega
    · -- a subscript
      split at h
      · simp only [Option.map_eq_some_iff] at h
        obtain ⟨y, hy, rfl⟩ := h
        exact both (ja_rev (hA _ _ hy)) fun _ => rfl
      · obtain ⟨x, hx, h⟩ := Option.bind_eq_some_iff.mp h
        obtain ⟨y, hy, h⟩ := Option.bind_eq_some_iff.mp h
        simp only [Option.map_eq_some_iff] at h
        obtain ⟨z, hz, rfl⟩ := h
        exact both (ja_sl (hA _ _ hx) (trO_ok hA hy) (trO_ok hA hz)) fun _ => rfl
      · split at h
        · cases h
        · rename_i hs
          obtain ⟨x, hx, h⟩ := Option.bind_eq_some_iff.mp h
          simp only [Option.map_eq_some_iff] at h
          obtain ⟨y, hy, rfl⟩ := h
          exact both (ja_ix (hA _ _ hx) (hA _ _ hy) (plain_ok (by simpa using hs))) fun _ => rfl
    · simp only [Option.map_eq_some_iff] at h
      obtain ⟨xs, hx, rfl⟩ := h
      exact both (ja_tup (jl_map hA hx)) fun _ => rfl
    · simp only [Option.map_eq_some_iff] at h
      obtain ⟨xs, hx, rfl⟩ := h
      exact both (ja_lst (jl_map hA hx)) fun _ => rfl
    · cases h
      exact both ja_dict0 fun _ => rfl
    · split at h <;> cases h
      · exact both (ja_dic1 pe_int fun _ _ => .int _) fun _ => rfl
      · exact both (ja_dic1 pe_bl fun _ _ => .bl _) fun _ => rfl
      · exact both (ja_dic1 pe_non fun _ _ => .non) fun _ => rfl
    · simp only [Option.map_eq_some_iff] at h
      obtain ⟨r, hr, rfl⟩ := h
      have l := trLc_ok t ih hr
      exact both (ja_lc t.gd l.it l.ok l.tg l.ifs l.el l.sl l.fs) fun _ => rfl
    · obtain ⟨x, hx, h⟩ := Option.bind_eq_some_iff.mp h
      obtain ⟨y, hy, h⟩ := Option.bind_eq_some_iff.mp h
      simp only [Option.map_eq_some_iff] at h
      obtain ⟨z, hz, rfl⟩ := h
      exact ⟨ja_ife (hT _ _ hx) (hA _ _ hy) (hA _ _ hz), jt_ife (hT _ _ hx) (hT _ _ hy) (hT _ _ hz)⟩
    · cases h
end
end Ev

namespace Ev
open PySem PySem.Spec PyProof.Rows L2

def cmpScope : Expr → Option Scope
  | .ListComp _ _ s _ => some s
  | .SetComp _ _ s _ => some s
  | .DictComp _ _ _ s _ => some s
  | _ => none
def swB (sc : Scope) (v t : Expr) : Bool :=
  match cmpScope v, t with
  | some s, .Name x p => sc.names.lookup x == some .local && p.line == v.pos.line && !(s.names.any fun (n, k) => n == x && (k == .local || k == .cell))
  | _, _ => false
theorem swB_ok {env : PySem.Env} (hk : env.scope.kind = .function) {v t : Expr} {l : Nat} : swapsWith v (some t) l env = pure (swB env.scope v t) := by
  have hb : (env.blockKind == ScopeKind.function) = true := by unfold Env.blockKind; rw [hk]; rfl
  unfold swapsWith swB
  cases v <;> first | rfl | (cases t <;> first | rfl | (simp only [cmpScope, hb, Env.kindOf, Bool.true_and]))
theorem swN_ok {env : PySem.Env} {v : Expr} {l : Nat} (h : (cmpScope v).isNone = true) : swapsWith v none l env = pure false := by
  cases v <;> first | rfl | cases h
def swNames (sc : Scope) (line : Nat) (ts : List Expr) : List Str := ts.filterMap fun
  | .Name id pos => if sc.names.lookup id == some .local && pos.line == line then some id else none
  | _ => none
def swS (sc : Scope) (t v : Expr) : Option (Option (List Str)) :=
  match t, v with
  | .Tuple ts _ _, .Tuple vs _ _ =>
    if (!(ts.length == 2 || ts.length == 3) || vs.length != ts.length) = true then some none
    else if (vs.any fun | .Starred .. => true | _ => false) = true then some none
    else
      if ((swNames sc ((ts.head?.map (·.pos.line)).getD 0) ts).length != ts.length || (swNames sc ((ts.head?.map (·.pos.line)).getD 0) ts).eraseDups.length != (swNames sc ((ts.head?.map (·.pos.line)).getD 0) ts).length) = true then some none
      else if vs.all (foldedForSure 8) = true then some none
      else if vs.all (constantsAlone 8) = true then none
      else some (some (swNames sc ((ts.head?.map (·.pos.line)).getD 0) ts))
  | .List _ _, .Tuple _ _ _ => none
  | _, _ => some none
theorem swS_ok {env : PySem.Env} (hk : env.scope.kind = .function) {t v : Expr} {r : Option (List Str)} (h : swS env.scope t v = some r) : swappedStores [t] v env = pure r := by
  have hb : (env.blockKind != ScopeKind.function) = false := by unfold Env.blockKind; rw [hk]; rfl
  unfold swappedStores
  unfold swS at h
  cases t <;> first | (cases h; rfl) | skip
  all_goals (cases v <;> first | (cases h; rfl) | (cases h; done) | skip)
  · rename_i ts _ _ vs _ _
    dsimp only at h ⊢
    have e : ∀ l, (ts.filterMap fun | .Name id pos => if env.kindOf id == some .local && pos.line == l then some id else none | _ => none) = swNames env.scope l ts := fun l => rfl
    simp only [e, hb, Bool.or_false]
    split at h
    · rename_i q; cases h; exact if_pos q
    · rename_i q; refine (if_neg q).trans ?_
      split at h
      · rename_i q; cases h; exact if_pos q
      · rename_i q; refine (if_neg q).trans ?_
        split at h
        · rename_i q; cases h; exact if_pos q
        · rename_i q; refine (if_neg q).trans ?_
          split at h
          · rename_i q; cases h; exact if_pos q
          · rename_i q; refine (if_neg q).trans ?_
            split at h
            · cases h
            · rename_i q; cases h; exact if_neg q
theorem sole_one {v t : Expr} {l : Nat} {env : PySem.Env} : swapsWithSole [t] v l env = swapsWith v (some t) l env := rfl
def mapSs (f : Stmt → Sx) : List Stmt → Ss
  | [] => .nil
  | s :: r => .cons (f s) (mapSs f r)
def trPar (c : TC) (f : Expr → Option Ex) (names : List Str) (t v : Expr) : Option Sx :=
  match t, v with
  | .Tuple [.Name x _, .Name y _] _ _, .Tuple [a, b] _ _ =>
    if names = [x, y] ∧ lclB c.sc x = true ∧ lclB c.sc y = true then
      (ixOf x c.N).bind fun i => (ixOf y c.N).bind fun j => (mapEs f [a, b]).bind fun xs => if i ≠ j then some (.asg (.tup (.cons (.nm i) (.cons (.nm j) .nil))) (.tup xs)) else none
    else none
  | .Tuple [.Name x _, .Name y _, .Name z _] _ _, .Tuple [a, b, d] _ _ =>
    if names = [x, y, z] ∧ lclB c.sc x = true ∧ lclB c.sc y = true ∧ lclB c.sc z = true then
      (ixOf x c.N).bind fun i => (ixOf y c.N).bind fun j => (ixOf z c.N).bind fun l => (mapEs f [a, b, d]).bind fun xs => if i ≠ j ∧ i ≠ l ∧ j ≠ l then some (.asg (.tup (.cons (.nm i) (.cons (.nm j) (.cons (.nm l) .nil)))) (.tup xs)) else none
    else none
  | _, _ => none
def trLcA (c : TC) (n : Nat) (y : Str) (v : Expr) : Option Sx :=
  match v with
  | .ListComp elt [⟨tg, iter, ifs, 0⟩] scope _ => if lclB c.sc y = true then (ixOf y c.N).bind fun i => (trLc c (fun c => trE n c) n elt tg iter ifs scope).map fun r => .asg (.nm i) (.lc r.xe r.t r.it r.f (r.own.map (·.2))) else none
  | _ => none
def trAsg (c : TC) (n : Nat) (t v : Expr) : Option Sx :=
  match t with
  | .Name y p => if swB c.sc v (.Name y p) = true then trLcA c n y v else (trTg c n (.Name y p)).bind fun tt => (trE n c v).bind fun x => match tt with
    | .nm i => some (.asg (.nm i) x)
    | _ => none
  | .Tuple ts kt p => match swS c.sc (.Tuple ts kt p) v with
    | some none => (trTgs c n ts).bind fun tt => (trE n c v).map fun x => .asg (.tup tt) x
    | some (some names) => trPar c (trE n c) names (.Tuple ts kt p) v
    | none => none
  | .Subscript o i _ => if slcB i = true then none else (trE n c v).bind fun x => (trE n c o).bind fun y => (trE n c i).map fun z => .st y z x
  | _ => none
def strB : Expr → Bool
  | .Constant (.str _) _ _ => true
  | _ => false
def trRaise (c : TC) (e : Expr) : Option Sx :=
  match e with
  | .Call (.Name x _) [.Constant (.str _) _ _] [] _ => if glB c.sc x = true then some (.raise x .nil) else none
  | _ => none
/-- what a clause's suite may be -/
def trHE (c : TC) : Expr → Option Ex
  | .Name x _ => if dbgs x = true ∨ visB c.sc x = false then none else (ixOf x c.N).map .v
  | .Constant v _ _ => match v with
    | .int i => some (.c (.int i))
    | .bool b => some (.c (.bl b))
    | .none => some (.c .non)
    | .str s => some (.c (.str s))
    | _ => none
  | _ => none
def trH (c : TC) (s : Stmt) : Sx :=
  match s with
  | .Pass _ => .pass
  | .Return (some e) _ => match trHE c e with
    | some x => .ret x
    | none => .nev
  | .Assign [.Name y _] e _ => if locB c.sc y = true ∧ (c.fb y || lclB c.sc y) = true then
      match trHE c e, ixOf y c.N with
      | some x, some i => .asg (.nm i) x
      | _, _ => .nev
    else .nev
  | _ => .nev
def trS : Nat → TC → Stmt → Sx
  | 0, _, _ => .nev
  | n + 1, c, s =>
    match s with
    | .Pass _ => .pass
    | .Break _ => .brk
    | .Continue _ => .cont
    | .Return none _ => .ret0
    | .Return (some e) _ => match trE n c e with
      | some x => .ret x
      | none => .nev
    | .Expr e _ => if strB e = true then .pass else if (cmpScope e).isNone = true then (match trE n c e with
      | some x => .ex x
      | none => .nev) else .nev
    | .If t a b _ => match trE n c t with
      | some x => .ife x (mapSs (trS n c) a) (mapSs (trS n c) b)
      | none => .nev
    | .For tg iter body [] _ => if setB iter = true then .nev else match trIt c (trE n c) tg iter, trTg c n tg with
      | some it, some t => .for t it (mapSs (trS n c) body)
      | _, _ => .nev
    | .While t body [] _ => match trE n c t with
      | some x => .whl x (mapSs (trS n c) body)
      | none => .nev
    | .Raise (some e) none _ => (trRaise c e).getD .nev
    | .Try body [.ExceptHandler (some (.Name x _)) (some y) (b :: suite) _] [] [] _ =>
      if glB c.sc x = true ∧ c.cl.contains x = true ∧ lclB c.sc y = true then
        match ixOf y c.N with
        | some i => .try (mapSs (trS n c) body) x i (mapSs (trH c) (b :: suite))
        | none => .nev
      else .nev
    | .Assign [t] v _ => (trAsg c n t v).getD .nev
    | _ => .nev
section
variable {X : Cx} {k : Nat} {G : Gam} {c : TC}
theorem mapSs_ok {f : Stmt → Sx} (hf : ∀ s, JS X (fun env st => evS G (f s) env st) s) : ∀ ss, JSs X (fun env st => evSs G (mapSs f ss) env st) ss
  | [] => jss_nil
  | s :: r => jss_cons (hf s) (mapSs_ok hf r)
theorem trPar_ok (t : Tr X k G c) (hk : c.sc.kind = .function) {f : Expr → Option Ex} (hf : ∀ e x, f e = some x → JA X (fun env st => evA G env x st) e) {names : List Str} {tt v : Expr} {s : Sx} {pos : Pos} (hw : swappedStores [tt] v X.env = pure (some names)) (hs : swapsWithSole [tt] v pos.line X.env = pure false)
    (h : trPar c f names tt v = some s) : JS X (fun env st => evS G s env st) (.Assign [tt] v pos) := by
  unfold trPar at h
  split at h
  · split at h
    · rename_i q
      obtain ⟨rfl, q1, q2⟩ := q
      obtain ⟨i, hi, h⟩ := Option.bind_eq_some_iff.mp h
      obtain ⟨j, hj, h⟩ := Option.bind_eq_some_iff.mp h
      obtain ⟨xs, hx, h⟩ := Option.bind_eq_some_iff.mp h
      split at h
      · rename_i ne
        cases h
        exact js_par t.gd (by rw [t.N]; exact ixOf_ok hi) (by rw [t.N]; exact ixOf_ok hj) ne (by rw [t.sc]; exact lclB_ok q1) (by rw [t.sc]; exact lclB_ok q2) (jl_map hf hx) hw hs
      · cases h
    · cases h
  · split at h
    · rename_i q
      obtain ⟨rfl, q1, q2, q3⟩ := q
      obtain ⟨i, hi, h⟩ := Option.bind_eq_some_iff.mp h
      obtain ⟨j, hj, h⟩ := Option.bind_eq_some_iff.mp h
      obtain ⟨l, hl, h⟩ := Option.bind_eq_some_iff.mp h
      obtain ⟨xs, hx, h⟩ := Option.bind_eq_some_iff.mp h
      split at h
      · rename_i ne
        cases h
        exact js_par3 t.gd (by rw [t.N]; exact ixOf_ok hi) (by rw [t.N]; exact ixOf_ok hj) (by rw [t.N]; exact ixOf_ok hl) ne.1 ne.2.1 ne.2.2 (by rw [t.sc]; exact lclB_ok q1) (by rw [t.sc]; exact lclB_ok q2) (by rw [t.sc]; exact lclB_ok q3) (jl_map hf hx) hw hs
      · cases h
    · cases h
  · cases h
theorem trAsg_ok (t : Tr X k G c) (hk : c.sc.kind = .function) {n : Nat} {tt v : Expr} {s : Sx} {pos : Pos} (h : trAsg c n tt v = some s) : JS X (fun env st => evS G s env st) (.Assign [tt] v pos) := by
  have hk' : X.env.scope.kind = .function := by rw [t.sc]; exact hk
  have hA : ∀ e x, trE n c e = some x → JA X (fun env st => evA G env x st) e := fun e x h => (trE_ok n X c t e x h).1
  unfold trAsg at h
  split at h
  · rename_i y p
    split at h
    · rename_i hsw
      unfold trLcA at h
      split at h
      · split at h
        · rename_i hl
          obtain ⟨i, hi, h⟩ := Option.bind_eq_some_iff.mp h
          simp only [Option.map_eq_some_iff] at h
          obtain ⟨r, hr, rfl⟩ := h
          have l := trLc_ok t (trE_ok n) hr
          exact js_setLc t.gd (by rw [t.N]; exact ixOf_ok hi) (by rw [t.sc]; exact lclB_ok hl) (by rw [swB_ok hk', t.sc, hsw]) l.it l.ok l.tg l.ifs l.el l.sl l.fs
        · cases h
      · cases h
    · rename_i hsw
      obtain ⟨ty, h1, h⟩ := Option.bind_eq_some_iff.mp h
      obtain ⟨x, h2, h⟩ := Option.bind_eq_some_iff.mp h
      split at h
      · cases h
        have g := (trTg_ok t n).1 _ _ h1
        exact js_asg (hA _ _ h2) g (by
          rw [sole_one, swB_ok hk', t.sc]
          simp only [Bool.not_eq_true] at hsw
          rw [hsw]) (swS_ok hk' (by simp [swS])) rfl
      · cases h
  · rename_i ts kt p
    have hs : swapsWithSole [.Tuple ts kt p] v pos.line X.env = pure false := by
      rw [sole_one, swB_ok hk']
      unfold swB
      cases cmpScope v <;> rfl
    split at h
    · rename_i hw
      obtain ⟨xs, h1, h⟩ := Option.bind_eq_some_iff.mp h
      simp only [Option.map_eq_some_iff] at h
      obtain ⟨x, h2, rfl⟩ := h
      obtain ⟨g1, g2, g3⟩ := (trTg_ok t n).2 _ _ h1
      exact js_un (hA _ _ h2) (jg_un t.gd.calm g1 g2 g3) hs (swS_ok hk' (by rw [t.sc]; exact hw)) rfl
    · rename_i names hw
      exact trPar_ok t hk hA (swS_ok hk' (by rw [t.sc]; exact hw)) hs h
    · cases h
  · rename_i o i p
    split at h
    · cases h
    · rename_i hsl
      obtain ⟨x, h1, h⟩ := Option.bind_eq_some_iff.mp h
      obtain ⟨y, h2, h⟩ := Option.bind_eq_some_iff.mp h
      simp only [Option.map_eq_some_iff] at h
      obtain ⟨z, h3, rfl⟩ := h
      refine js_st (hA _ _ h1) (hA _ _ h2) (hA _ _ h3) ?_ ?_ (swS_ok hk' (by simp [swS])) rfl
      · intro v
        cases i <;> first | rfl | exact absurd rfl hsl
      · rw [sole_one, swB_ok hk']
        unfold swB
        cases cmpScope v <;> rfl
  · cases h
structure Tr0 (X : Cx) (c : TC) : Prop where
  N : X.N = c.N
  sc : X.env.scope = c.sc
  fb : ∀ x, c.fb x = true → X.fn x = true
  nd : X.N.Nodup
theorem trHE_ok (t : Tr0 X c) {e : Expr} {x : Ex} (h : trHE c e = some x) : JA X (fun env st => evA G env x st) e := by
  unfold trHE at h
  split at h
  · split at h
    · cases h
    · rename_i hd
      simp only [not_or, Bool.not_eq_true, Bool.not_eq_false] at hd
      obtain ⟨h1, h2⟩ := hd
      unfold dbgs at h1
      simp only [Bool.or_eq_false_iff] at h1
      simp only [Option.map_eq_some_iff] at h
      obtain ⟨i, h, rfl⟩ := h
      exact ja_v (by rw [t.N]; exact ixOf_ok h) (by rw [t.sc]; exact visB_ok h2) h1.1 h1.2
  · split at h <;> cases h
    · exact ja_int
    · exact ja_bl
    · exact ja_non
    · exact ja_str
  · cases h
theorem trHE_cmp {e : Expr} {x : Ex} (h : trHE c e = some x) : cmpScope e = none := by
  unfold trHE at h
  split at h
  · rfl
  · rfl
  · cases h
theorem trH_ok (t : Tr0 X c) (hk : c.sc.kind = .function) (s : Stmt) : JS X (fun env st => evS G (trH c s) env st) s := by
  have hk' : X.env.scope.kind = .function := by rw [t.sc]; exact hk
  unfold trH
  split
  · exact js_pass
  · split
    · rename_i q; exact js_ret (trHE_ok t q)
    · exact js_nev
  · split
    · rename_i q
      split
      · rename_i h1 h2
        refine js_asg (trHE_ok t h1) (jg_nm t.nd (by rw [t.N]; exact ixOf_ok h2) (by rw [t.sc]; exact locB_ok q.1) ?_) ?_ (swS_ok hk' (by simp [swS])) rfl
        · rw [t.sc]
          rcases Bool.or_eq_true_iff.mp q.2 with q | q
          · exact .inl (t.fb _ q)
          · exact .inr (lclB_ok q)
        · rw [sole_one, swB_ok hk']
          unfold swB
          rw [trHE_cmp h1]
      · exact js_nev
    · exact js_nev
  · exact js_nev
structure TrX (X : Cx) : Prop where
  ex : X.ex = []
  stk : X.stack = X.env :: X.outer
  frm : X.env.frame = some X.env.locals
theorem trS_ok (hk : c.sc.kind = .function) : ∀ n X, Tr X k G c → TrX X → ∀ s, JS X (fun env st => evS G (trS n c s) env st) s
  | 0, X, t, tx, s => by simp only [trS]; exact js_nev
  | n + 1, X, t, tx, s => by
    have ih := trS_ok hk n X t tx
    have hA : ∀ e x, trE n c e = some x → JA X (fun env st => evA G env x st) e := fun e x h => (trE_ok n X c t e x h).1
    have hT : ∀ e x, trE n c e = some x → JT X (fun env st => tst G env x st) e := fun e x h => (trE_ok n X c t e x h).2
    unfold trS
    split
    · exact js_pass
    · exact js_brk
    · exact js_cont
    · exact js_ret0
    · split
      · rename_i q; exact js_ret (hA _ _ q)
      · exact js_nev
    · rename_i e pos
      split
      · rename_i q
        cases e <;> first | cases q | skip
        rename_i v _ _
        cases v <;> first | exact js_doc | cases q
      · split
        · rename_i q
          split
          · rename_i q2; exact js_ex (hA _ _ q2) (swN_ok q)
          · exact js_nev
        · exact js_nev
    · split
      · rename_i q; exact js_if (hT _ _ q) (mapSs_ok ih _) (mapSs_ok ih _)
      · exact js_nev
    · split
      · exact js_nev
      · rename_i hs
        split
        · rename_i q1 q2
          exact js_for t.gd (trIt_ok t hA q1) ((trTg_ok t n).1 _ _ q2) (mapSs_ok ih _) (fold_ok (by simpa using hs))
        · exact js_nev
    · split
      · rename_i q; exact js_whl t.gd (hT _ _ q) (mapSs_ok ih _)
      · exact js_nev
    · rename_i e pos
      cases q : trRaise c e with
      | none => exact js_nev
      | some s =>
        unfold trRaise at q
        split at q
        · split at q
          · rename_i hg
            cases q
            exact js_raise t.gx t.gd (glB_ok t hg).1 (glB_ok t hg).2
          · cases q
        · cases q
    · split
      · rename_i q
        split
        · rename_i i hi
          refine js_try t.gx t.gd tx.ex tx.stk tx.frm (by rw [t.N]; exact ixOf_ok hi) ?_ (t.cl _ (by simpa using q.2.1)) (glB_ok t q.1).1 (glB_ok t q.1).2 ?_ ?_
          · show X.env.scope.names.lookup _ = _
            rw [t.sc]; exact lclB_ok q.2.2
          · intro pn xe hp
            exact mapSs_ok (trS_ok hk n (X.tr pn xe) ⟨t.N, t.sc, t.fb, ⟨t.gd.calm, t.gd.nd, t.gd.room, hp⟩, t.gx, t.cl⟩ ⟨tx.ex, tx.stk, tx.frm⟩) _
          · intro a pn
            exact mapSs_ok (X := X.suite a pn) (trH_ok (X := X.suite a pn) ⟨t.N, t.sc, t.fb, t.gd.nd⟩ hk) (_ :: _)
        · exact js_nev
      · exact js_nev
    · rename_i tt v pos
      cases q : trAsg c n tt v with
      | none => exact js_nev
      | some s => exact trAsg_ok t hk q
    · exact js_nev
end
end Ev

namespace Ev
open PySem PySem.Spec PyProof.Rows L2

/-! ### defs -/
section
variable {P : Program} {w : World} {K : PySem.W.Frag} {mg : Str → Option Value} {base : Heap} {k : Nat} {G : Gam}
abbrev trD (n : Nat) (N : List Str) (cl : List Str) (st : Stmt) : Ss := mapSs (trS n ⟨N, defScope st, fun _ => true, cl⟩) (defBody st)
theorem start_env {H : Hp} {ρ : List Addr} {N : List Str} {xs : List D} {vs : List V} (h : RDs K mg H ρ xs vs) : REnv K mg H ρ (xs.map some ++ List.replicate (N.length - xs.length) none) (L2.start N vs) := by
  have hl := h.length
  refine ⟨by simp [L2.start, hl], fun i x q => ?_⟩
  by_cases hi : i < xs.length
  · rw [List.getElem?_append_left (by simpa using hi), List.getElem?_map] at q
    simp only [Option.map_eq_some_iff] at q
    obtain ⟨y, hy, e⟩ := q
    cases e
    obtain ⟨v, h1, h2⟩ := h.get hy
    refine ⟨v, ?_, h2⟩
    unfold L2.start
    rw [List.getElem?_append_left (by simpa [← hl] using hi), List.getElem?_map, h1]
    rfl
  · rw [List.getElem?_append_right (by simpa using hi)] at q
    rw [List.getElem?_replicate] at q
    split at q <;> cases q
theorem fn_ev {x qual : Str} {st : Stmt} {f : Addr} {fd : FuncData} {N ps : List Str} (F : L2.Fun K x qual st f fd) (S : FnScope N ps (defScope st)) (gx : GOk P w K mg base k G) (n : Nat) :
    FnOk P w K mg base (L2.CX P w) (k + 1) f fd ps (spD K mg ps.length (evF G ps.length N.length (trD n N G.cl st))) := by
  refine F.okX S (fun vs H Q E h => h.1) fun cdv A outer s H vs Q E hr hsp => ?_
  have t : Tr (cxOf (L2.CX P w) P w K mg base N qual (defScope st) f cdv A outer s H E) k G ⟨N, defScope st, fun _ => true, G.cl⟩ := ⟨rfl, rfl, fun _ _ => rfl, ⟨rfl, S.nd, hr, passes_of rfl⟩, gx, gx.cl⟩
  refine ⟨_, mapSs_ok (trS_ok S.kind n _ t ⟨rfl, rfl, rfl⟩) (defBody st) _ (takes_of rfl rfl rfl rfl), ?_⟩
  obtain ⟨hl, ρ, xs, st0, hx, hs, h⟩ := hsp
  refine ⟨ρ, _, st0, start_env hx, hs, ?_⟩
  unfold evF at h
  split at h
  · show KS K mg _ _ H ρ (evSs G (trD n N G.cl st) (xs.map some ++ List.replicate (N.length - xs.length) none) st0)
    cases q : evSs G (trD n N G.cl st) (xs.map some ++ List.replicate (N.length - xs.length) none) st0 with
    | bad => rw [q] at h; exact h.elim
    | exc c fs e st1 =>
      rw [q] at h
      exact fun cls d σ' H' ρ' e1 s1 _ r1 => h cls d H' ρ' e1 s1 r1
    | ok fl e st1 =>
      rw [q] at h
      cases fl with
      | nx => exact fun σ' H' ρ' e1 s1 _ => h _ H' ρ' e1 s1 .non
      | rt d => exact fun v H' ρ' e1 s1 r1 => h v H' ρ' e1 s1 r1
      | bk => exact h.elim
      | ct => exact h.elim
  · exact h.elim
def Gam.add (G : Gam) (f : Str) (F : List D → M D) : Gam := { G with fn := fun x => if x = f then some F else G.fn x }
theorem Gam.add_same {G : Gam} {f : Str} {F : List D → M D} : (G.add f F).fn f = some F := by simp [Gam.add]
theorem Gam.add_ne {G : Gam} {f x : Str} {F : List D → M D} (h : x ≠ f) : (G.add f F).fn x = G.fn x := by simp [Gam.add, h]
theorem evF_arity {m n : Nat} {b : Ss} {xs : List D} {st : Stt} (h : ∃ z, evF G m n b xs st = z ∧ z ≠ .bad) : xs.length = m := by
  obtain ⟨z, h, hz⟩ := h
  unfold evF at h
  split at h
  · assumption
  · exact absurd h.symm hz
theorem GOk.mono {j : Nat} (gx : GOk P w K mg base j G) (h : j ≤ k) : GOk P w K mg base k G :=
  ⟨fun f F q => let ⟨a, fd, ps, h1, h2, h3, h4, h5⟩ := gx.fn f F q; ⟨a, fd, ps, h1, h2, h3, h4.mono h, h5⟩, gx.gc, gx.bt, gx.xc, gx.ist, gx.cl, gx.sub⟩
theorem GOk.add {x qual : Str} {st : Stmt} {f : Addr} {fd : FuncData} {N ps : List Str} (gx : GOk P w K mg base k G) (F : L2.Fun K x qual st f fd) (S : FnScope N ps (defScope st)) (n : Nat) (y : Str) (hm : mg y = some (.ref f)) (hb : Binds K fd ps []) {b : Ss} (e : trD n N G.cl st = b) :
    GOk P w K mg base (k + 1) (G.add y (evF G ps.length N.length b)) := by
  subst e
  refine ⟨fun g F' q => ?_, gx.gc, gx.bt, gx.xc, gx.ist, gx.cl, gx.sub⟩
  by_cases hg : g = y
  · subst hg
    rw [Gam.add_same] at q
    cases q
    exact ⟨f, fd, ps, hm, F.kp, hb, fn_ev F S gx n, fun xs st h => evF_arity h⟩
  · rw [Gam.add_ne hg] at q
    exact (gx.mono (Nat.le_succ k)).fn g F' q
theorem GOk.base0 (bt : ∀ x ∈ allB, mg x = none) : GOk P w K mg base k {} where
  fn := fun f F q => by cases q
  gc := fun x d q => by cases q
  bt := bt
  xc := fun c q => by cases q
  sub := fun c' c b q => by cases q
  ist := fun c' c b q => by cases q
  cl := fun c h => by cases h
end

/-! ### the end: a law's walk -/
def spLaw (K : PySem.W.Frag) : Sp := fun vs H Q _ => ∃ (a : Addr) (ns : List Int), vs = [.ref a] ∧ SqL K H a (ns.map V.int) ∧ ns.length ≤ 63 ∧ ∀ H', Q (.bl true) H'
section
variable {K : PySem.W.Frag} {mg : Str → Option Value} {H : Hp} {ρ : List Addr}
theorem rds_ints : ∀ {ns : List Int}, RDs K mg H ρ (ns.map D.int) (ns.map V.int)
  | [] => .nil
  | _ :: _ => .cons (.int _) rds_ints
/-- a law whose run, from whatever store, ends with True -/
theorem law_sp {F : List D → M D} (h : ∀ (d : D) (st : Stt) (ns : List Int), lstOf st (.d d) = some (ns.map D.int) → ns.length ≤ 63 → ∃ st', F [d] st = .ok (.bl true) st') :
    ∀ vs H Q E, spLaw K vs H Q E → spD K mg 1 F vs H Q E := by
  rintro vs H Q E ⟨a, ns, rfl, hS, hl, q⟩
  refine ⟨rfl, ?_⟩
  have fin : ∀ {ρ : List Addr} {d : D} {st : Stt}, lstOf st (.d d) = some (ns.map D.int) → KR K mg (rD K mg) (fun cls d _ H' => E cls d H') [] Q H ρ (F [d] st) := fun {ρ d st} e => by
    obtain ⟨st', h⟩ := h d st ns e hl
    rw [h]
    intro b H' ρ' _ _ r
    cases r
    exact q H'
  rcases hS with (hS | ⟨o, hS⟩) | hS
  · refine ⟨[a], [.loc 0], [.lst (ns.map D.int)], .cons (.loc rfl) .nil, ⟨rfl, by simp, fun l b o h1 h2 => ?_⟩, fin rfl⟩
    cases l with
    | zero =>
      cases h1; cases h2
      exact .lst hS rds_ints
    | succ l => simp at h1
  · exact ⟨[], [.rol (ns.map D.int)], [], .cons (.rol (.inl ⟨o, hS⟩) rds_ints) .nil, ⟨rfl, by simp, fun l b o h1 h2 => by simp at h1⟩, fin rfl⟩
  · exact ⟨[], [.rol (ns.map D.int)], [], .cons (.rol (.inr hS) rds_ints) .nil, ⟨rfl, by simp, fun l b o h1 h2 => by simp at h1⟩, fin rfl⟩
end
end Ev
namespace Ev
open PySem PySem.Spec PyProof.Rows L2
theorem cx_none {P : Program} {w : World} {o : List PySem.Env} {H : Hp} {s s' : Shared} {e : Value} (h : L2.CX P w o H s (fun _ _ _ => False) e s') : False := by
  obtain ⟨_, _, _, _, _, _, _, _, _, _, _, _, h⟩ := h
  exact h
def scopeB (N ps : List Str) (sc : Scope) : Bool :=
  (match sc.kind with | .function => true | _ => false) && !sc.isCoroutine && !sc.isGenerator && decide N.Nodup && decide (N.take ps.length = ps) && (ps.all fun x => locB sc x) && sc.names.all fun y => match y.2 with
    | .free => false
    | _ => true
theorem scope_by {N ps : List Str} {sc : Scope} (h : scopeB N ps sc = true) : FnScope N ps sc := by
  unfold scopeB at h
  simp only [Bool.and_eq_true, decide_eq_true_eq, List.all_eq_true, Bool.not_eq_true'] at h
  obtain ⟨⟨⟨⟨⟨⟨h1, h2⟩, h3⟩, h4⟩, h5⟩, h6⟩, h7⟩ := h
  refine ⟨?_, h2, h3, h4, h5, fun x hx => locB_ok (h6 x hx), fun y hy e => ?_⟩
  · split at h1
    · rename_i q; exact q
    · cases h1
  · have := h7 y hy
    rw [e] at this
    cases this
end Ev
namespace Ev
open PySem PySem.Spec PyProof.Rows L2
/-! ### exception classes of the program -/
def AllL {α : Type} (P : α → Prop) : List α → Prop
  | [] => True
  | x :: r => P x ∧ AllL P r
theorem AllL.mem {α : Type} {P : α → Prop} : ∀ {l : List α}, AllL P l → ∀ x ∈ l, P x
  | y :: r, h, x, hx => by
    rcases List.mem_cons.mp hx with e | hx
    · rw [e]; exact h.1
    · exact AllL.mem h.2 x hx
structure ClsF (K : PySem.W.Frag) (mg : Str → Option Value) (c : Str) (C : Addr) : Prop where
  g : mg c = some (.ref C)
  sb : PySem.W.subIn K (.ref C) (.type "BaseException") = some true
  hd : PySem.W.hasDictIn K C = true
  ty : PySem.W.typeIn K (.ref C) = some (.type "type")
structure RaiF (K : PySem.W.Frag) (mg : Str → Option Value) (c : Str) (C : Addr) : Prop extends ClsF K mg c C where
  kp : PySem.W.keepIn K (.ref C) = true
  ex : PySem.W.excIn K C [.type "ValueError", .type "Exception", .type "BaseException", .type "object"] "ValueError.__new__" = true
section
variable {K : PySem.W.Frag} {mg : Str → Option Value} {C D : Addr} {c e : Str} {b : Bool}
theorem kit_cls (FD : ClsF K mg c D) (h : PySem.W.subIn K (.ref C) (.ref D) = some b) (hb : C = D → b = true) : PySem.W.kitOne K (.ref C) (.ref D) = some b := by
  unfold PySem.W.kitOne
  by_cases z : ((Value.ref C : Value) == Value.ref D) = true
  · rw [if_pos z, hb (Value.ref.inj (beq_iff_eq.mp z))]
  · rw [if_neg z]
    unfold PySem.W.kitCls
    obtain ⟨cd, hc, _⟩ := PySem.W.any_some FD.hd
    have e1 : ((PySem.W.clsIn K D).isSome && PySem.W.typeIn K (.ref D) == some (.type "type")) = true := by rw [hc, FD.ty] <;> rfl
    simp only [e1, if_true]
    exact h
theorem kit_val (h : PySem.W.subIn K (.ref C) (.type "ValueError") = some b) : PySem.W.kitOne K (.ref C) (.type "ValueError") = some b := by
  unfold PySem.W.kitOne
  rw [if_neg (by intro z; cases beq_iff_eq.mp z)]
  unfold PySem.W.kitCls
  have e1 : PySem.W.kitMeta "ValueError" = true := by decide +kernel
  simp only [e1, if_true]
  exact h
end
def tab2 (t : List (Str × Str × Bool)) (a b : Str) : Option Bool := (t.find? fun p => decide (p.1 = a) && decide (p.2.1 = b)).map (·.2.2)
theorem tab2_ok {t : List (Str × Str × Bool)} {a b : Str} {r : Bool} (h : tab2 t a b = some r) : (a, b, r) ∈ t := by
  unfold tab2 at h
  simp only [Option.map_eq_some_iff] at h
  obtain ⟨⟨x, y, z⟩, h1, h2⟩ := h
  have h3 := List.find?_some h1
  simp only [Bool.and_eq_true, decide_eq_true_eq] at h3
  obtain ⟨rfl, rfl⟩ := h3
  simp only at h2
  subst h2
  exact List.mem_of_find?_eq_some h1
/-- the first context: which classes there are, which are raised, how they lie -/
def gam0 (cl xs : List Str) (subs ists : List (Str × Str × Bool)) : Gam := { xc := fun c => decide (c ∈ xs), sub := tab2 subs, ist := tab2 ists, cl := cl }
theorem GOk.base1 {P : Program} {w : World} {K : PySem.W.Frag} {mg : Str → Option Value} {base : Heap} {k : Nat} {cl xs : List Str} {subs ists : List (Str × Str × Bool)} (bt : ∀ x ∈ allB, mg x = none)
    (hcl : AllL (fun c => ∃ C, ClsF K mg c C) cl) (hxs : AllL (fun c => ∃ C, RaiF K mg c C) xs)
    (hsub : AllL (fun t => ∃ C D, ClsF K mg t.1 C ∧ ClsF K mg t.2.1 D ∧ PySem.W.subIn K (.ref C) (.ref D) = some t.2.2) subs)
    (hist : AllL (fun t => ∃ C, ClsF K mg t.1 C ∧ ExcC K C ∧ ((∃ D, ClsF K mg t.2.1 D ∧ PySem.W.subIn K (.ref C) (.ref D) = some t.2.2 ∧ (C = D → t.2.2 = true)) ∨ (t.2.1 = ("ValueError" : Str) ∧ PySem.W.subIn K (.ref C) (.type "ValueError") = some t.2.2))) ists) :
    GOk P w K mg base k (gam0 cl xs subs ists) where
  fn := fun f F q => by cases q
  gc := fun x d q => by cases q
  bt := bt
  xc := fun c h => by
    obtain ⟨C, h⟩ := hxs.mem c (of_decide_eq_true h)
    exact ⟨C, _, _, _, _, h.g, h.kp, PySem.F.excBase_ValueError, h.ex, h.sb, h.ty⟩
  sub := fun c' c b h => by
    obtain ⟨C, D, h1, h2, h3⟩ := hsub.mem _ (tab2_ok h)
    exact ⟨C, D, h1.g, h2.g, PySem.W.exm_ref h2.sb h2.hd h2.ty h3⟩
  ist := fun e c b h => by
    obtain ⟨C, h1, hE, h2⟩ := hist.mem _ (tab2_ok h)
    refine ⟨C, h1.g, hE, ?_⟩
    rcases h2 with ⟨D, h2, h3, h4⟩ | ⟨h2, h3⟩
    · exact .inl ⟨D, h2.g, kit_cls h2 h3 h4⟩
    · exact .inr ⟨h2, kit_val h3⟩
  cl := fun c h => by
    obtain ⟨C, h⟩ := hcl.mem c h
    exact ⟨C, h.g⟩
end Ev
namespace Ev
open PySem PySem.Spec PyProof.Rows L2
/-! ### a def that calls itself -/
noncomputable def recF (G : Gam) (f : Str) (m n : Nat) (b : Ss) : Nat → List D → M D
  | 0 => fun _ _ => .bad
  | d + 1 => evF (G.add f (recF G f m n b d)) m n b
theorem Gam.add_add {G : Gam} {f : Str} {A B : List D → M D} : (G.add f A).add f B = G.add f B := by
  unfold Gam.add
  congr 1
  funext x
  by_cases h : x = f <;> simp [h]
section
variable {P : Program} {w : World} {K : PySem.W.Frag} {mg : Str → Option Value} {base : Heap} {k : Nat} {G : Gam}
theorem GOk.addRec {x qual : Str} {st : Stmt} {f : Addr} {fd : FuncData} {N ps : List Str} (gx : GOk P w K mg base k G) (F : L2.Fun K x qual st f fd) (S : FnScope N ps (defScope st)) (n : Nat) (y : Str) (hm : mg y = some (.ref f)) (hb : Binds K fd ps []) {b : Ss} (e : trD n N G.cl st = b) :
    ∀ d, GOk P w K mg base (k + d) (G.add y (recF G y ps.length N.length b d))
  | 0 => by
    refine ⟨fun g F' q => ?_, gx.gc, gx.bt, gx.xc, gx.ist, gx.cl, gx.sub⟩
    by_cases hg : g = y
    · subst hg
      rw [Gam.add_same] at q
      cases q
      refine ⟨f, fd, ps, hm, F.kp, hb, ⟨fun vs H Q E h => h.1, fun A outer s H args us vs Q E hr e0 hbd r hsp => ?_⟩, fun xs st h => ?_⟩
      · obtain ⟨_, ρ, xs, st, _, _, h⟩ := hsp
        exact h.elim
      · obtain ⟨z, h1, h2⟩ := h
        exact absurd h1.symm h2
    · rw [Gam.add_ne hg] at q
      exact gx.fn g F' q
  | d + 1 => by
    have ih := GOk.addRec gx F S n y hm hb e d
    have := ih.add F S n y hm hb (b := b) e
    rw [Gam.add_add] at this
    exact this
end
end Ev

namespace Ev
open PySem PySem.Spec PyProof.Rows L2

/-! ### what is wanted of a run -/
def Wp {α : Type} (m : Rs α) (Q : α → Stt → Prop) (E : Str → List D → Stt → Prop) : Prop := match m with
  | .ok a s => Q a s
  | .exc c fs s => E c fs s
  | .bad => False
def Ws (m : Rf) (N : Env → Stt → Prop) (R : D → Stt → Prop) (E : Str → List D → Env → Stt → Prop) : Prop := match m with
  | .ok .nx e s => N e s
  | .ok (.rt d) _ s => R d s
  | .exc c fs e s => E c fs e s
  | _ => False
section
variable {α β : Type} {G : Gam} {st : Stt} {env : Env} {Q : α → Stt → Prop} {QA : A → Stt → Prop} {N : Env → Stt → Prop} {R : D → Stt → Prop} {E : Str → List D → Stt → Prop} {Ee : Str → List D → Env → Stt → Prop}
theorem wp_ok {a : α} : Wp (.ok a st) Q E = Q a st := rfl
theorem wp_exc {c : Str} {fs : List D} : Wp (.exc c fs st : Rs α) Q E = E c fs st := rfl
theorem wp_bind {m : Rs β} {k : β → M α} : Wp (m.bind k) Q E = Wp m (fun a s => Wp (k a s) Q E) E := by cases m <;> rfl
theorem wp_ite {c : Prop} [Decidable c] {a b : Rs α} : Wp (if c then a else b) Q E = if c then Wp a Q E else Wp b Q E := by split <;> rfl
theorem ws_ite {c : Prop} [Decidable c] {a b : Rf} : Ws (if c then a else b) N R Ee = if c then Ws a N R Ee else Ws b N R Ee := by split <;> rfl
theorem wp_some {a : α} : Wp (ofO (some a) st) Q E = Q a st := rfl
theorem wp_mono {m : Rs α} {Q' : α → Stt → Prop} {E' : Str → List D → Stt → Prop} (h : Wp m Q E) (hq : ∀ a s, Q a s → Q' a s) (he : ∀ c fs s, E c fs s → E' c fs s) : Wp m Q' E' := by
  cases m with
  | ok a s => exact hq _ _ h
  | exc c fs s => exact he _ _ _ h
  | bad => exact h
theorem wp_eq {m : Rs α} {a : α} {s : Stt} (h : m = .ok a s) : Wp m Q E = Q a s := by rw [h]; rfl
theorem ws_then {m : Rs α} {k : α → Stt → Rf} : Ws (m.then env k) N R Ee = Wp m (fun a s => Ws (k a s) N R Ee) (fun c fs s => Ee c fs env s) := by cases m <;> rfl
theorem ws_nx : Ws (.ok .nx env st) N R Ee = N env st := rfl
theorem ws_rt {d : D} : Ws (.ok (.rt d) env st) N R Ee = R d st := rfl
theorem ws_exc {c : Str} {fs : List D} : Ws (.exc c fs env st) N R Ee = Ee c fs env st := rfl
theorem ws_mono {m : Rf} {N' : Env → Stt → Prop} {R' : D → Stt → Prop} {E' : Str → List D → Env → Stt → Prop} (h : Ws m N R Ee) (hn : ∀ e s, N e s → N' e s) (hr : ∀ d s, R d s → R' d s) (he : ∀ c fs e s, Ee c fs e s → E' c fs e s) : Ws m N' R' E' := by
  cases m with
  | ok f e s => cases f with
    | nx => exact hn _ _ h
    | rt d => exact hr _ _ h
    | bk => exact h
    | ct => exact h
  | exc c fs e s => exact he _ _ _ _ h
  | bad => exact h
theorem ws_nil : Ws (evSs G .nil env st) N R Ee = N env st := by simp only [evSs]; rfl
theorem ws_cons {s : Sx} {r : Ss} : Ws (evSs G (.cons s r) env st) N R Ee = Ws (evS G s env st) (fun e st => Ws (evSs G r e st) N R Ee) R Ee := by
  simp only [evSs]
  cases evS G s env st with
  | ok f e s => cases f <;> rfl
  | exc c fs e s => rfl
  | bad => rfl
theorem ws_asg {i : Nat} {x : Ex} : Ws (evS G (.asg (.nm i) x) env st) N R Ee = Wp (evA G env x st) (fun a s => Wp (allocA a s) (fun d s => i < env.length ∧ N (env.set i (some d)) s) (fun c fs s => Ee c fs env s)) (fun c fs s => Ee c fs env s) := by
  rw [evS_nm, ws_then]
  unfold evE
  rw [wp_bind]
  congr 1; funext a s; congr 1; funext d s
  simp only [asgD]
  by_cases h : i < env.length
  · simp only [h, if_true, ws_nx, true_and]
  · simp only [h, if_false, false_and]; rfl
theorem ws_ret {x : Ex} : Ws (evS G (.ret x) env st) N R Ee = Wp (evA G env x st) (fun a s => Wp (allocA a s) R (fun c fs s => Ee c fs env s)) (fun c fs s => Ee c fs env s) := by
  simp only [evS, ws_then, evE, wp_bind, ws_rt]
theorem ws_ret0 : Ws (evS G .ret0 env st) N R Ee = R .non st := by simp only [evS, ws_rt]
theorem ws_pass : Ws (evS G .pass env st) N R Ee = N env st := by simp only [evS, ws_nx]
theorem ws_ex {x : Ex} : Ws (evS G (.ex x) env st) N R Ee = Wp (evA G env x st) (fun a s => N env s) (fun c fs s => Ee c fs env s) := by
  simp only [evS, ws_then, ws_nx]
theorem ws_ife {t : Ex} {a b : Ss} : Ws (evS G (.ife t a b) env st) N R Ee = Wp (tst G env t st) (fun r s => if r = true then Ws (evSs G a env s) N R Ee else Ws (evSs G b env s) N R Ee) (fun c fs s => Ee c fs env s) := by
  simp only [evS, ws_then, ws_ite]
theorem ws_raise {c : Str} (h : G.xc c = true) : Ws (evS G (.raise c .nil) env st) N R Ee = Ee c [] env st := by
  simp only [evS, h, if_true, evEs, Rs.then, ws_exc]
theorem ws_try {b h : Ss} {c : Str} {i : Nat} : Ws (evS G (.try b c i h) env st) N R Ee = Ws (evSs G b env st) N R (fun c' fs e' st' => match G.sub c' c with
    | some true => Ws (evSs G h (e'.set i (some (.exn c' fs))) st') (fun e2 s2 => N (e2.set i none) s2) R (fun _ _ _ _ => False)
    | some false => Ee c' fs e' st'
    | none => False) := by
  rw [evS]
  cases evSs G b env st with
  | bad => rfl
  | ok f e s => cases f <;> rfl
  | exc c' fs e' s' =>
    simp only [ws_exc]
    cases G.sub c' c with
    | none => rfl
    | some r =>
      cases r with
      | false => rfl
      | true =>
        simp only
        cases evSs G h (e'.set i (some (.exn c' fs))) s' with
        | bad => rfl
        | exc _ _ _ _ => rfl
        | ok f e s => cases f <;> rfl
theorem ws_un {ts : Tgs} {x : Ex} : Ws (evS G (.asg (.tup ts) x) env st) N R Ee = Wp (evA G env x st) (fun a s => ∃ xs e, seqOf s a = some xs ∧ asgDs ts xs env = some e ∧ N e s) (fun c fs s => Ee c fs env s) := by
  simp only [evS, ws_then]
  congr 1; funext a s
  simp only [asgA]
  cases seqOf s a with
  | none => simp only [reduceCtorEq, false_and, exists_false]; rfl
  | some xs =>
    simp only [Option.some.injEq, exists_and_left, exists_eq_left']
    cases q : asgDs ts xs env with
    | none => simp only [ofO, reduceCtorEq, false_and, exists_false]; rfl
    | some e => simp only [ofO, ws_nx, Option.some.injEq, exists_eq_left']
theorem ws_st {o i x : Ex} : Ws (evS G (.st o i x) env st) N R Ee = Wp (evA G env x st) (fun a s => Wp (allocA a s) (fun y s => Wp (evA G env o s) (fun a s => Wp (evA G env i s) (fun k s =>
    ∃ l kk xs j, a = .d (.loc l) ∧ k = .d (.int kk) ∧ stLst s l = some xs ∧ ixN xs.length kk = some j ∧ N env (s.set l (.lst (xs.set j y)))) (fun c fs s => Ee c fs env s)) (fun c fs s => Ee c fs env s)) (fun c fs s => Ee c fs env s)) (fun c fs s => Ee c fs env s) := by
  simp only [evS, ws_then, evE, wp_bind]
  congr 1; funext a s; congr 1; funext y s; congr 1; funext a s; congr 1; funext k s
  apply propext
  constructor
  · intro h
    split at h
    · rename_i l kk
      split at h
      · rename_i xs e1
        split at h
        · rename_i j e2
          exact ⟨l, kk, xs, j, rfl, rfl, e1, e2, h⟩
        · exact h.elim
      · exact h.elim
    · exact h.elim
  · rintro ⟨l, kk, xs, j, rfl, rfl, e1, e2, h⟩
    simp only [e1, e2]
    exact h
theorem wp_evF {m n : Nat} {b : Ss} {xs : List D} {R : D → Stt → Prop} (h : xs.length = m) : Wp (evF G m n b xs st) R E = Ws (evSs G b (xs.map some ++ List.replicate (n - xs.length) none) st) (fun _ s => R .non s) R (fun c fs _ s => E c fs s) := by
  unfold evF
  rw [if_pos h]
  cases evSs G b (xs.map some ++ List.replicate (n - xs.length) none) st with
  | ok f e s => cases f <;> rfl
  | exc c fs e s => rfl
  | bad => rfl
theorem wp_call {f : Str} {es : Es} {F : List D → M D} (h : G.fn f = some F) : Wp (evA G env (.call f es) st) QA E = Wp (evEs G env es st) (fun xs s => Wp (F xs s) (fun y s => QA (.d y) s) E) E := by
  simp only [evA, h, wp_bind, wp_ok]
theorem wp_tst {x : Ex} {Q : Bool → Stt → Prop} : Wp (tst G env x st) Q E = Wp (evA G env x st) (fun a s => Wp (truA a s) Q E) E := by
  simp only [tst, wp_bind]
end

/-! ### loops -/
section
variable {G : Gam} {R : D → Stt → Prop} {Ee : Str → List D → Env → Stt → Prop} {N : Env → Stt → Prop}
theorem ws_forGo {live : List (Nat × List D)} {tg : Tg} {body : Env → Stt → Rf} (I : Nat → Env → Stt → Prop) : ∀ (xs : List D) (k : Nat) (e : Env) (st : Stt), I k e st →
    (∀ i x e st, xs[i]? = some x → I (k + i) e st → liveOk st live = true ∧ ∃ e', asgD tg x e = some e' ∧ Ws (body e' st) (I (k + i + 1)) R Ee) → (∀ e st, I (k + xs.length) e st → liveOk st live = true ∧ N e st) → Ws (forGo live tg body xs e st) N R Ee
  | [], k, e, st, h0, hs, hf => by
    obtain ⟨h1, h2⟩ := hf e st h0
    simp only [forGo, h1, if_true, ws_nx]
    exact h2
  | x :: r, k, e, st, h0, hs, hf => by
    obtain ⟨h1, e', h2, h3⟩ := hs 0 x e st rfl h0
    simp only [forGo, h1, if_true, h2]
    have go := fun e st h => ws_forGo I r (k + 1) e st h (fun i y e st hx hi => by
      have := hs (i + 1) y e st (by simpa using hx) (by rw [show k + (i + 1) = k + 1 + i from by omega]; exact hi)
      rw [show k + (i + 1) + 1 = k + 1 + i + 1 from by omega] at this
      exact this) (fun e st h => hf e st (by rw [List.length_cons, show k + (r.length + 1) = k + 1 + r.length from by omega]; exact h))
    cases q : body e' st with
    | bad => rw [q] at h3; exact h3.elim
    | exc c fs e2 st2 => rw [q] at h3; exact h3
    | ok f e2 st2 =>
      rw [q] at h3
      cases f with
      | nx => exact go e2 st2 h3
      | rt d => exact h3
      | bk => exact h3.elim
      | ct => exact h3.elim
theorem whlN_mono {t : Env → Stt → Rs Bool} {body : Env → Stt → Rf} : ∀ {n : Nat} {e : Env} {st : Stt} {r : Rf}, whlN t body n e st = some r → whlN t body (n + 1) e st = some r
  | 0, e, st, r, h => by simp [whlN] at h
  | n + 1, e, st, r, h => by
    rw [whlN] at h ⊢
    cases q : t e st with
    | bad => rw [q] at h; exact h
    | exc c fs s => rw [q] at h; exact h
    | ok b s =>
      rw [q] at h
      cases b with
      | false => exact h
      | true =>
        simp only at h ⊢
        cases q2 : body e s with
        | bad => rw [q2] at h; exact h
        | exc c fs e2 s2 => rw [q2] at h; exact h
        | ok f e2 s2 =>
          rw [q2] at h
          cases f with
          | nx => exact whlN_mono h
          | ct => exact whlN_mono h
          | bk => exact h
          | rt d => exact h
theorem whlN_le {t : Env → Stt → Rs Bool} {body : Env → Stt → Rf} {n : Nat} {e : Env} {st : Stt} {r : Rf} (h : whlN t body n e st = some r) : ∀ k, whlN t body (n + k) e st = some r
  | 0 => h
  | k + 1 => whlN_mono (whlN_le h k)
theorem whl_eq {t : Env → Stt → Rs Bool} {body : Env → Stt → Rf} {n : Nat} {e : Env} {st : Stt} {r : Rf} (h : whlN t body n e st = some r) : whl t body e st = r := by
  have hx : ∃ n, (whlN t body n e st).isSome = true := ⟨n, by rw [h]; rfl⟩
  unfold whl
  rw [dif_pos hx]
  obtain ⟨r', hr⟩ := Option.isSome_iff_exists.mp (Classical.choose_spec hx)
  rw [hr]
  have a := whlN_le hr n
  have b := whlN_le h (Classical.choose hx)
  rw [show n + Classical.choose hx = Classical.choose hx + n from by omega, a] at b
  cases b; rfl
theorem ws_whlN {t : Env → Stt → Rs Bool} {body : Env → Stt → Rf} (I : Nat → Env → Stt → Prop) (hs : ∀ n e st, I n e st → Wp (t e st) (fun b s => if b = true then Ws (body e s) (fun e s => ∃ m, m < n ∧ I m e s) R Ee else N e s) (fun c fs s => Ee c fs e s)) :
    ∀ n e st, I n e st → ∃ m r, whlN t body m e st = some r ∧ Ws r N R Ee := by
  intro n
  induction n using Nat.strongRecOn with
  | _ n ih =>
    intro e st hi
    have h := hs n e st hi
    cases q : t e st with
    | bad => rw [q] at h; exact h.elim
    | exc c fs s => rw [q] at h; exact ⟨1, .exc c fs e s, by simp only [whlN, q], h⟩
    | ok b s =>
      rw [q, wp_ok] at h
      cases b with
      | false => rw [if_neg Bool.false_ne_true] at h; exact ⟨1, .ok .nx e s, by simp only [whlN, q], h⟩
      | true =>
        rw [if_pos rfl] at h
        cases q2 : body e s with
        | bad => rw [q2] at h; exact h.elim
        | exc c fs e2 s2 => rw [q2] at h; exact ⟨1, .exc c fs e2 s2, by simp only [whlN, q, q2], h⟩
        | ok f e2 s2 =>
          rw [q2] at h
          cases f with
          | nx =>
            obtain ⟨m, hm, h⟩ := h
            obtain ⟨k, r, hk, hr⟩ := ih m hm e2 s2 h
            exact ⟨k + 1, r, by simp only [whlN, q, q2]; exact hk, hr⟩
          | rt d => exact ⟨1, .ok (.rt d) e2 s2, by simp only [whlN, q, q2], h⟩
          | bk => exact h.elim
          | ct => exact h.elim
theorem ws_whl {t : Ex} {b : Ss} {e : Env} {st : Stt} (I : Nat → Env → Stt → Prop) (n : Nat) (h0 : I n e st) (hs : ∀ n e st, I n e st → Wp (tst G e t st) (fun r s => if r = true then Ws (evSs G b e s) (fun e s => ∃ m, m < n ∧ I m e s) R Ee else N e s) (fun c fs s => Ee c fs e s)) :
    Ws (evS G (.whl t b) e st) N R Ee := by
  obtain ⟨m, r, h1, h2⟩ := ws_whlN I hs n e st h0
  rw [evS, whl_eq h1]
  exact h2
theorem ws_rng {i : Nat} {x : Ex} {b : Ss} {e : Env} {st : Stt} (I : Nat → Env → Stt → Prop) (n : Int) (st' : Stt) (hx : evA G e x st = .ok (.d (.int n)) st') (hn : rngOk n = true) (h0 : I 0 e st')
    (hs : ∀ (k : Nat) e st, (k : Int) < n → I k e st → i < e.length ∧ Ws (evSs G b (e.set i (some (.int k))) st) (I (k + 1)) R Ee) (hf : ∀ e st, I n.toNat e st → N e st) : Ws (evS G (.for (.nm i) (.rng x) b) e st) N R Ee := by
  simp only [evS, evIt, hx, Rs.bind, hn, if_true, Rs.then]
  refine ws_forGo I _ 0 e st' h0 ?_ ?_
  · intro j y e st hy hi
    simp only [rngI, List.getElem?_map, Option.map_eq_some_iff] at hy
    obtain ⟨a, ha, rfl⟩ := hy
    have hlt := (List.getElem?_eq_some_iff.mp ha).1
    rw [List.length_range] at hlt
    rw [List.getElem?_range hlt] at ha
    cases ha
    rw [Nat.zero_add] at hi ⊢
    obtain ⟨h1, h2⟩ := hs j e st (by omega) hi
    refine ⟨rfl, e.set i (some (.int (0 + (j : Int)))), by simp only [asgD, h1, if_true], ?_⟩
    rw [Int.zero_add]
    exact h2
  · intro e st h
    refine ⟨rfl, hf e st ?_⟩
    simpa [rngI] using h
/-- a comprehension whose turns change nothing -/
theorem lc_map {step : D → Stt → Rs (Option D)} {st : Stt} {f : D → Option D} : ∀ {xs : List D}, (∀ x ∈ xs, step x st = .ok (f x) st) → lcGo [] step xs st = .ok (xs.filterMap f) st
  | [], _ => rfl
  | x :: r, h => by
    have h1 := h x List.mem_cons_self
    have h2 := lc_map (step := step) (st := st) (f := f) (xs := r) fun y hy => h y (List.mem_cons_of_mem _ hy)
    have : liveOk st [] = true := rfl
    simp only [lcGo, this, if_true, h1, h2]
    cases e : f x <;> simp [List.filterMap_cons, e]
end

/-! ### types -/
def isiT (t : String) (c : Str) : Option Bool := match tyName c with
  | some n => kitB t n
  | none => none
section
variable {G : Gam} {st : Stt} {c : Str} {a : A}
theorem isi_of {t : String} (h : tyA st a = some t) : isiA G st a [c] = isiT t c := by
  unfold isiA isiOne isiT
  rw [h]
  cases q : tyName c with
  | some n => simp only [q]
  | none =>
    simp only [q]
    split
    · cases h
    · rfl
theorem isi_non : isiA G st (.d .non) [c] = isiT "NoneType" c := isi_of rfl
theorem isi_bl {b : Bool} : isiA G st (.d (.bl b)) [c] = isiT "bool" c := isi_of rfl
theorem isi_int {i : Int} : isiA G st (.d (.int i)) [c] = isiT "int" c := isi_of rfl
theorem isi_str {x : Str} : isiA G st (.d (.str x)) [c] = isiT "str" c := isi_of rfl
theorem isi_tup {xs : List D} : isiA G st (.d (.tup xs)) [c] = isiT "tuple" c := isi_of rfl
theorem isi_rol {xs : List D} : isiA G st (.d (.rol xs)) [c] = isiT "list" c := isi_of rfl
theorem isi_l {xs : List D} : isiA G st (.l xs) [c] = isiT "list" c := isi_of rfl
theorem isi_loc {l : Nat} {xs : List D} (h : stLst st l = some xs) : isiA G st (.d (.loc l)) [c] = isiT "list" c := by
  refine isi_of ?_
  unfold stLst at h
  simp only [tyA]
  split at h
  · rename_i e; rw [e]
  · cases h
theorem isi_exn {e : Str} (h : tyName c = none) : isiA G st (.d (.exn e [])) [c] = G.ist e c := by
  simp only [isiA, isiOne, h]
theorem isi_dic {l : Nat} {kvs : List (Key × D)} (h : st[l]? = some (.dic kvs)) : isiA G st (.d (.loc l)) [c] = isiT "dict" c := by
  refine isi_of ?_
  simp only [tyA, h]
end
theorem isiT_list_int : isiT "list" "int" = some false := by decide +kernel
theorem isiT_list_bool : isiT "list" "bool" = some false := by decide +kernel
theorem isiT_list_str : isiT "list" "str" = some false := by decide +kernel
theorem isiT_list_tuple : isiT "list" "tuple" = some false := by decide +kernel
theorem isiT_list_list : isiT "list" "list" = some true := by decide +kernel
theorem isiT_list_dict : isiT "list" "dict" = some false := by decide +kernel
theorem isiT_NoneType_int : isiT "NoneType" "int" = some false := by decide +kernel
theorem isiT_NoneType_bool : isiT "NoneType" "bool" = some false := by decide +kernel
theorem isiT_NoneType_str : isiT "NoneType" "str" = some false := by decide +kernel
theorem isiT_NoneType_tuple : isiT "NoneType" "tuple" = some false := by decide +kernel
theorem isiT_NoneType_list : isiT "NoneType" "list" = some false := by decide +kernel
theorem isiT_NoneType_dict : isiT "NoneType" "dict" = some false := by decide +kernel
theorem isiT_bool_int : isiT "bool" "int" = some true := by decide +kernel
theorem isiT_bool_bool : isiT "bool" "bool" = some true := by decide +kernel
theorem isiT_bool_str : isiT "bool" "str" = some false := by decide +kernel
theorem isiT_bool_tuple : isiT "bool" "tuple" = some false := by decide +kernel
theorem isiT_bool_list : isiT "bool" "list" = some false := by decide +kernel
theorem isiT_bool_dict : isiT "bool" "dict" = some false := by decide +kernel
theorem isiT_int_int : isiT "int" "int" = some true := by decide +kernel
theorem isiT_int_bool : isiT "int" "bool" = some false := by decide +kernel
theorem isiT_int_str : isiT "int" "str" = some false := by decide +kernel
theorem isiT_int_tuple : isiT "int" "tuple" = some false := by decide +kernel
theorem isiT_int_list : isiT "int" "list" = some false := by decide +kernel
theorem isiT_int_dict : isiT "int" "dict" = some false := by decide +kernel
theorem isiT_str_int : isiT "str" "int" = some false := by decide +kernel
theorem isiT_str_bool : isiT "str" "bool" = some false := by decide +kernel
theorem isiT_str_str : isiT "str" "str" = some true := by decide +kernel
theorem isiT_str_tuple : isiT "str" "tuple" = some false := by decide +kernel
theorem isiT_str_list : isiT "str" "list" = some false := by decide +kernel
theorem isiT_str_dict : isiT "str" "dict" = some false := by decide +kernel
theorem isiT_tuple_int : isiT "tuple" "int" = some false := by decide +kernel
theorem isiT_tuple_bool : isiT "tuple" "bool" = some false := by decide +kernel
theorem isiT_tuple_str : isiT "tuple" "str" = some false := by decide +kernel
theorem isiT_tuple_tuple : isiT "tuple" "tuple" = some true := by decide +kernel
theorem isiT_tuple_list : isiT "tuple" "list" = some false := by decide +kernel
theorem isiT_tuple_dict : isiT "tuple" "dict" = some false := by decide +kernel
theorem isiT_dict_int : isiT "dict" "int" = some false := by decide +kernel
theorem isiT_dict_bool : isiT "dict" "bool" = some false := by decide +kernel
theorem isiT_dict_str : isiT "dict" "str" = some false := by decide +kernel
theorem isiT_dict_tuple : isiT "dict" "tuple" = some false := by decide +kernel
theorem isiT_dict_list : isiT "dict" "list" = some false := by decide +kernel
theorem isiT_dict_dict : isiT "dict" "dict" = some true := by decide +kernel
end Ev

namespace Ev
open PySem PySem.Spec PyProof.Rows L2

/-! ### one operation at a time -/
section
variable {α : Type} {G : Gam} {st s0 : Stt} {env : Ev.Env} {Q : α → Stt → Prop} {QA : A → Stt → Prop} {E : Str → List D → Stt → Prop} {i j : Int} {xs ys : List D} {x : D} {b c : Bool}
theorem eq_of_wp {m : Rs α} {a0 : α} (h : Wp m (fun a s => a = a0 ∧ s = s0) (fun _ _ _ => False)) : m = .ok a0 s0 := by
  cases m with
  | ok a s => obtain ⟨rfl, rfl⟩ := h; rfl
  | exc c fs s => exact h.elim
  | bad => exact h.elim
theorem ex_of_wp {m : Rs α} {P : α → Stt → Prop} (h : Wp m P (fun _ _ _ => False)) : ∃ a s, m = .ok a s ∧ P a s := by
  cases m with
  | ok a s => exact ⟨a, s, rfl, h⟩
  | exc c fs s => exact h.elim
  | bad => exact h.elim
theorem al_d : allocA (.d x) st = .ok x st := rfl
theorem al_l : allocA (.l xs) st = .ok (.loc st.length) (st ++ [.lst xs]) := rfl
theorem tr_bl : truA (.d (.bl b)) st = .ok b st := rfl
theorem tr_non : truA (.d .non) st = .ok false st := rfl
theorem tr_int : truA (.d (.int i)) st = .ok (i != 0) st := rfl
theorem tr_tup : truA (.d (.tup xs)) st = .ok (!xs.isEmpty) st := rfl
theorem tr_l : truA (.l xs) st = .ok (!xs.isEmpty) st := rfl
theorem tr_loc {l : Nat} (h : stLst st l = some xs) : truA (.d (.loc l)) st = .ok (!xs.isEmpty) st := by simp only [truA, lstOf, h]
theorem bin_add : binA .Add (.d (.int i)) (.d (.int j)) st = .ok (.d (.int (i + j))) st := rfl
theorem bin_sub : binA .Sub (.d (.int i)) (.d (.int j)) st = .ok (.d (.int (i - j))) st := rfl
def mulB (i j : Int) : Prop := i.natAbs.log2 + j.natAbs.log2 < 1000000
def divB (j : Int) : Prop := j ≠ 0 ∧ j.natAbs.log2 < 9000
def powB (i j : Int) : Prop := 0 ≤ j ∧ (Builtin.Int.intBits i : Int) * j ≤ 2 ^ 27
theorem wp_mul : Wp (binA .Mult (.d (.int i)) (.d (.int j)) st) QA E = (mulB i j ∧ QA (.d (.int (i * j))) st) := by
  simp only [binA, mulB]
  split <;> rename_i h <;> simp [h, Wp]
theorem wp_div : Wp (binA .FloorDiv (.d (.int i)) (.d (.int j)) st) QA E = (divB j ∧ QA (.d (.int (i.fdiv j))) st) := by
  simp only [binA, divB]
  split <;> rename_i h
  · simp only [h, Wp, not_false_eq_true, and_self, true_and, ne_eq]
  · simp only [h, Wp, false_and]
theorem wp_mod : Wp (binA .Mod (.d (.int i)) (.d (.int j)) st) QA E = (j ≠ 0 ∧ QA (.d (.int (i.fmod j))) st) := by
  simp only [binA]
  split <;> rename_i h <;> simp [h, Wp]
theorem wp_pow : Wp (binA .Pow (.d (.int i)) (.d (.int j)) st) QA E = (powB i j ∧ QA (.d (.int (i ^ j.toNat))) st) := by
  simp only [binA, powB]
  split <;> rename_i h
  · simp only [h, Wp, and_self, true_and]
  · simp only [h, Wp, false_and]
theorem bin_tup : Wp (binA .Add (.d (.tup xs)) (.d (.tup ys)) st) QA E = (lenOk (xs.length + ys.length) = true ∧ QA (.d (.tup (xs ++ ys))) st) := by
  simp only [binA]
  split <;> rename_i h <;> simp [h, Wp]
theorem bin_ll : Wp (binA .Add (.l xs) (.l ys) st) QA E = (lenOk (xs.length + ys.length) = true ∧ QA (.l (xs ++ ys)) st) := by
  simp only [binA, lstM]
  split <;> rename_i h <;> simp [h, Wp]
theorem bin_locl {l : Nat} (hl : stLst st l = some xs) : Wp (binA .Add (.d (.loc l)) (.l ys) st) QA E = (lenOk (xs.length + ys.length) = true ∧ QA (.l (xs ++ ys)) st) := by
  simp only [binA, lstM, hl]
  split <;> rename_i h <;> simp [h, Wp]
theorem bin_lloc {l : Nat} (hl : stLst st l = some ys) : Wp (binA .Add (.l xs) (.d (.loc l)) st) QA E = (lenOk (xs.length + ys.length) = true ∧ QA (.l (xs ++ ys)) st) := by
  simp only [binA, lstM, hl]
  split <;> rename_i h <;> simp [h, Wp]
theorem bin_locloc {l m : Nat} (hl : stLst st l = some xs) (hm : stLst st m = some ys) : Wp (binA .Add (.d (.loc l)) (.d (.loc m)) st) QA E = (lenOk (xs.length + ys.length) = true ∧ QA (.l (xs ++ ys)) st) := by
  simp only [binA, lstM, hl, hm]
  split <;> rename_i h <;> simp [h, Wp]
theorem mulB_of {a b : Nat} (h1 : i.natAbs < 2 ^ a) (h2 : j.natAbs < 2 ^ b) (h : a + b ≤ 999999) : mulB i j := by
  unfold mulB
  have k : ∀ {n a : Nat}, n < 2 ^ a → n.log2 ≤ a := fun {n a} h => by
    by_cases z : n = 0
    · subst z; simp
    · exact Nat.le_of_lt ((Nat.log2_lt z).mpr h)
  have := k h1; have := k h2; omega
theorem divB_of {b : Nat} (h0 : j ≠ 0) (h2 : j.natAbs < 2 ^ b) (h : b ≤ 8999) : divB j := by
  refine ⟨h0, ?_⟩
  have z : j.natAbs ≠ 0 := by omega
  have := (Nat.log2_lt z).mpr h2
  omega
theorem lt_i : cmpA .Lt (.d (.int i)) (.d (.int j)) st = some (decide (i < j)) := rfl
theorem le_i : cmpA .LtE (.d (.int i)) (.d (.int j)) st = some (decide (i ≤ j)) := rfl
theorem gt_i : cmpA .Gt (.d (.int i)) (.d (.int j)) st = some (decide (j < i)) := rfl
theorem ge_i : cmpA .GtE (.d (.int i)) (.d (.int j)) st = some (decide (j ≤ i)) := rfl
theorem is_nn : cmpA .Is (.d .non) (.d .non) st = some true := rfl
theorem isn_nn : cmpA .IsNot (.d .non) (.d .non) st = some false := rfl
theorem is_bb : cmpA .Is (.d (.bl b)) (.d (.bl c)) st = some (decide (b = c)) := rfl
theorem isn_bb : cmpA .IsNot (.d (.bl b)) (.d (.bl c)) st = some (!decide (b = c)) := rfl
theorem is_tn : cmpA .Is (.d (.tup xs)) (.d .non) st = some false := rfl
theorem is_in : cmpA .Is (.d (.int i)) (.d .non) st = some false := rfl
theorem isn_tn : cmpA .IsNot (.d (.tup xs)) (.d .non) st = some true := rfl
theorem isn_in : cmpA .IsNot (.d (.int i)) (.d .non) st = some true := rfl
theorem cmp_eq {a b : A} : cmpA .Eq a b st = eqB st a b := by cases a <;> rfl
theorem cmp_in {a b : A} : cmpA .In a b st = inA st a b := by cases a <;> rfl
theorem cmp_nin {a b : A} : cmpA .NotIn a b st = (inA st a b).map not := by cases a <;> rfl
theorem cmp_ne {a b : A} : cmpA .NotEq a b st = (eqB st a b).map not := by cases a <;> rfl
end
theorem toPy_int {st : Stt} {n : Nat} {i : Int} : toPy st (n + 1) (.int i) = some (.int i) := rfl
section
variable {st : Stt} {i j : Int} {b c : Bool}
theorem eq_ii : eqB st (.d (.int i)) (.d (.int j)) = some (decide (i = j)) := by
  have h : eqB st (.d (.int i)) (.d (.int j)) = if SeqAt.shaped (.int i) = true ∧ SeqAt.shaped (.int j) = true then some (PyData.eqv (.int i) (.int j)) else none := rfl
  rw [h, if_pos ⟨rfl, rfl⟩]
  show some (i == j) = _
  by_cases e : i = j <;> simp [e]
theorem eq_bb : eqB st (.d (.bl b)) (.d (.bl c)) = some (decide (b = c)) := by
  have h : eqB st (.d (.bl b)) (.d (.bl c)) = if SeqAt.shaped (.bool b) = true ∧ SeqAt.shaped (.bool c) = true then some (PyData.eqv (.bool b) (.bool c)) else none := rfl
  rw [h]
  cases b <;> cases c <;> rfl
end
end Ev
namespace Ev
open PySem PySem.Spec PyProof.Rows L2
section
variable {st : Stt} {i j : Int} {xs : List D} {b : Bool}
theorem bi_len_tup : biA "len" [.d (.tup xs)] st = .ok (.d (.int xs.length)) st := rfl
theorem bi_len_l : biA "len" [.l xs] st = .ok (.d (.int xs.length)) st := rfl
theorem bi_len_loc {l : Nat} (h : stLst st l = some xs) : biA "len" [.d (.loc l)] st = .ok (.d (.int xs.length)) st := by
  have : biA "len" [.d (.loc l)] st = ofO ((stLst st l).map fun xs => A.d (.int xs.length)) st := rfl
  rw [this, h]; rfl
theorem bi_all_l : biA "all" [.l xs] st = ofO ((boolsOf xs).map fun bs => A.d (.bl (bs.all id))) st := rfl
theorem bi_any_l : biA "any" [.l xs] st = ofO ((boolsOf xs).map fun bs => A.d (.bl (bs.any id))) st := rfl
theorem bi_sum_l : biA "sum" [.l xs] st = ofO ((intsOf xs).map fun bs => A.d (.int bs.sum)) st := rfl
theorem bi_abs : biA "abs" [.d (.int i)] st = .ok (.d (.int (if i < 0 then -i else i))) st := rfl
theorem bi_int_b : biA "int" [.d (.bl b)] st = .ok (.d (.int (if b = true then 1 else 0))) st := rfl
theorem bi_int_i : biA "int" [.d (.int i)] st = .ok (.d (.int i)) st := rfl
theorem bi_max : biA "max" [.d (.int i), .d (.int j)] st = .ok (.d (.int (if j > i then j else i))) st := rfl
theorem bi_min : biA "min" [.d (.int i), .d (.int j)] st = .ok (.d (.int (if j < i then j else i))) st := rfl
theorem bi_list_tup : biA "list" [.d (.tup xs)] st = .ok (.l xs) st := rfl
theorem bi_list_l : biA "list" [.l xs] st = .ok (.l xs) st := rfl
theorem bi_list_loc {l : Nat} (h : stLst st l = some xs) : biA "list" [.d (.loc l)] st = .ok (.l xs) st := by
  have : biA "list" [.d (.loc l)] st = ofO ((stLst st l).map .l) st := rfl
  rw [this, h]; rfl
theorem bi_tuple_l : biA "tuple" [.l xs] st = .ok (.d (.tup xs)) st := rfl
theorem bi_tuple_loc {l : Nat} (h : stLst st l = some xs) : biA "tuple" [.d (.loc l)] st = .ok (.d (.tup xs)) st := by
  have : biA "tuple" [.d (.loc l)] st = ofO ((stLst st l).map fun xs => A.d (.tup xs)) st := rfl
  rw [this, h]; rfl
theorem bi_str : biA "str" [.d (.int i)] st = ofO (if i.natAbs.log2 < 1920 then some (A.d (.str (toString i))) else none) st := rfl
theorem ix_tup : ixA (.d (.tup xs)) (.d (.int i)) st = (atI xs i).map .d := rfl
theorem ix_l : ixA (.l xs) (.d (.int i)) st = (atI xs i).map .d := rfl
theorem ix_loc {l : Nat} (h : stLst st l = some xs) : ixA (.d (.loc l)) (.d (.int i)) st = (atI xs i).map .d := by
  simp only [ixA, seqOf, tupOf, lstOf, h]
theorem atI_nat {α : Type} {xs : List α} {n : Nat} {x : α} (h : xs[n]? = some x) : atI xs (n : Int) = some x := by
  have hl := (List.getElem?_eq_some_iff.mp h).1
  unfold atI ixN
  rw [if_pos (by omega), if_pos (by omega)]
  simpa using h
theorem atI_mem {α : Type} {xs : List α} {i : Int} (h0 : 0 ≤ i) (h1 : i < xs.length) : ∃ x, atI xs i = some x ∧ x ∈ xs := by
  obtain ⟨n, rfl⟩ := Int.eq_ofNat_of_zero_le h0
  have hl : n < xs.length := by omega
  exact ⟨xs[n], atI_nat (List.getElem?_eq_getElem hl), List.getElem_mem hl⟩
end
end Ev
namespace Ev
open PySem
section
variable {G : Gam} {env : Ev.Env} {st : Stt} {a b c : Ex} {es r : Es} {i : Nat} {op : Operator} {o o2 : CmpOp} {f m : Str}
theorem ev_v : evA G env (.v i) st = match env[i]? with
    | some (some x) => .ok (.d x) st
    | _ => .bad := by rw [evA] <;> rfl
theorem ev_c {x : D} : evA G env (.c x) st = .ok (.d x) st := by simp only [evA]
theorem ev_bin : evA G env (.bin op a b) st = (evA G env a st).bind fun x st => (evA G env b st).bind fun y st => binA op x y st := by simp only [evA]
theorem ev_neg {j : Int} : evA G env (.neg (.c (.int j))) st = .ok (.d (.int (-j))) st := by simp only [evA, Rs.bind]
theorem ev_negg : evA G env (.neg a) st = (evA G env a st).bind fun x st => match x with
    | .d (.int i) => .ok (.d (.int (-i))) st
    | _ => .bad := by rw [evA] <;> rfl
theorem ev_nt : evA G env (.nt a) st = (evA G env a st).bind fun x st => (truA x st).bind fun b st => .ok (.d (.bl (!b))) st := by simp only [evA]
theorem ev_and : evA G env (.and es) st = evAnd G env es st := by simp only [evA]
theorem ev_or : evA G env (.or es) st = evOr G env es st := by simp only [evA]
theorem ev_and1 : evAnd G env (.cons a .nil) st = evA G env a st := by simp only [evAnd]
theorem ev_and2 : evAnd G env (.cons a (.cons b r)) st = (evA G env a st).bind fun x st => (truA x st).bind fun t st => if t = true then evAnd G env (.cons b r) st else .ok x st := by
  rw [evAnd]
theorem ev_or1 : evOr G env (.cons a .nil) st = evA G env a st := by simp only [evOr]
theorem ev_or2 : evOr G env (.cons a (.cons b r)) st = (evA G env a st).bind fun x st => (truA x st).bind fun t st => if t = true then .ok x st else evOr G env (.cons b r) st := by
  rw [evOr]
theorem ev_cmp : evA G env (.cmp a o b) st = (evA G env a st).bind fun x st => (evA G env b st).bind fun y st => ofO ((cmpA o x y st).map fun r => .d (.bl r)) st := by simp only [evA]
theorem ev_cmp3 {a b c d : Ex} {o o2 o3 : CmpOp} : evA G env (.cmp3 a o b o2 c o3 d) st = (evA G env a st).bind fun x st => (evA G env b st).bind fun y st => (ofO (cmpA o x y st) st).bind fun r st =>
    if r = true then (evA G env c st).bind fun z st => (ofO (cmpA o2 y z st) st).bind fun r st =>
      if r = true then (evA G env d st).bind fun u st => ofO ((cmpA o3 z u st).map fun r => .d (.bl r)) st else .ok (.d (.bl false)) st
    else .ok (.d (.bl false)) st := by simp only [evA]
theorem ev_nset {a : Ex} : evA G env (.nset a) st = (evA G env a st).bind fun x st => ofO ((seqOf st x).bind fun xs => (intsOf xs).bind fun is => if is.length ≤ 1000 then some (.d (.int (ndist is))) else none) st := by simp only [evA]
theorem ev_rglL {a : Ex} : evA G env (.rgl false a .no) st = (evA G env a st).bind fun x st => match x with
    | .d (.int i) => if rgOk 0 i = true then .ok (.l (rngI 0 i.toNat)) st else .bad
    | _ => .bad := by
  simp only [evA, evO, Rs.bind]
  rfl
theorem ev_rglT {a : Ex} : evA G env (.rgl true a .no) st = (evA G env a st).bind fun x st => match x with
    | .d (.int i) => if rgOk 0 i = true then .ok (.d (.tup (rngI 0 i.toNat))) st else .bad
    | _ => .bad := by
  simp only [evA, evO, Rs.bind]
  rfl
theorem ev_cmp2 : evA G env (.cmp2 a o b o2 c) st = (evA G env a st).bind fun x st => (evA G env b st).bind fun y st => (ofO (cmpA o x y st) st).bind fun r st =>
    if r = true then (evA G env c st).bind fun z st => ofO ((cmpA o2 y z st).map fun r => .d (.bl r)) st else .ok (.d (.bl false)) st := by simp only [evA]
theorem ev_call {F : List D → M D} (h : G.fn f = some F) : evA G env (.call f es) st = (evEs G env es st).bind fun xs st => (F xs st).bind fun y st => .ok (.d y) st := by simp only [evA, h]
theorem ev_callv {j : Nat} : evA G env (.callv j es) st = match env[j]? with
    | some (some (.obj f)) => match G.fn f with
      | some F => (evEs G env es st).bind fun xs st => (F xs st).bind fun y st => .ok (.d y) st
      | none => .bad
    | _ => .bad := by rw [evA] <;> rfl
theorem ev_bi : evA G env (.bi f es) st = (evAs G env es st).bind fun xs st => biA f xs st := by simp only [evA]
theorem ev_mt : evA G env (.mt m a es) st = (evA G env a st).bind fun x st => if rcv m x st = true then (evAs G env es st).bind fun ys st => mtA m x ys st else .bad := by simp only [evA]
theorem ev_isi {cs : List Str} : evA G env (.isi a cs) st = (evA G env a st).bind fun x st => ofO ((isiA G st x cs).map fun r => .d (.bl r)) st := by simp only [evA]
theorem ev_ix : evA G env (.ix a b) st = (evA G env a st).bind fun x st => (evA G env b st).bind fun y st => ofO (ixA x y st) st := by simp only [evA]
theorem ev_sl {lo hi : Eo} : evA G env (.sl a lo hi) st = (evA G env a st).bind fun x st => (evO G env lo st).bind fun l st => (evO G env hi st).bind fun h st => ofO (slA x l h st) st := by simp only [evA]
theorem ev_tup : evA G env (.tup es) st = (evEs G env es st).bind fun xs st => if lenOk xs.length = true then .ok (.d (.tup xs)) st else .bad := by simp only [evA]
theorem ev_lst : evA G env (.lst es) st = (evEs G env es st).bind fun xs st => if lenOk xs.length = true then .ok (.l xs) st else .bad := by simp only [evA]
theorem ev_rev : evA G env (.rev a) st = (evA G env a st).bind fun x st => match tupOf x with
    | some xs => .ok (.d (.tup xs.reverse)) st
    | none => match lstOf st x with
      | some xs => .ok (.l xs.reverse) st
      | none => .bad := by rw [evA] <;> rfl
theorem ev_dic1 {k : Int} {d : D} : evA G env (.dic1 k d) st = .ok (.d (.loc st.length)) (st ++ [.dic [(Sum.inl k, d)]]) := by simp only [evA]
theorem eq_te {xs : List D} : eqB st (.d (.tup xs)) (.d (.tup [])) = some (decide (xs.length = 0)) := by
  have h : eqB st (.d (.tup xs)) (.d (.tup [])) = match (if (xs.isEmpty || true) = true then some (decide (xs.length = 0)) else none) with
    | some r => some r
    | none => eqA st (.d (.tup xs)) (.d (.tup [])) := rfl
  rw [h, Bool.or_true, if_pos rfl]
theorem eq_le {l : Nat} {xs : List D} (hl : stLst st l = some xs) : eqB st (.d (.loc l)) (.l []) = some (decide (xs.length = 0)) := by
  have h : eqB st (.d (.loc l)) (.l []) = match (match stLst st l with
      | some xs => if (xs.isEmpty || true) = true then some (decide (xs.length = 0)) else none
      | none => none) with
    | some r => some r
    | none => eqA st (.d (.loc l)) (.l []) := by
    unfold eqB emp2
    simp only [tupOf, lstOf]
    all_goals (first | rfl | (cases stLst st l <;> rfl))
  rw [h, hl]
  simp
theorem ev_dict0 : evA G env .dict0 st = .ok (.d (.loc st.length)) (st ++ [.dic []]) := by simp only [evA]
theorem ev_ife : evA G env (.ife a b c) st = (evA G env a st).bind fun x st => (truA x st).bind fun r st => if r = true then evA G env b st else evA G env c st := by simp only [evA]
theorem ev_es0 : evEs G env .nil st = .ok [] st := by simp only [evEs]
theorem ev_es1 : evEs G env (.cons a r) st = (evA G env a st).bind fun x st => (allocA x st).bind fun y st => (evEs G env r st).bind fun ys st => .ok (y :: ys) st := by simp only [evEs]
theorem ev_as0 : evAs G env .nil st = .ok [] st := by simp only [evAs]
theorem ev_as1 : evAs G env (.cons a r) st = (evA G env a st).bind fun x st => (evAs G env r st).bind fun ys st => .ok (x :: ys) st := by simp only [evAs]
theorem ev_no : evO G env .no st = .ok none st := by simp only [evO]
theorem ev_so : evO G env (.so a) st = (evA G env a st).bind fun x st => ofO (partA x) st := by simp only [evO]
theorem part_i {i : Int} : partA (.d (.int i)) = some (some i) := rfl
theorem ev_val : evIt G env (.val a) st = (evA G env a st).bind fun x st => ofO (srcA st x) st := by simp only [evIt]
theorem ev_rng : evIt G env (.rng a) st = (evA G env a st).bind fun x st => match x with
    | .d (.int n) => if rngOk n = true then .ok ⟨rngI 0 n.toNat, []⟩ st else .bad
    | _ => .bad := by rw [evIt] <;> rfl
theorem ev_rng2 : evIt G env (.rng2 a b) st = (evA G env a st).bind fun x st => (evA G env b st).bind fun y st => match x, y with
    | .d (.int i), .d (.int j) => if rngOk i = true ∧ rngOk j = true then .ok ⟨rngI i (j - i).toNat, []⟩ st else .bad
    | _, _ => .bad := by rw [evIt] <;> rfl
theorem src_t {xs : List D} : srcA st (.d (.tup xs)) = some ⟨xs, []⟩ := rfl
theorem src_l {xs : List D} : srcA st (.l xs) = some ⟨xs, []⟩ := rfl
theorem src_loc {l : Nat} {xs : List D} (h : stLst st l = some xs) : srcA st (.d (.loc l)) = some ⟨xs, [(l, xs)]⟩ := by simp only [srcA, h]; rfl
end
theorem lenOk_of {n : Nat} (h : n ≤ 1000000) : lenOk n = true := decide_eq_true h
end Ev
namespace Ev
open PySem
section
variable {G : Gam} {env : Ev.Env} {st : Stt} {e : Ev.Env}
theorem if_no : evIf G env .no st = .ok true st := rfl
theorem if_so {c : Ex} : evIf G env (.so c) st = (evA G env c st).bind truA := rfl
theorem asg_nm {i : Nat} {x : D} : asgD (.nm i) x e = if i < e.length then some (e.set i (some x)) else none := by rw [asgD]
theorem asg_tup {ts : Tgs} {xs : List D} : asgD (.tup ts) (.tup xs) e = asgDs ts xs e := by rw [asgD]
theorem asgs_nil : asgDs .nil [] e = some e := by rw [asgDs]
theorem asgs_cons {t : Tg} {r : Tgs} {x : D} {xs : List D} : asgDs (.cons t r) (x :: xs) e = (asgD t x e).bind (asgDs r xs) := by rw [asgDs]
theorem some_bindO {α β : Type} {x : α} {f : α → Option β} : (some x).bind f = f x := rfl
end
theorem pow_ok {i : Int} {b : Nat} {j : Int} (h : i.natAbs < 2 ^ b) (h0 : 0 ≤ j) (hb : (b : Int) * j ≤ 100000000) : powB i j := by
  refine ⟨h0, ?_⟩
  have : Builtin.Int.intBits i ≤ b := by
    unfold Builtin.Int.intBits
    by_cases z : i = 0
    · simp [z]
    · have hz : (i == 0) = false := by simpa using z
      rw [hz]
      have := (Nat.log2_lt (by omega : i.natAbs ≠ 0)).mpr h
      simp only [Bool.false_eq_true, if_false]
      omega
  have k : (Builtin.Int.intBits i : Int) * j ≤ (b : Int) * j := Int.mul_le_mul_of_nonneg_right (by omega) h0
  have : (100000000 : Int) ≤ 2 ^ 27 := by decide
  omega
end Ev
namespace Ev
open PySem
section
variable {st : Stt} {l k : Nat} {xs : List D} {o : Ob} {r : Stt}
theorem stLst_lt (h : stLst st l = some xs) : l < st.length := by
  unfold stLst at h
  split at h
  · rename_i e; exact (List.getElem?_eq_some_iff.mp e).1
  · cases h
theorem stLst_same (h : l < st.length) : stLst (st.set l (.lst xs)) l = some xs := by
  unfold stLst; rw [List.getElem?_set_self h]
theorem stLst_ne (h : l ≠ k) : stLst (st.set l o) k = stLst st k := by
  unfold stLst; rw [List.getElem?_set_ne h]
theorem stLst_app (h : k < st.length) : stLst (st ++ r) k = stLst st k := by
  unfold stLst; rw [List.getElem?_append_left h]
theorem stLst_last : stLst (st ++ [.lst xs]) st.length = some xs := by
  unfold stLst; simp
theorem stLst_of (h : r[k]? = st[k]?) : stLst r k = stLst st k := by unfold stLst; rw [h]
/-- nothing that was there has changed but p -/
def Keep (p : Nat) (st s : Stt) : Prop := st.length ≤ s.length ∧ ∀ l, l ≠ p → l < st.length → s[l]? = st[l]?
variable {p : Nat} {s s2 : Stt}
theorem Keep.refl : Keep p st st := ⟨Nat.le_refl _, fun _ _ _ => rfl⟩
theorem Keep.trans (h : Keep p st s) (g : Keep p s s2) : Keep p st s2 := ⟨Nat.le_trans h.1 g.1, fun l n q => (g.2 l n (Nat.lt_of_lt_of_le q h.1)).trans (h.2 l n q)⟩
theorem Keep.set : Keep p st (st.set p o) := ⟨by simp, fun l n _ => by rw [List.getElem?_set_ne (Ne.symm n)]⟩
theorem Keep.app : Keep p st (st ++ r) := ⟨by simp, fun l _ q => by rw [List.getElem?_append_left q]⟩
theorem Keep.lst (h : Keep p st s) (n : l ≠ p) (e : stLst st l = some xs) : stLst s l = some xs := by
  rw [stLst_of (h.2 l n (stLst_lt e))]; exact e
end
section
variable {α : Type} {a b c d e f g : α} {r : List α}
theorem at0 : L2.atI (a :: r) 0 = some a := atI_nat (n := 0) rfl
theorem at1 : L2.atI (a :: b :: r) 1 = some b := atI_nat (n := 1) rfl
theorem at2 : L2.atI (a :: b :: c :: r) 2 = some c := atI_nat (n := 2) rfl
theorem at3 : L2.atI (a :: b :: c :: d :: r) 3 = some d := atI_nat (n := 3) rfl
theorem at4 : L2.atI (a :: b :: c :: d :: e :: r) 4 = some e := atI_nat (n := 4) rfl
theorem at5 : L2.atI (a :: b :: c :: d :: e :: f :: r) 5 = some f := atI_nat (n := 5) rfl
theorem ix50 : L2.ixN 5 0 = some 0 := rfl
theorem ix51 : L2.ixN 5 1 = some 1 := rfl
theorem ix52 : L2.ixN 5 2 = some 2 := rfl
theorem ix53 : L2.ixN 5 3 = some 3 := rfl
theorem ix54 : L2.ixN 5 4 = some 4 := rfl
theorem ix20 : L2.ixN 2 0 = some 0 := rfl
theorem ix21 : L2.ixN 2 1 = some 1 := rfl
end
theorem A_inj {x y : D} : (A.d x = A.d y) = (x = y) := by simp
theorem loc_inj {x y : Nat} : (D.loc x = D.loc y) = (x = y) := by simp
theorem int_inj {x y : Int} : (D.int x = D.int y) = (x = y) := by simp
theorem mem_wp {xs : List D} {i : Int} {st : Stt} {Q : A → Stt → Prop} {E : Str → List D → Stt → Prop} (h0 : 0 ≤ i) (h1 : i < xs.length) (h : ∀ x ∈ xs, Q (.d x) st) : Wp (ofO ((L2.atI xs i).map .d) st) Q E := by
  obtain ⟨x, e, m⟩ := atI_mem h0 h1
  rw [e]
  exact h x m
end Ev
namespace Ev
open PySem
section
variable {st : Stt} {xs ys : List D} {i : Int} {QA : A → Stt → Prop} {E : Str → List D → Stt → Prop}
theorem bin_last : Wp (binA .Add (.d (.loc st.length)) (.l ys) (st ++ [.lst xs])) QA E = (lenOk (xs.length + ys.length) = true ∧ QA (.l (xs ++ ys)) (st ++ [.lst xs])) := bin_locl stLst_last
theorem ix_last : ixA (.d (.loc st.length)) (.d (.int i)) (st ++ [.lst xs]) = (L2.atI xs i).map .d := ix_loc stLst_last
theorem fm_pos {p : Int} (h : 0 < p) : 0 ≤ i.fmod p ∧ i.fmod p < p := ⟨Int.fmod_nonneg_of_pos i h, Int.fmod_lt_of_pos i h⟩
end
end Ev
namespace Ev
open PySem
section
variable {st : Stt} {l k : Nat} {xs : List D} {i : Int} {o : Ob}
theorem ix_set (h : l < st.length) : ixA (.d (.loc l)) (.d (.int i)) (st.set l (.lst xs)) = (L2.atI xs i).map .d := ix_loc (stLst_same h)
theorem ix_ne (h : l ≠ k) : ixA (.d (.loc k)) (.d (.int i)) (st.set l o) = ixA (.d (.loc k)) (.d (.int i)) st := by
  simp only [ixA, seqOf, tupOf, lstOf, stLst_ne h]
end
end Ev
namespace Ev
open PySem
theorem bi_len_str {st : Stt} {x : Str} : biA "len" [.d (.str x)] st = ofO (if lenOk x.length = true then some (A.d (.int x.length)) else none) st := rfl
theorem pow_mono {k n : Nat} (h : k ≤ n) : (1000000 : Int) ^ k ≤ 1000000 ^ n := by
  have : (1000000 : Nat) ^ k ≤ 1000000 ^ n := Nat.pow_le_pow_right (by decide) h
  have h2 : ((1000000 ^ k : Nat) : Int) ≤ ((1000000 ^ n : Nat) : Int) := Int.ofNat_le.mpr this
  simpa using h2
end Ev
namespace Ev
open PySem
theorem stLst_at {st r : Stt} {k : Nat} {xs : List D} (h : r[k]? = some (.lst xs)) : stLst (st ++ r) (st.length + k) = some xs := by
  unfold stLst
  rw [List.getElem?_append_right (by omega), Nat.add_sub_cancel_left, h]
theorem st_at {st r : Stt} {k : Nat} {o : Ob} (h : r[k]? = some o) : (st ++ r)[st.length + k]? = some o := by
  rw [List.getElem?_append_right (by omega), Nat.add_sub_cancel_left, h]
end Ev
namespace Ev
open PySem
theorem eq_tt {st : Stt} {a b c d : Int} : eqB st (.d (.tup [.int a, .int b])) (.d (.tup [.int c, .int d])) = some (decide (a = c) && decide (b = d)) := by
  have h : eqB st (.d (.tup [.int a, .int b])) (.d (.tup [.int c, .int d])) = if SeqAt.shaped (.tuple [.int a, .int b]) = true ∧ SeqAt.shaped (.tuple [.int c, .int d]) = true then some (PyData.eqv (.tuple [.int a, .int b]) (.tuple [.int c, .int d])) else none := rfl
  rw [h, if_pos ⟨rfl, rfl⟩]
  show some ((a == c) && ((b == d) && true)) = _
  rw [Bool.and_true]
  by_cases e1 : a = c <;> by_cases e2 : b = d <;> simp [e1, e2]
end Ev

namespace Ev
open PySem PySem.Spec PyProof.Rows L2

/-! ### loops, told by what is walked -/
section
variable {G : Gam} {R : D → Stt → Prop} {Ee : Str → List D → Env → Stt → Prop} {N : Env → Stt → Prop} {e : Env} {st : Stt}
theorem ws_for {tg : Tg} {it : It} {b : Ss} : Ws (evS G (.for tg it b) e st) N R Ee = Wp (evIt G e it st) (fun I s => Ws (forGo I.live tg (fun e st => evSs G b e st) I.xs e s) N R Ee) (fun c fs s => Ee c fs e s) := by
  simp only [evS, ws_then]
theorem for_I {tg : Tg} {body : Env → Stt → Rf} {xs : List D} (I : Nat → Env → Stt → Prop) (h0 : I 0 e st)
    (hs : ∀ i x e st, xs[i]? = some x → I i e st → ∃ e', asgD tg x e = some e' ∧ Ws (body e' st) (I (i + 1)) R Ee) (hf : ∀ e st, I xs.length e st → N e st) : Ws (forGo [] tg body xs e st) N R Ee := by
  refine ws_forGo I xs 0 e st h0 (fun i x e st hx h => ⟨rfl, ?_⟩) (fun e st h => ⟨rfl, ?_⟩)
  · rw [Nat.zero_add] at h ⊢; exact hs i x e st hx h
  · rw [Nat.zero_add] at h; exact hf e st h
theorem live_of {l : Nat} {xs : List D} (h : stLst st l = some xs) : liveOk st [(l, xs)] = true := by
  unfold liveOk
  simp only [List.all_cons, h, sames_refl, List.all_nil, Bool.and_self]
theorem for_L {tg : Tg} {body : Env → Stt → Rf} {l : Nat} {xs : List D} (I : Nat → Env → Stt → Prop) (h0 : I 0 e st) (hl : ∀ i e st, I i e st → stLst st l = some xs)
    (hs : ∀ i x e st, xs[i]? = some x → I i e st → ∃ e', asgD tg x e = some e' ∧ Ws (body e' st) (I (i + 1)) R Ee) (hf : ∀ e st, I xs.length e st → N e st) : Ws (forGo [(l, xs)] tg body xs e st) N R Ee := by
  refine ws_forGo I xs 0 e st h0 (fun i x e st hx h => ?_) (fun e st h => ?_)
  · rw [Nat.zero_add] at h ⊢; exact ⟨live_of (hl _ _ _ h), hs i x e st hx h⟩
  · rw [Nat.zero_add] at h; exact ⟨live_of (hl _ _ _ h), hf e st h⟩
theorem rngI_len {a : Int} {n : Nat} : (rngI a n).length = n := by simp [rngI]
theorem rngI_at {a : Int} {n i : Nat} {x : D} (h : (rngI a n)[i]? = some x) : i < n ∧ x = .int (a + i) := by
  simp only [rngI, List.getElem?_map, Option.map_eq_some_iff] at h
  obtain ⟨b, hb, rfl⟩ := h
  have hl := (List.getElem?_eq_some_iff.mp hb).1
  rw [List.length_range] at hl
  rw [List.getElem?_range hl] at hb
  cases hb
  exact ⟨hl, rfl⟩
theorem for_R {j : Nat} {body : Env → Stt → Rf} {a : Int} {n : Nat} (I : Nat → Env → Stt → Prop) (h0 : I 0 e st)
    (hs : ∀ i e st, i < n → I i e st → j < e.length ∧ Ws (body (e.set j (some (.int (a + (i : Int))))) st) (I (i + 1)) R Ee) (hf : ∀ e st, I n e st → N e st) : Ws (forGo [] (.nm j) body (rngI a n) e st) N R Ee := by
  refine for_I I h0 (fun i x e st hx h => ?_) (fun e st h => hf e st (by rw [rngI_len] at h; exact h))
  obtain ⟨hi, rfl⟩ := rngI_at hx
  obtain ⟨h1, h2⟩ := hs i e st hi h
  exact ⟨_, by simp only [asgD, h1, if_true], h2⟩
end
/-! ### comprehensions -/
section
variable {st : Stt} {step : D → Stt → Rs (Option D)} {live : List (Nat × List D)} {Q : List D → Stt → Prop} {E : Str → List D → Stt → Prop}
theorem lc_go (I : Nat → List D → Stt → Prop) : ∀ (xs : List D) (k : Nat) (acc : List D) (st : Stt), I k acc st →
    (∀ i x acc s, xs[i]? = some x → I (k + i) acc s → liveOk s live = true ∧ Wp (step x s) (fun y s' => I (k + i + 1) (acc ++ y.toList) s') (fun _ _ _ => False)) →
    (∀ acc s, I (k + xs.length) acc s → liveOk s live = true) → Wp (lcGo live step xs st) (fun ys s => I (k + xs.length) (acc ++ ys) s) E
  | [], k, acc, st, h0, _, hl => by
    have := hl acc st h0
    simp only [lcGo, this, if_true, wp_ok, List.append_nil]
    exact h0
  | x :: r, k, acc, st, h0, hs, hl => by
    obtain ⟨h1, h2⟩ := hs 0 x acc st rfl h0
    simp only [lcGo, h1, if_true]
    cases q : step x st with
    | bad => rw [q] at h2; exact h2.elim
    | exc c fs s => rw [q] at h2; exact h2.elim
    | ok y s =>
      rw [q, wp_ok] at h2
      have ih := lc_go I r (k + 1) (acc ++ y.toList) s h2 (fun i z acc s hz h => by
        have := hs (i + 1) z acc s (by simpa using hz) (by rw [show k + (i + 1) = k + 1 + i from by omega]; exact h)
        rw [show k + (i + 1) + 1 = k + 1 + i + 1 from by omega] at this
        exact this) (fun acc s h => hl acc s (by rw [List.length_cons, show k + (r.length + 1) = k + 1 + r.length from by omega]; exact h))
      simp only
      cases q2 : lcGo live step r s with
      | bad => rw [q2] at ih; exact ih.elim
      | exc c fs s2 =>
        have : ∀ (xs : List D) (s : Stt), lcGo live step xs s ≠ .exc c fs s2 := by
          intro xs
          induction xs with
          | nil => intro s h; unfold lcGo at h; split at h <;> cases h
          | cons a r ih =>
            intro s h
            unfold lcGo at h
            split at h
            · split at h
              · split at h <;> cases h
              · cases h
            · cases h
        exact absurd q2 (this r s)
      | ok ys s2 =>
        rw [q2, wp_ok] at ih
        simp only [wp_ok, List.length_cons]
        rw [show k + (r.length + 1) = k + 1 + r.length from by omega]
        cases y with
        | none => simpa using ih
        | some z => simpa using ih
/-- a comprehension with turns that change the store -/
theorem lc_I {xs : List D} (I : Nat → List D → Stt → Prop) (h0 : I 0 [] st) (hl : ∀ i acc s, I i acc s → liveOk s live = true)
    (hs : ∀ i x acc s, xs[i]? = some x → I i acc s → Wp (step x s) (fun y s' => I (i + 1) (acc ++ y.toList) s') (fun _ _ _ => False))
    (hf : ∀ ys s, I xs.length ys s → Q ys s) : Wp (lcGo live step xs st) Q E := by
  refine wp_mono (lc_go (E := E) I xs 0 [] st h0 (fun i x acc s hx h => ?_) (fun acc s h => hl _ _ _ h)) (fun ys s h => hf ys s (by simpa using h)) (fun _ _ _ h => h)
  rw [Nat.zero_add] at h ⊢
  exact ⟨hl _ _ _ h, hs i x acc s hx h⟩
/-- .. that change nothing, of whatever is walked -/
theorem lc_mapL {xs : List D} {f : D → D} (hl : liveOk st live = true) (h : ∀ x ∈ xs, step x st = .ok (some (f x)) st) : lcGo live step xs st = .ok (xs.map f) st := by
  induction xs with
  | nil => simp [lcGo, hl]
  | cons x r ih =>
    have h1 := h x (by simp)
    have h2 := ih fun y hy => h y (by simp [hy])
    simp only [lcGo, hl, if_true, h1, h2, List.map_cons]
theorem lc_mp {xs : List D} {f : D → D} (h : ∀ x ∈ xs, step x st = .ok (some (f x)) st) : lcGo [] step xs st = .ok (xs.map f) st := lc_mapL rfl h
theorem lc_mpI {xs : List D} (f : Nat → D → D) (h : ∀ i x, xs[i]? = some x → step x st = .ok (some (f i x)) st) (hl : liveOk st live = true) : lcGo live step xs st = .ok (xs.mapIdx f) st := by
  induction xs generalizing f with
  | nil => simp [lcGo, hl]
  | cons x r ih =>
    have h1 := h 0 x rfl
    have h2 := ih (fun i => f (i + 1)) fun i y hy => h (i + 1) y (by simpa using hy)
    simp only [lcGo, hl, if_true, h1, h2, List.mapIdx_cons]
theorem lc_mpf {xs : List D} {f : D → Option D} (hl : liveOk st live = true) (h : ∀ x ∈ xs, step x st = .ok (f x) st) : lcGo live step xs st = .ok (xs.filterMap f) st := by
  induction xs with
  | nil => simp [lcGo, hl]
  | cons x r ih =>
    have h1 := h x (by simp)
    have h2 := ih fun y hy => h y (by simp [hy])
    simp only [lcGo, hl, if_true, h1, h2]
    cases e : f x <;> simp [List.filterMap_cons, e]
theorem bools_map {α : Type} {xs : List α} {f : α → Bool} : boolsOf (xs.map fun x => .bl (f x)) = some (xs.map f) := by
  induction xs with
  | nil => rfl
  | cons x r ih => simp [boolsOf, ih]
theorem ints_map {α : Type} {ls : List α} {f : α → Int} : intsOf (ls.map fun x => .int (f x)) = some (ls.map f) := by
  induction ls with
  | nil => rfl
  | cons x r ih => simp [intsOf, ih]
theorem ints_int {ls : List Int} : intsOf (ls.map .int) = some ls := by
  have := ints_map (ls := ls) (f := id)
  simpa using this
end
/-! ### what is told of places -/
section
variable {st s s2 : Stt} {p l k : Nat} {xs : List D} {o : Ob} {r : Stt}
theorem ixl {i : Int} : ixA (.d (.loc l)) (.d (.int i)) st = (stLst st l).bind fun xs => (atI xs i).map .d := by
  simp only [ixA, seqOf, tupOf, lstOf]
  all_goals (first | rfl | (cases stLst st l <;> rfl))
theorem trl : truA (.d (.loc l)) st = match stLst st l with
    | some xs => .ok (!xs.isEmpty) st
    | none => .bad := by
  unfold truA
  simp only [lstOf]
  all_goals (first | rfl | (cases stLst st l <;> rfl))
theorem lenl : biA "len" [.d (.loc l)] st = ofO ((stLst st l).map fun xs => A.d (.int xs.length)) st := rfl
theorem tuplel : biA "tuple" [.d (.loc l)] st = ofO ((stLst st l).map fun xs => A.d (.tup xs)) st := rfl
theorem listl : biA "list" [.d (.loc l)] st = ofO ((stLst st l).map .l) st := rfl
theorem alll : biA "all" [.d (.loc l)] st = ofO ((stLst st l).bind fun xs => (boolsOf xs).map fun bs => A.d (.bl (bs.all id))) st := rfl
theorem suml : biA "sum" [.d (.loc l)] st = ofO ((stLst st l).bind fun xs => (intsOf xs).map fun bs => A.d (.int bs.sum)) st := rfl
theorem srcl : srcA st (.d (.loc l)) = (stLst st l).map fun xs => ⟨xs, [(l, xs)]⟩ := rfl
theorem seql : seqOf st (.d (.loc l)) = stLst st l := rfl
theorem slt {xs : List D} {lo hi : Option Int} : slA (.d (.tup xs)) lo hi st = some (.d (.tup (cutD xs lo hi))) := rfl
theorem sll {lo hi : Option Int} : slA (.d (.loc l)) lo hi st = (stLst st l).map fun xs => .l (cutD xs lo hi) := rfl
theorem slL {lo hi : Option Int} : slA (.l xs) lo hi st = some (.l (cutD xs lo hi)) := rfl
theorem mt_app {y : D} : mtA "append" (.d (.loc l)) [.d y] st = match stLst st l with
    | some xs => if lenOk xs.length then .ok (.d .non) (st.set l (.lst (xs ++ [y]))) else .bad
    | none => .bad := rfl
theorem rcv_app : rcv "append" (.d (.loc l)) st = (stLst st l).isSome := by
  have : mtab.lookup ("append" : Str) = some ("list", "list.append") := by decide +kernel
  simp only [rcv, this]
  rfl
end
/-! ### a module's numbers -/
def Gam.gcs (G : Gam) (t : List (Str × Int)) : Gam := { G with gc := fun x => (t.lookup x).map D.int }
theorem GOk.gcs {P : Program} {w : World} {K : PySem.W.Frag} {mg : Str → Option Value} {base : Heap} {k : Nat} {G : Gam} (gx : GOk P w K mg base k G) {t : List (Str × Int)} (h : AllL (fun p => ∃ t', mg p.1 = some (.int p.2 t')) t) : GOk P w K mg base k (G.gcs t) where
  fn := gx.fn
  gc := fun x d q => by
    have q : (t.lookup x).map D.int = some d := q
    simp only [Option.map_eq_some_iff] at q
    obtain ⟨i, h1, rfl⟩ := q
    obtain ⟨t', h2⟩ := h.mem _ (PySem.mem_of_lookup h1)
    exact ⟨_, .int i, h2, ⟨_, rfl⟩, fun H ρ => .int i⟩
  bt := gx.bt
  xc := gx.xc
  ist := gx.ist
  cl := gx.cl
  sub := gx.sub
theorem ev_gc {G : Gam} {env : Env} {st : Stt} {x : Str} {d : D} (h : G.gc x = some d) : evA G env (.g x) st = .ok (.d d) st := by
  simp only [evA, h]
end Ev

namespace Ev
open PySem PySem.Spec PyProof.Rows L2
section
variable {G : Gam} {R : D → Stt → Prop} {Ee : Str → List D → Env → Stt → Prop} {N : Env → Stt → Prop} {e : Env} {st : Stt} {E : Str → List D → Stt → Prop}
/-- one statement; what stands behind it is K -/
theorem ws_next {s : Sx} {r : Ss} (h : ∀ K : Env → Stt → Prop, (∀ e s, Ws (evSs G r e s) N R Ee → K e s) → Ws (evS G s e st) K R Ee) : Ws (evSs G (.cons s r) e st) N R Ee := by
  rw [ws_cons]
  exact h _ fun _ _ h => h
theorem evF_i {m n : Nat} {b : Ss} {xs : List D} (h : xs.length = m) (hw : Ws (evSs G b (xs.map some ++ List.replicate (n - xs.length) none) st) (fun _ s => R .non s) R (fun c fs _ s => E c fs s)) : Wp (evF G m n b xs st) R E := by
  rw [wp_evF h]; exact hw
theorem recF_i {f : Str} {m n d : Nat} {b : Ss} {xs : List D} (h : xs.length = m) (hw : Ws (evSs (G.add f (recF G f m n b d)) b (xs.map some ++ List.replicate (n - xs.length) none) st) (fun _ s => R .non s) R (fun c fs _ s => E c fs s)) : Wp (recF G f m n b (d + 1) xs st) R E := by
  rw [recF, wp_evF h]; exact hw
theorem exc_of_wp {α : Type} {m : Rs α} {c0 : Str} {s0 : Stt} (h : Wp m (fun _ _ => False) (fun c fs s => c = c0 ∧ fs = [] ∧ s = s0)) : m = .exc c0 [] s0 := by
  cases m with
  | ok a s => exact h.elim
  | exc c fs s => obtain ⟨rfl, rfl, rfl⟩ := h; rfl
  | bad => exact h.elim
end
theorem powB10 {j : Int} (h0 : 0 ≤ j) (h1 : j ≤ 100000) : powB 10 j = True := eq_true (pow_ok (b := 64) (by decide) h0 (by omega))
theorem divB_lit {j : Int} (h0 : (j = 0) = False) (h1 : j < 2 ^ 250) (h2 : -(2 ^ 250) < j) : divB j = True := eq_true (divB_of (b := 250) (by intro h; rw [h0] at h; exact h) (by omega) (by decide))
theorem mulB_lit {i j : Int} (h1 : i < 2 ^ 250) (h2 : -(2 ^ 250) < i) (h3 : j < 2 ^ 250) (h4 : -(2 ^ 250) < j) : mulB i j = True := eq_true (mulB_of (a := 250) (b := 250) (by omega) (by omega) (by decide))
/-! ### things -/
/-- nothing that was there has changed but the places T -/
def Kp (T : List Nat) (st s : Stt) : Prop := st.length ≤ s.length ∧ ∀ l, l ∉ T → l < st.length → s[l]? = st[l]?
section
variable {T T' : List Nat} {st s s2 r : Stt} {l p : Nat} {o : Ob} {xs : List D}
theorem Kp.refl : Kp T st st := ⟨Nat.le_refl _, fun _ _ _ => rfl⟩
theorem Kp.trans (h : Kp T st s) (g : Kp T s s2) : Kp T st s2 := ⟨Nat.le_trans h.1 g.1, fun l n q => (g.2 l n (Nat.lt_of_lt_of_le q h.1)).trans (h.2 l n q)⟩
theorem Kp.set (h : l ∈ T) : Kp T st (st.set l o) := ⟨by simp, fun k n _ => by rw [List.getElem?_set_ne]; rintro rfl; exact n h⟩
theorem Kp.app : Kp T st (st ++ r) := ⟨by simp, fun l _ q => by rw [List.getElem?_append_left q]⟩
theorem Kp.lst (h : Kp T st s) (n : l ∉ T) (e : stLst st l = some xs) : stLst s l = some xs := by
  rw [stLst_of (h.2 l n (stLst_lt e))]; exact e
theorem Kp.mono (h : Kp T st s) (k : ∀ l ∈ T, l ∈ T' ∨ st.length ≤ l) : Kp T' st s := ⟨h.1, fun l n q => h.2 l (fun m => (k l m).elim n fun z => by omega) q⟩
theorem Keep.kp (h : Keep p st s) (m : p ∈ T) : Kp T st s := ⟨h.1, fun l n q => h.2 l (fun e => n (e ▸ m)) q⟩
theorem Keep.kp1 (h : Keep p st s) : Kp [p] st s := h.kp (by simp)
theorem Kp.len (h : Kp T st s) : st.length ≤ s.length := h.1
end
inductive Okd (T : List Nat) (m : Nat) (st : Stt) : D → Prop
  | non : Okd T m st .non
  | bl (b : Bool) : Okd T m st (.bl b)
  | int (i : Int) : Okd T m st (.int i)
  | str {x : Str} : x.length ≤ 1000000 → Okd T m st (.str x)
  | tup {xs : List D} : xs.length ≤ m → (∀ x ∈ xs, Okd T m st x) → Okd T m st (.tup xs)
  | loc {l : Nat} {xs : List D} : l ∉ T → stLst st l = some xs → Okd T m st (.loc l)
  | dic {l : Nat} {kvs : List (L2.Key × D)} : l ∉ T → st[l]? = some (.dic kvs) → Okd T m st (.loc l)
section
variable {p T' : List Nat} {m n : Nat} {st s : Stt} {d : D} {G : Gam}
theorem Okd.mono (h : Okd p m st d) (k : Kp p st s) : Okd p m s d := by
  induction h with
  | non => exact .non
  | bl b => exact .bl b
  | int i => exact .int i
  | str h => exact .str h
  | tup h1 _ ih => exact .tup h1 ih
  | loc h1 h2 => exact .loc h1 (k.lst h1 h2)
  | dic h1 h2 => exact .dic h1 ((k.2 _ h1 (List.getElem?_eq_some_iff.mp h2).1).trans h2)
/-- .. beside more places, that are new -/
theorem Okd.more (h : Okd p m st d) (k : ∀ l ∈ T', l ∈ p ∨ st.length ≤ l) : Okd T' m st d := by
  induction h with
  | non => exact .non
  | bl b => exact .bl b
  | int i => exact .int i
  | str h => exact .str h
  | tup h1 _ ih => exact .tup h1 ih
  | loc h1 h2 => exact .loc (fun q => (k _ q).elim h1 fun z => by have := stLst_lt h2; omega) h2
  | dic h1 h2 => exact .dic (fun q => (k _ q).elim h1 fun z => by have := (List.getElem?_eq_some_iff.mp h2).1; omega) h2
theorem Okd.le (h : Okd p m st d) (k : m ≤ n) : Okd p n st d := by
  induction h with
  | non => exact .non
  | bl b => exact .bl b
  | int i => exact .int i
  | str h => exact .str h
  | tup h1 _ ih => exact .tup (Nat.le_trans h1 k) ih
  | loc h1 h2 => exact .loc h1 h2
  | dic h1 h2 => exact .dic h1 h2
def isInt : D → Bool
  | .int _ => true
  | .bl _ => true
  | _ => false
def isBl : D → Bool
  | .bl _ => true
  | _ => false
def isTpD : D → Bool
  | .tup _ => true
  | _ => false
def isStr : D → Bool
  | .str _ => true
  | _ => false
def isWhole : D → Bool
  | .int _ => true
  | _ => false
theorem Okd.isi_int (h : Okd p m st d) : isiA G st (.d d) ["int"] = some (isInt d) := by
  cases h with
  | loc h1 h2 => rw [isi_loc h2]; exact isiT_list_int
  | dic h1 h2 => rw [isi_dic h2]; exact isiT_dict_int
  | non => rw [isi_non]; exact isiT_NoneType_int
  | bl b => rw [isi_bl]; exact isiT_bool_int
  | int i => rw [Ev.isi_int]; exact isiT_int_int
  | str h => rw [isi_str]; exact isiT_str_int
  | tup h1 h2 => rw [isi_tup]; exact isiT_tuple_int
theorem Okd.isi_bool (h : Okd p m st d) : isiA G st (.d d) ["bool"] = some (isBl d) := by
  cases h with
  | loc h1 h2 => rw [isi_loc h2]; exact isiT_list_bool
  | dic h1 h2 => rw [isi_dic h2]; exact isiT_dict_bool
  | non => rw [isi_non]; exact isiT_NoneType_bool
  | bl b => rw [isi_bl]; exact isiT_bool_bool
  | int i => rw [Ev.isi_int]; exact isiT_int_bool
  | str h => rw [isi_str]; exact isiT_str_bool
  | tup h1 h2 => rw [isi_tup]; exact isiT_tuple_bool
theorem Okd.isi_tuple (h : Okd p m st d) : isiA G st (.d d) ["tuple"] = some (isTpD d) := by
  cases h with
  | loc h1 h2 => rw [isi_loc h2]; exact isiT_list_tuple
  | dic h1 h2 => rw [isi_dic h2]; exact isiT_dict_tuple
  | non => rw [isi_non]; exact isiT_NoneType_tuple
  | bl b => rw [isi_bl]; exact isiT_bool_tuple
  | int i => rw [Ev.isi_int]; exact isiT_int_tuple
  | str h => rw [isi_str]; exact isiT_str_tuple
  | tup h1 h2 => rw [isi_tup]; exact isiT_tuple_tuple
theorem Okd.isi_str (h : Okd p m st d) : isiA G st (.d d) ["str"] = some (isStr d) := by
  cases h with
  | loc h1 h2 => rw [isi_loc h2]; exact isiT_list_str
  | dic h1 h2 => rw [isi_dic h2]; exact isiT_dict_str
  | non => rw [isi_non]; exact isiT_NoneType_str
  | bl b => rw [isi_bl]; exact isiT_bool_str
  | int i => rw [Ev.isi_int]; exact isiT_int_str
  | str h => rw [Ev.isi_str]; exact isiT_str_str
  | tup h1 h2 => rw [isi_tup]; exact isiT_tuple_str
theorem Okd.tup_in {xs : List D} (h : Okd p m st (.tup xs)) : xs.length ≤ m ∧ ∀ x ∈ xs, Okd p m st x := by
  cases h with
  | tup h1 h2 => exact ⟨h1, h2⟩
theorem isTpD_of (h : isTpD d = true) : ∃ xs, d = .tup xs := by
  cases d <;> simp [isTpD] at h
  exact ⟨_, rfl⟩
theorem isWhole_of (h : isWhole d = true) : ∃ i, d = .int i := by
  cases d <;> simp [isWhole] at h
  exact ⟨_, rfl⟩
theorem isWhole_eq : isWhole d = (isInt d && !isBl d) := by cases d <;> rfl
def areWholes (d : D) (n : Int) : Bool := match d with
  | .tup xs => decide ((xs.length : Int) = n) && xs.all isWhole
  | _ => false
/-- whole numbers as data -/
theorem wholes_ints {xs : List D} (h : xs.all isWhole = true) : ∃ ns : List Int, xs = ns.map .int := by
  induction xs with
  | nil => exact ⟨[], rfl⟩
  | cons x r ih =>
    rw [List.all_cons, Bool.and_eq_true] at h
    obtain ⟨i, rfl⟩ := isWhole_of h.1
    obtain ⟨ns, rfl⟩ := ih h.2
    exact ⟨i :: ns, rfl⟩
theorem areWholes_of {d : D} {n : Nat} (h : areWholes d n = true) : ∃ ns : List Int, d = .tup (ns.map .int) ∧ ns.length = n := by
  unfold areWholes at h
  split at h
  · simp only [Bool.and_eq_true, decide_eq_true_eq] at h
    obtain ⟨ns, rfl⟩ := wholes_ints h.2
    refine ⟨ns, rfl, ?_⟩
    have := h.1
    rw [List.length_map] at this
    omega
  · cases h
end
section
variable {G : Gam} {env : Env} {st : Stt} {a b : Ex}
theorem ev_zip : evIt G env (.zip a b) st = (evA G env a st).bind fun x st => (evA G env b st).bind fun y st => match srcA st x, srcA st y with
    | some I, some J => if (tupOf x).isSome = (tupOf y).isSome then .ok ⟨List.zipWith (fun u w => .tup [u, w]) I.xs J.xs, I.live ++ J.live⟩ st else .bad
    | _, _ => .bad := by rw [evIt] <;> rfl
theorem ev_enum : evIt G env (.enum a) st = (evA G env a st).bind fun x st => match srcA st x with
    | some I => .ok ⟨enumI 0 I.xs, I.live⟩ st
    | none => .bad := by rw [evIt] <;> rfl
theorem tupOf_t {xs : List D} : tupOf (.d (.tup xs)) = some xs := rfl
theorem tupOf_l {xs : List D} : tupOf (.l xs) = none := rfl
theorem tupOf_loc {l : Nat} : tupOf (.d (.loc l)) = none := rfl
end
section
variable {G : Gam} {env : Env} {st : Stt} {N : Env → Stt → Prop} {R : D → Stt → Prop} {Ee : Str → List D → Env → Stt → Prop}
theorem ev_gf {x : Str} {F : List D → M D} (h : G.gc x = none) (h2 : G.fn x = some F) : evA G env (.g x) st = .ok (.d (.obj x)) st := by
  simp only [evA, h, h2, Option.isSome_some, if_true]
theorem ws_raise2 {c : Str} : Ws (evS G (.raise c .nil) env st) N R Ee = (G.xc c = true ∧ Ee c [] env st) := by
  by_cases h : G.xc c = true
  · rw [ws_raise h]; simp [h]
  · simp only [evS, h]
    simp [Ws]
end
theorem mem_cutD {xs : List D} {lo hi : Option Int} {x : D} (h : x ∈ cutD xs lo hi) : x ∈ xs := List.mem_of_mem_drop (List.mem_of_mem_take h)
section
variable {st : Stt} {l : Nat} {i : Int} {y : D} {zs : List D}
theorem mt_extL : mtA "extend" (.d (.loc l)) [.l zs] st = match stLst st l with
    | some xs => if lenOk (xs.length + zs.length) then .ok (.d .non) (st.set l (.lst (xs ++ zs))) else .bad
    | none => .bad := by
  unfold mtA
  simp only [show ("extend" : Str) ≠ "append" by decide +kernel, show ("extend" : Str) ≠ "pop" by decide +kernel, if_false, if_true, lstM]
  all_goals (first | rfl | (cases stLst st l <;> rfl))
theorem mt_insD : mtA "insert" (.d (.loc l)) [.d (.int i), .d y] st = match stLst st l with
    | some xs => if lenOk xs.length ∧ 0 ≤ i ∧ i < 2 ^ 62 then .ok (.d .non) (st.set l (.lst (xs.take i.toNat ++ [y] ++ xs.drop i.toNat))) else .bad
    | none => .bad := by
  unfold mtA
  simp only [show ("insert" : Str) ≠ "append" by decide +kernel, show ("insert" : Str) ≠ "pop" by decide +kernel, show ("insert" : Str) ≠ "extend" by decide +kernel, if_false, if_true]
  all_goals (first | rfl | (cases stLst st l <;> rfl))
theorem mt_pop0 : mtA "pop" (.d (.loc l)) [] st = match stLst st l with
    | some xs => match xs[xs.length - 1]? with
      | some y => .ok (.d y) (st.set l (.lst xs.dropLast))
      | none => .bad
    | none => .bad := by
  unfold mtA
  simp only [show ("pop" : Str) ≠ "append" by decide +kernel, if_false, if_true]
  all_goals (first | rfl | (cases stLst st l <;> rfl))
theorem rcv_ext : rcv "extend" (.d (.loc l)) st = (stLst st l).isSome := by
  have : mtab.lookup ("extend" : Str) = some ("list", "list.extend") := by decide +kernel
  simp only [rcv, this]
  rfl
theorem rcv_ins : rcv "insert" (.d (.loc l)) st = (stLst st l).isSome := by
  have : mtab.lookup ("insert" : Str) = some ("list", "list.insert") := by decide +kernel
  simp only [rcv, this]
  rfl
theorem rcv_pop : rcv "pop" (.d (.loc l)) st = (stLst st l).isSome := by
  have : mtab.lookup ("pop" : Str) = some ("list", "list.pop") := by decide +kernel
  simp only [rcv, this]
  rfl
end
theorem bin_tm {st : Stt} {xs : List D} {k : Int} {QA : A → Stt → Prop} {E : Str → List D → Stt → Prop} : Wp (binA .Mult (.d (.tup xs)) (.d (.int k)) st) QA E = ((lenOk xs.length = true ∧ lenOk (xs.length * k.toNat) = true ∧ -(2 ^ 62) ≤ k ∧ k < 2 ^ 62) ∧ QA (.d (.tup (List.replicate k.toNat xs).flatten)) st) := by
  simp only [binA]
  split <;> rename_i h
  · simp only [Wp]; exact propext ⟨fun q => ⟨h, q⟩, fun q => q.2⟩
  · simp only [Wp]; exact propext ⟨fun q => q.elim, fun q => h q.1⟩
end Ev

open PySem Ev in
local macro_rules | `(tactic| walk_at $s:str) => do
  let ns := s.getString.splitOn " "
  let hd := ns.headD ""
  if hd != "ev" && hd != "nx" && hd != "e" then Lean.Macro.throwUnsupported
  let star := ns.contains "*"
  let ids : Array (Lean.TSyntax `Lean.Parser.Tactic.simpLemma) ← ((ns.drop 1).filter (fun n => n != "*" && n != "")).toArray.mapM fun n => `(Lean.Parser.Tactic.simpLemma| $(Lean.mkIdent n.toName):ident)
  let b0 : Array Lean.Name := #[`Ev.bin_tm, `Ev.ev_rev, `Ev.ev_dic1, `Ev.eq_te, `Ev.mt_extL, `Ev.mt_insD, `Ev.mt_pop0, `Ev.rcv_ext, `Ev.rcv_ins, `Ev.rcv_pop, `Ev.ws_raise2, `Ev.ev_callv, `Ev.ev_zip, `Ev.ev_enum, `Ev.tupOf_t, `Ev.tupOf_l, `Ev.tupOf_loc, `List.append_nil, `Option.isSome_none, `Option.isNone_some, `Option.isNone_none, `Ev.powB10, `Ev.divB_lit, `Ev.mulB_lit, `Ev.ws_nil, `Ev.ws_asg, `Ev.ws_un, `Ev.ws_st, `Ev.ws_ret, `Ev.ws_ret0, `Ev.ws_ife, `Ev.ws_ex, `Ev.ws_pass, `Ev.wp_tst, `Ev.ev_v, `Ev.ev_c, `Ev.ev_bin, `Ev.ev_neg, `Ev.ev_negg, `Ev.ev_nt, `Ev.ev_and, `Ev.ev_or, `Ev.ev_and1, `Ev.ev_and2, `Ev.ev_or1, `Ev.ev_or2, `Ev.ev_cmp, `Ev.ev_cmp2,
`Ev.ev_cmp3,
`Ev.ev_nset,
`Ev.ev_rglL,
`Ev.ev_rglT,
`Ev.cmp_in,
`Ev.cmp_nin, `Ev.ev_bi, `Ev.ev_mt, `Ev.ev_isi, `Ev.ev_ix, `Ev.ev_sl, `Ev.ev_tup, `Ev.ev_lst, `Ev.ev_dict0, `Ev.ev_ife, `Ev.ev_es0, `Ev.ev_es1, `Ev.ev_as0, `Ev.ev_as1, `Ev.ev_no, `Ev.ev_so, `Ev.part_i, `Ev.evA_lc, `Ev.ev_val, `Ev.src_t, `Ev.src_l, `Ev.wipeE, `Ev.wp_bind, `Ev.wp_ok, `Ev.wp_some, `Ev.wp_ite, `Ev.ws_ite, `Ev.al_d, `Ev.al_l, `Ev.tr_bl, `Ev.tr_non, `Ev.tr_int, `Ev.tr_tup, `Ev.tr_l, `Ev.bin_add, `Ev.bin_sub, `Ev.wp_mul, `Ev.wp_div, `Ev.wp_mod, `Ev.wp_pow, `Ev.bin_tup, `Ev.bin_ll, `Ev.lt_i, `Ev.le_i, `Ev.gt_i, `Ev.ge_i, `Ev.is_nn, `Ev.isn_nn, `Ev.is_bb, `Ev.isn_bb, `Ev.is_tn, `Ev.is_in, `Ev.isn_tn, `Ev.isn_in, `Ev.cmp_eq, `Ev.cmp_ne, `Ev.eq_ii, `Ev.eq_bb, `List.map_cons, `List.map_nil, `List.cons_append, `List.nil_append, `List.length_cons, `List.length_nil, `List.replicate, `Nat.reduceAdd, `Nat.reduceSub, `Nat.reduceLT, `List.getElem?_cons_zero, `List.getElem?_cons_succ, `List.set_cons_zero, `List.set_cons_succ, `true_and, `and_true, `Ev.bi_len_tup, `Ev.bi_len_l, `Ev.bi_all_l, `Ev.bi_any_l, `Ev.bi_sum_l, `Ev.bi_abs, `Ev.bi_int_b, `Ev.bi_int_i, `Ev.bi_max, `Ev.bi_min, `Ev.bi_list_tup, `Ev.bi_tuple_l, `Ev.bi_list_l, `Ev.isi_non, `Ev.isi_bl, `Ev.isi_int, `Ev.isi_str, `Ev.isi_tup, `Ev.isi_l, `Ev.isi_rol, `Ev.isiT_list_int, `Ev.isiT_NoneType_int, `Ev.isiT_bool_int, `Ev.isiT_int_int, `Ev.isiT_str_int, `Ev.isiT_tuple_int, `Ev.isiT_dict_int, `Ev.isiT_list_bool, `Ev.isiT_NoneType_bool, `Ev.isiT_bool_bool, `Ev.isiT_int_bool, `Ev.isiT_str_bool, `Ev.isiT_tuple_bool, `Ev.isiT_dict_bool, `Ev.isiT_list_tuple, `Ev.isiT_NoneType_tuple, `Ev.isiT_bool_tuple, `Ev.isiT_int_tuple, `Ev.isiT_str_tuple, `Ev.isiT_tuple_tuple, `Ev.isiT_dict_tuple, `Ev.isiT_list_list, `Ev.isiT_NoneType_list, `Ev.isiT_bool_list, `Ev.isiT_int_list, `Ev.isiT_str_list, `Ev.isiT_tuple_list, `Ev.isiT_dict_list, `Ev.isiT_list_str, `Ev.isiT_NoneType_str, `Ev.isiT_bool_str, `Ev.isiT_int_str, `Ev.isiT_str_str, `Ev.isiT_tuple_str, `Ev.isiT_dict_str, `Option.map_some, `Bool.not_true, `Bool.not_false, `if_true, `if_false, `Bool.false_eq_true, `decide_eq_true_eq, `Bool.not_eq_true', `decide_eq_false_iff_not, `Ev.asg_nm, `Ev.asg_tup, `Ev.asgs_nil, `Ev.asgs_cons, `Ev.some_bindO, `Ev.if_no, `Ev.if_so, `Ev.lcStep, `Ev.evE, `Ev.wp_exc, `Ev.ws_exc, `Ev.eq_tt, `Ev.ws_try, `Ev.isi_exn, `Ev.bi_len_str, `Ev.bi_str, `Ev.ix_set, `Ev.ix_ne, `Ev.stLst_same, `List.set_set, `List.length_set, `Int.reduceEq, `Int.reduceLT, `Int.reduceLE, `Int.reduceMul, `Int.reduceAdd, `Int.reduceSub, `Int.reduceNeg, `Int.reduceToNat, `Int.reducePow, `Int.reduceFMod, `Int.reduceFDiv, `Ev.bin_last, `Ev.ix_last, `reduceCtorEq, `not_true_eq_false, `not_false_eq_true, `Int.cast_ofNat_Int, `Bool.true_eq_false, `Ev.at0, `Ev.at1, `Ev.at2, `Ev.at3, `Ev.at4, `Ev.at5, `Ev.ix50, `Ev.ix51, `Ev.ix52, `Ev.ix53, `Ev.ix54, `Ev.ix20, `Ev.ix21, `Ev.A_inj, `Ev.loc_inj, `Ev.int_inj, `Ev.lenOk, `Nat.reduceLeDiff, `decide_true, `Option.some.injEq, `exists_eq_left', `exists_eq_left, `exists_and_left, `ne_eq, `Ev.seqOf, `Ev.tupOf, `Ev.ix_tup, `Ev.ix_l, `Ev.ws_for, `Ev.ev_rng, `Ev.ev_rng2, `Ev.ixl, `Ev.trl, `Ev.lenl, `Ev.tuplel, `Ev.listl, `Ev.alll, `Ev.suml, `Ev.srcl, `Ev.seql, `Ev.slt, `Ev.sll, `Ev.slL, `Ev.mt_app, `Ev.rcv_app, `Option.isSome_some, `Option.bind_some, `Ev.stLst_last]
  let bs : Array (Lean.TSyntax `Lean.Parser.Tactic.simpLemma) ← (if hd == "ev" then b0.push `Ev.ws_cons else b0).mapM fun n => `(Lean.Parser.Tactic.simpLemma| $(Lean.mkIdent n):ident)
  let al := bs ++ ids
  let K := Lean.mkIdent `KK
  let h := Lean.mkIdent `hK
  if hd == "ev" then
    if star then `(tactic| simp only [$al,*, *]) else `(tactic| simp only [$al,*])
  else if hd == "e" then
    if star then `(tactic| ((try simp only [$al,*, *]); (try refine $h:ident _ _ ?_))) else `(tactic| ((try simp only [$al,*]); (try refine $h:ident _ _ ?_)))
  else
    if star then `(tactic| ((refine Ev.ws_next ?_); (intro $K:ident $h:ident); (try simp only [$al,*, *]); (try refine $h:ident _ _ ?_))) else `(tactic| ((refine Ev.ws_next ?_); (intro $K:ident $h:ident); (try simp only [$al,*]); (try refine $h:ident _ _ ?_)))

namespace K07
open PySem Ev
def G0 : Gam := {}
def b_law_pot_of : Ss := .cons (.ret (.lst (.cons (.bi "list" (.cons (.sl (.v 0) .no (.so (.c (.int (63))))) .nil)) (.cons (.c (.int (0))) (.cons (.c (.int (0))) (.cons (.c (.int (0))) (.cons (.c (.int (17))) .nil))))))) .nil
noncomputable def F_law_pot_of : List D → M D := evF G0 1 1 b_law_pot_of
noncomputable def G1 : Gam := G0.add "_law_pot_of" F_law_pot_of
def r_law_mixed_5 : Ss := .cons (.ret (.bin .FloorDiv (.bin .Mod (.bin .Add (.bin .Mult (.v 4) (.v 4)) (.v 3)) (.ix (.v 2) (.bin .Mod (.bin .Add (.v 1) (.c (.int (5)))) (.c (.int (7)))))) (.c (.int (32))))) .nil
def r_law_mixed_4 : Ss := .cons (.asg (.nm 4) (.bin .Mod (.bin .Pow (.v 4) (.c (.int (5)))) (.ix (.v 2) (.bin .Mod (.bin .Add (.v 1) (.c (.int (3)))) (.c (.int (7))))))) r_law_mixed_5
def r_law_mixed_3 : Ss := .cons (.asg (.nm 4) (.bin .Add (.bin .Add (.bin .Add (.bin .Mult (.v 3) (.c (.int (48271)))) (.bin .Mult (.bin .Mult (.c (.int (7919))) (.v 1)) (.v 1))) (.bin .Mod (.v 0) (.c (.int (65537))))) (.c (.int (11))))) r_law_mixed_4
def r_law_mixed_2 : Ss := .cons (.asg (.nm 3) (.bin .Mod (.bin .Pow (.bin .Add (.bin .Add (.v 0) (.bin .Mult (.c (.int (104729))) (.v 1))) (.c (.int (1)))) (.c (.int (3)))) (.ix (.v 2) (.bin .Mod (.v 1) (.c (.int (7))))))) r_law_mixed_3
def r_law_mixed_1 : Ss := .cons (.asg (.nm 2) (.bin .Add (.v 2) (.lst (.cons (.c (.int (2147483563))) (.cons (.c (.int (2147483549))) (.cons (.c (.int (2147483543))) .nil)))))) r_law_mixed_2
def b_law_mixed : Ss := .cons (.asg (.nm 2) (.lst (.cons (.c (.int (2147483647))) (.cons (.c (.int (2147483629))) (.cons (.c (.int (2147483587))) (.cons (.c (.int (2147483579))) .nil)))))) r_law_mixed_1
noncomputable def F_law_mixed : List D → M D := evF G1 2 5 b_law_mixed
noncomputable def G2 : Gam := G1.add "_law_mixed" F_law_mixed
def l_law_draw_0at3 : Ss := .cons (.ife (.cmp (.v 2) .GtE (.bin .Pow (.c (.int (10))) (.c (.int (18))))) (.cons (.st (.v 0) (.c (.int (2))) (.v 2)) .nil) .nil) .nil
def l_law_draw_0at2 : Ss := .cons (.st (.v 0) (.c (.int (4))) (.bin .Mod (.bin .Add (.bin .Mult (.ix (.v 0) (.c (.int (4)))) (.c (.int (31)))) (.v 2)) (.c (.int (1000000007))))) l_law_draw_0at3
def l_law_draw_0at1 : Ss := .cons (.st (.v 0) (.c (.int (1))) (.bin .Add (.ix (.v 0) (.c (.int (1)))) (.c (.int (1))))) l_law_draw_0at2
def l_law_draw_0a : Ss := .cons (.asg (.nm 2) (.ix (.ix (.v 0) (.c (.int (0)))) (.ix (.v 0) (.c (.int (1)))))) l_law_draw_0at1
def l_law_draw_1at2 : Ss := .cons (.ret (.v 3)) .nil
def l_law_draw_1at1 : Ss := .cons (.st (.v 0) (.c (.int (2))) (.bin .FloorDiv (.ix (.v 0) (.c (.int (2)))) (.v 1))) l_law_draw_1at2
def l_law_draw_1a : Ss := .cons (.asg (.nm 3) (.bin .Mod (.ix (.v 0) (.c (.int (2)))) (.v 1))) l_law_draw_1at1
def r_law_draw_3 : Ss := .cons (.ret (.bin .Mod (.call "_law_mixed" (.cons (.ix (.v 0) (.c (.int (4)))) (.cons (.ix (.v 0) (.c (.int (3)))) .nil))) (.v 1))) .nil
def r_law_draw_2 : Ss := .cons (.st (.v 0) (.c (.int (3))) (.bin .Add (.ix (.v 0) (.c (.int (3)))) (.c (.int (1))))) r_law_draw_3
def r_law_draw_1 : Ss := .cons (.ife (.cmp (.ix (.v 0) (.c (.int (2)))) .Gt (.c (.int (0)))) l_law_draw_1a .nil) r_law_draw_2
def b_law_draw : Ss := .cons (.ife (.and (.cons (.cmp (.ix (.v 0) (.c (.int (2)))) .Eq (.c (.int (0)))) (.cons (.cmp (.ix (.v 0) (.c (.int (1)))) .Lt (.bi "len" (.cons (.ix (.v 0) (.c (.int (0)))) .nil))) .nil))) l_law_draw_0a .nil) r_law_draw_1
noncomputable def F_law_draw : List D → M D := evF G2 2 4 b_law_draw
noncomputable def G3 : Gam := G2.add "_law_draw" F_law_draw
theorem g2_law_mixed : G2.fn "_law_mixed" = some F_law_mixed := by kernel_rfl!
theorem c2_law_mixed {env : Ev.Env} {es : Es} {st : Stt} : evA G2 env (.call "_law_mixed" es) st = (evEs G2 env es st).bind fun xs st => (F_law_mixed xs st).bind fun y st => .ok (.d y) st := ev_call g2_law_mixed
def l_law_wide_1 : Ss := .cons (.asg (.nm 2) (.bin .Add (.bin .Mult (.v 2) (.bin .Pow (.c (.int (10))) (.c (.int (6))))) (.call "_law_draw" (.cons (.v 0) (.cons (.bin .Pow (.c (.int (10))) (.c (.int (6)))) .nil))))) .nil
def r_law_wide_2 : Ss := .cons (.ret (.bin .Mod (.v 2) (.v 1))) .nil
def r_law_wide_1 : Ss := .cons (.for (.nm 3) (.rng (.bin .Add (.c (.int (1))) (.bin .FloorDiv (.bi "len" (.cons (.bi "str" (.cons (.v 1) .nil)) .nil)) (.c (.int (6)))))) l_law_wide_1) r_law_wide_2
def b_law_wide : Ss := .cons (.asg (.nm 2) (.c (.int (0)))) r_law_wide_1
noncomputable def F_law_wide : List D → M D := evF G3 2 4 b_law_wide
noncomputable def G4 : Gam := G3.add "_law_wide" F_law_wide
theorem g3_law_draw : G3.fn "_law_draw" = some F_law_draw := by kernel_rfl!
theorem c3_law_draw {env : Ev.Env} {es : Es} {st : Stt} : evA G3 env (.call "_law_draw" es) st = (evEs G3 env es st).bind fun xs st => (F_law_draw xs st).bind fun y st => .ok (.d y) st := ev_call g3_law_draw
def l_law_common_0 : Ss := .cons (.asg (.tup (.cons (.nm 0) (.cons (.nm 1) .nil))) (.tup (.cons (.v 1) (.cons (.bin .Mod (.v 0) (.v 1)) .nil)))) .nil
def r_law_common_1 : Ss := .cons (.ret (.bi "abs" (.cons (.v 0) .nil))) .nil
def b_law_common : Ss := .cons (.whl (.cmp (.v 1) .NotEq (.c (.int (0)))) l_law_common_0) r_law_common_1
noncomputable def F_law_common : List D → M D := evF G4 2 2 b_law_common
noncomputable def G5 : Gam := G4.add "_law_common" F_law_common
def r_law_terms_1 : Ss := .cons (.ret (.tup (.cons (.bin .FloorDiv (.v 0) (.v 2)) (.cons (.bin .FloorDiv (.v 1) (.v 2)) .nil)))) .nil
def b_law_terms : Ss := .cons (.asg (.nm 2) (.bin .Mult (.call "_law_common" (.cons (.v 0) (.cons (.v 1) .nil))) (.ix (.lst (.cons (.c (.int (1))) (.cons (.neg (.c (.int (1)))) .nil))) (.bi "int" (.cons (.cmp (.v 1) .Lt (.c (.int (0)))) .nil))))) r_law_terms_1
noncomputable def F_law_terms : List D → M D := evF G5 2 3 b_law_terms
noncomputable def G6 : Gam := G5.add "_law_terms" F_law_terms
theorem g5_law_common : G5.fn "_law_common" = some F_law_common := by kernel_rfl!
theorem c5_law_common {env : Ev.Env} {es : Es} {st : Stt} : evA G5 env (.call "_law_common" es) st = (evEs G5 env es st).bind fun xs st => (F_law_common xs st).bind fun y st => .ok (.d y) st := ev_call g5_law_common
def l_law_arch_6t5 : Ss := .cons (.asg (.nm 6) (.v 9)) .nil
def l_law_arch_6t4 : Ss := .cons (.asg (.nm 5) (.bin .Sub (.v 5) (.bin .Mult (.v 10) (.v 2)))) l_law_arch_6t5
def l_law_arch_6t3 : Ss := .cons (.asg (.nm 4) (.bin .Add (.v 4) (.bin .Mult (.v 10) (.v 9)))) l_law_arch_6t4
def l_law_arch_6t2 : Ss := .cons (.asg (.nm 10) (.bin .Add (.c (.int (1))) (.call "_law_draw" (.cons (.v 0) (.cons (.ix (.lst (.cons (.c (.int (1))) (.cons (.c (.int (3))) (.cons (.c (.int (40))) .nil)))) (.call "_law_draw" (.cons (.v 0) (.cons (.c (.int (3))) .nil)))) .nil))))) l_law_arch_6t3
def l_law_arch_6t1 : Ss := .cons (.ex (.mt "append" (.v 7) (.cons (.tup (.cons (.call "_law_terms" (.cons (.v 6) (.cons (.v 2) .nil))) (.cons (.call "_law_terms" (.cons (.v 9) (.cons (.v 2) .nil))) (.cons (.tup (.cons (.v 4) (.cons (.v 5) .nil))) .nil)))) .nil))) l_law_arch_6t2
def l_law_arch_6 : Ss := .cons (.asg (.nm 9) (.bin .Add (.bin .Add (.v 6) (.c (.int (1)))) (.call "_law_draw" (.cons (.v 0) (.cons (.ix (.lst (.cons (.c (.int (1))) (.cons (.c (.int (3))) (.cons (.c (.int (40))) .nil)))) (.call "_law_draw" (.cons (.v 0) (.cons (.c (.int (3))) .nil)))) .nil))))) l_law_arch_6t1
def r_law_arch_7 : Ss := .cons (.ret (.bi "tuple" (.cons (.v 7) .nil))) .nil
def r_law_arch_6 : Ss := .cons (.for (.nm 8) (.rng (.bin .Add (.c (.int (1))) (.call "_law_draw" (.cons (.v 0) (.cons (.v 1) .nil))))) l_law_arch_6) r_law_arch_7
def r_law_arch_5 : Ss := .cons (.asg (.nm 7) (.lst .nil)) r_law_arch_6
def r_law_arch_4 : Ss := .cons (.asg (.nm 6) (.bin .Sub (.call "_law_draw" (.cons (.v 0) (.cons (.bin .Mult (.c (.int (2))) (.bin .Pow (.c (.int (10))) (.c (.int (4))))) .nil))) (.bin .Pow (.c (.int (10))) (.c (.int (4)))))) r_law_arch_5
def r_law_arch_3 : Ss := .cons (.asg (.nm 5) (.bin .Sub (.call "_law_wide" (.cons (.v 0) (.cons (.bin .Add (.bin .Mult (.c (.int (2))) (.v 3)) (.c (.int (1)))) .nil))) (.v 3))) r_law_arch_4
def r_law_arch_2 : Ss := .cons (.asg (.nm 4) (.bin .Sub (.call "_law_wide" (.cons (.v 0) (.cons (.bin .Add (.bin .Mult (.c (.int (2))) (.v 3)) (.c (.int (1)))) .nil))) (.v 3))) r_law_arch_3
def r_law_arch_1 : Ss := .cons (.asg (.nm 3) (.ix (.lst (.cons (.c (.int (3))) (.cons (.c (.int (60))) (.cons (.bin .Pow (.c (.int (10))) (.c (.int (5)))) .nil)))) (.call "_law_draw" (.cons (.v 0) (.cons (.c (.int (3))) .nil))))) r_law_arch_2
def b_law_arch : Ss := .cons (.asg (.nm 2) (.ix (.lst (.cons (.c (.int (1))) (.cons (.c (.int (1))) (.cons (.c (.int (2))) (.cons (.c (.int (3))) (.cons (.bin .Add (.c (.int (1))) (.call "_law_draw" (.cons (.v 0) (.cons (.c (.int (12))) .nil)))) .nil)))))) (.call "_law_draw" (.cons (.v 0) (.cons (.c (.int (5))) .nil))))) r_law_arch_1
noncomputable def F_law_arch : List D → M D := evF G6 2 11 b_law_arch
noncomputable def G7 : Gam := G6.add "_law_arch" F_law_arch
theorem g6_law_draw : G6.fn "_law_draw" = some F_law_draw := by kernel_rfl!
theorem c6_law_draw {env : Ev.Env} {es : Es} {st : Stt} : evA G6 env (.call "_law_draw" es) st = (evEs G6 env es st).bind fun xs st => (F_law_draw xs st).bind fun y st => .ok (.d y) st := ev_call g6_law_draw
theorem g6_law_wide : G6.fn "_law_wide" = some F_law_wide := by kernel_rfl!
theorem c6_law_wide {env : Ev.Env} {es : Es} {st : Stt} : evA G6 env (.call "_law_wide" es) st = (evEs G6 env es st).bind fun xs st => (F_law_wide xs st).bind fun y st => .ok (.d y) st := ev_call g6_law_wide
theorem g6_law_terms : G6.fn "_law_terms" = some F_law_terms := by kernel_rfl!
theorem c6_law_terms {env : Ev.Env} {es : Es} {st : Stt} : evA G6 env (.call "_law_terms" es) st = (evEs G6 env es st).bind fun xs st => (F_law_terms xs st).bind fun y st => .ok (.d y) st := ev_call g6_law_terms
def b_law_size : Ss := .cons (.ret (.ix (.lst (.cons (.c (.int (4))) (.cons (.c (.int (30))) (.cons (.bin .Pow (.c (.int (10))) (.c (.int (6)))) .nil)))) (.call "_law_draw" (.cons (.v 0) (.cons (.c (.int (3))) .nil))))) .nil
noncomputable def F_law_size : List D → M D := evF G7 1 1 b_law_size
noncomputable def G8 : Gam := G7.add "_law_size" F_law_size
theorem g7_law_draw : G7.fn "_law_draw" = some F_law_draw := by kernel_rfl!
theorem c7_law_draw {env : Ev.Env} {es : Es} {st : Stt} : evA G7 env (.call "_law_draw" es) st = (evEs G7 env es st).bind fun xs st => (F_law_draw xs st).bind fun y st => .ok (.d y) st := ev_call g7_law_draw
def r_law_stretch_3 : Ss := .cons (.ret (.tup (.cons (.call "_law_terms" (.cons (.v 3) (.cons (.v 2) .nil))) (.cons (.call "_law_terms" (.cons (.bin .Add (.bin .Add (.v 3) (.c (.int (1)))) (.call "_law_wide" (.cons (.v 0) (.cons (.bin .Sub (.v 1) (.v 3)) .nil)))) (.cons (.v 2) .nil))) .nil)))) .nil
def r_law_stretch_2 : Ss := .cons (.asg (.nm 3) (.bin .Sub (.call "_law_wide" (.cons (.v 0) (.cons (.bin .Mult (.c (.int (2))) (.v 1)) .nil))) (.v 1))) r_law_stretch_3
def r_law_stretch_1 : Ss := .cons (.asg (.nm 2) (.bin .Add (.c (.int (1))) (.call "_law_wide" (.cons (.v 0) (.cons (.ix (.lst (.cons (.c (.int (1))) (.cons (.c (.int (4))) (.cons (.c (.int (30))) (.cons (.bin .Pow (.c (.int (10))) (.c (.int (6)))) .nil))))) (.call "_law_draw" (.cons (.v 0) (.cons (.c (.int (4))) .nil)))) .nil))))) r_law_stretch_2
def b_law_stretch : Ss := .cons (.asg (.nm 1) (.call "_law_size" (.cons (.v 0) .nil))) r_law_stretch_1
noncomputable def F_law_stretch : List D → M D := evF G8 1 4 b_law_stretch
noncomputable def G9 : Gam := G8.add "_law_stretch" F_law_stretch
theorem g8_law_size : G8.fn "_law_size" = some F_law_size := by kernel_rfl!
theorem c8_law_size {env : Ev.Env} {es : Es} {st : Stt} : evA G8 env (.call "_law_size" es) st = (evEs G8 env es st).bind fun xs st => (F_law_size xs st).bind fun y st => .ok (.d y) st := ev_call g8_law_size
theorem g8_law_wide : G8.fn "_law_wide" = some F_law_wide := by kernel_rfl!
theorem c8_law_wide {env : Ev.Env} {es : Es} {st : Stt} : evA G8 env (.call "_law_wide" es) st = (evEs G8 env es st).bind fun xs st => (F_law_wide xs st).bind fun y st => .ok (.d y) st := ev_call g8_law_wide
theorem g8_law_draw : G8.fn "_law_draw" = some F_law_draw := by kernel_rfl!
theorem c8_law_draw {env : Ev.Env} {es : Es} {st : Stt} : evA G8 env (.call "_law_draw" es) st = (evEs G8 env es st).bind fun xs st => (F_law_draw xs st).bind fun y st => .ok (.d y) st := ev_call g8_law_draw
theorem g8_law_terms : G8.fn "_law_terms" = some F_law_terms := by kernel_rfl!
theorem c8_law_terms {env : Ev.Env} {es : Es} {st : Stt} : evA G8 env (.call "_law_terms" es) st = (evEs G8 env es st).bind fun xs st => (F_law_terms xs st).bind fun y st => .ok (.d y) st := ev_call g8_law_terms
def b_law_plain : Ss := .cons (.ret (.and (.cons (.isi (.v 0) ["int"]) (.cons (.nt (.isi (.v 0) ["bool"])) .nil)))) .nil
noncomputable def F_law_plain : List D → M D := evF G9 1 1 b_law_plain
noncomputable def G10 : Gam := G9.add "_law_plain" F_law_plain
def b_law_is_line : Ss := .cons (.ret (.and (.cons (.isi (.v 0) ["tuple"]) (.cons (.cmp (.bi "len" (.cons (.v 0) .nil)) .Eq (.c (.int (2)))) (.cons (.call "_law_plain" (.cons (.ix (.v 0) (.c (.int (0)))) .nil)) (.cons (.call "_law_plain" (.cons (.ix (.v 0) (.c (.int (1)))) .nil)) .nil)))))) .nil
noncomputable def F_law_is_line : List D → M D := evF G10 1 1 b_law_is_line
noncomputable def G11 : Gam := G10.add "_law_is_line" F_law_is_line
theorem g10_law_plain : G10.fn "_law_plain" = some F_law_plain := by kernel_rfl!
theorem c10_law_plain {env : Ev.Env} {es : Es} {st : Stt} : evA G10 env (.call "_law_plain" es) st = (evEs G10 env es st).bind fun xs st => (F_law_plain xs st).bind fun y st => .ok (.d y) st := ev_call g10_law_plain
def r_law_is_fraction_1 : Ss := .cons (.ret (.and (.cons (.cmp (.ix (.v 0) (.c (.int (1)))) .Gt (.c (.int (0)))) (.cons (.cmp (.call "_law_common" (.cons (.ix (.v 0) (.c (.int (0)))) (.cons (.ix (.v 0) (.c (.int (1)))) .nil))) .Eq (.c (.int (1)))) .nil)))) .nil
def b_law_is_fraction : Ss := .cons (.ife (.or (.cons (.nt (.isi (.v 0) ["tuple"])) (.cons (.cmp (.bi "len" (.cons (.v 0) .nil)) .NotEq (.c (.int (2)))) (.cons (.nt (.call "_law_plain" (.cons (.ix (.v 0) (.c (.int (0)))) .nil))) (.cons (.nt (.call "_law_plain" (.cons (.ix (.v 0) (.c (.int (1)))) .nil))) .nil))))) (.cons (.ret (.c (.bl false))) .nil) .nil) r_law_is_fraction_1
noncomputable def F_law_is_fraction : List D → M D := evF G11 1 1 b_law_is_fraction
noncomputable def G12 : Gam := G11.add "_law_is_fraction" F_law_is_fraction
theorem g11_law_plain : G11.fn "_law_plain" = some F_law_plain := by kernel_rfl!
theorem c11_law_plain {env : Ev.Env} {es : Es} {st : Stt} : evA G11 env (.call "_law_plain" es) st = (evEs G11 env es st).bind fun xs st => (F_law_plain xs st).bind fun y st => .ok (.d y) st := ev_call g11_law_plain
theorem g11_law_common : G11.fn "_law_common" = some F_law_common := by kernel_rfl!
theorem c11_law_common {env : Ev.Env} {es : Es} {st : Stt} : evA G11 env (.call "_law_common" es) st = (evEs G11 env es st).bind fun xs st => (F_law_common xs st).bind fun y st => .ok (.d y) st := ev_call g11_law_common
def b_law_less : Ss := .cons (.ret (.cmp (.bin .Mult (.ix (.v 0) (.c (.int (0)))) (.ix (.v 1) (.c (.int (1))))) .Lt (.bin .Mult (.ix (.v 1) (.c (.int (0)))) (.ix (.v 0) (.c (.int (1))))))) .nil
noncomputable def F_law_less : List D → M D := evF G12 2 2 b_law_less
noncomputable def G13 : Gam := G12.add "_law_less" F_law_less
def r_law_is_piece_1 : Ss := .cons (.ret (.and (.cons (.call "_law_is_fraction" (.cons (.ix (.v 0) (.c (.int (0)))) .nil)) (.cons (.call "_law_is_fraction" (.cons (.ix (.v 0) (.c (.int (1)))) .nil)) (.cons (.call "_law_less" (.cons (.ix (.v 0) (.c (.int (0)))) (.cons (.ix (.v 0) (.c (.int (1)))) .nil))) .nil))))) .nil
def b_law_is_piece : Ss := .cons (.ife (.or (.cons (.nt (.isi (.v 0) ["tuple"])) (.cons (.cmp (.bi "len" (.cons (.v 0) .nil)) .NotEq (.c (.int (3)))) (.cons (.nt (.call "_law_is_line" (.cons (.ix (.v 0) (.c (.int (2)))) .nil))) .nil)))) (.cons (.ret (.c (.bl false))) .nil) .nil) r_law_is_piece_1
noncomputable def F_law_is_piece : List D → M D := evF G13 1 1 b_law_is_piece
noncomputable def G14 : Gam := G13.add "_law_is_piece" F_law_is_piece
theorem g13_law_is_line : G13.fn "_law_is_line" = some F_law_is_line := by kernel_rfl!
theorem c13_law_is_line {env : Ev.Env} {es : Es} {st : Stt} : evA G13 env (.call "_law_is_line" es) st = (evEs G13 env es st).bind fun xs st => (F_law_is_line xs st).bind fun y st => .ok (.d y) st := ev_call g13_law_is_line
theorem g13_law_is_fraction : G13.fn "_law_is_fraction" = some F_law_is_fraction := by kernel_rfl!
theorem c13_law_is_fraction {env : Ev.Env} {es : Es} {st : Stt} : evA G13 env (.call "_law_is_fraction" es) st = (evEs G13 env es st).bind fun xs st => (F_law_is_fraction xs st).bind fun y st => .ok (.d y) st := ev_call g13_law_is_fraction
theorem g13_law_less : G13.fn "_law_less" = some F_law_less := by kernel_rfl!
theorem c13_law_less {env : Ev.Env} {es : Es} {st : Stt} : evA G13 env (.call "_law_less" es) st = (evEs G13 env es st).bind fun xs st => (F_law_less xs st).bind fun y st => .ok (.d y) st := ev_call g13_law_less
def b_law_put : Ss := .cons (.ret (.bin .Add (.bin .Add (.sl (.v 0) .no (.so (.v 1))) (.tup (.cons (.v 2) .nil))) (.sl (.v 0) (.so (.bin .Add (.v 1) (.c (.int (1))))) .no))) .nil
noncomputable def F_law_put : List D → M D := evF G14 3 3 b_law_put
noncomputable def G15 : Gam := G14.add "_law_put" F_law_put
def r_law_odd_1 : Ss := .cons (.ret (.ix (.v 1) (.call "_law_draw" (.cons (.v 0) (.cons (.c (.int (16))) .nil))))) .nil
def b_law_odd : Ss := .cons (.asg (.nm 1) (.lst (.cons (.c .non) (.cons (.c (.bl true)) (.cons (.c (.int (0))) (.cons (.c (.int (1))) (.cons (.neg (.c (.int (1)))) (.cons (.c (.str "")) (.cons (.tup .nil) (.cons (.lst .nil) (.cons .dict0 (.cons (.tup (.cons (.c (.int (0))) (.cons (.c (.int (1))) .nil))) (.cons (.tup (.cons (.c (.int (1))) (.cons (.c (.int (2))) .nil))) (.cons (.tup (.cons (.c (.int (2))) (.cons (.c (.int (4))) .nil))) (.cons (.tup (.cons (.c (.bl true)) (.cons (.c (.int (1))) .nil))) (.cons (.lst (.cons (.c (.int (0))) (.cons (.c (.int (1))) .nil))) (.cons (.tup (.cons (.tup (.cons (.c (.int (0))) (.cons (.c (.int (1))) .nil))) .nil)) (.cons (.bin .Pow (.c (.int (10))) (.c (.int (39)))) .nil)))))))))))))))))) r_law_odd_1
noncomputable def F_law_odd : List D → M D := evF G15 1 2 b_law_odd
noncomputable def G16 : Gam := G15.add "_law_odd" F_law_odd
theorem g15_law_draw : G15.fn "_law_draw" = some F_law_draw := by kernel_rfl!
theorem c15_law_draw {env : Ev.Env} {es : Es} {st : Stt} : evA G15 env (.call "_law_draw" es) st = (evEs G15 env es st).bind fun xs st => (F_law_draw xs st).bind fun y st => .ok (.d y) st := ev_call g15_law_draw
def r_law_other_piece_10 : Ss := .cons (.ret (.ix (.v 8) (.v 2))) .nil
def r_law_other_piece_9 : Ss := .cons (.ex (.mt "append" (.v 8) (.cons (.tup (.cons (.v 4) (.cons (.v 5) (.cons (.v 9) .nil)))) .nil))) r_law_other_piece_10
def r_law_other_piece_8 : Ss := .cons (.asg (.nm 9) (.ix (.lst (.cons (.bi "list" (.cons (.v 6) .nil)) (.cons (.bin .Add (.v 6) (.tup (.cons (.c (.int (0))) .nil))) (.cons (.tup (.cons (.ix (.v 6) (.c (.int (0)))) (.cons (.v 7) .nil))) (.cons (.tup (.cons (.v 7) (.cons (.ix (.v 6) (.c (.int (1)))) .nil))) .nil))))) (.call "_law_draw" (.cons (.v 0) (.cons (.c (.int (4))) .nil))))) r_law_other_piece_9
def r_law_other_piece_7 : Ss := .cons (.ex (.mt "append" (.v 8) (.cons (.ix (.lst (.cons (.bi "list" (.cons (.v 1) .nil)) (.cons (.bin .Add (.v 1) (.tup (.cons (.c (.int (0))) .nil))) (.cons (.sl (.v 1) .no (.so (.c (.int (2))))) (.cons (.v 7) .nil))))) (.call "_law_draw" (.cons (.v 0) (.cons (.c (.int (4))) .nil)))) .nil))) r_law_other_piece_8
def r_law_other_piece_6 : Ss := .cons (.asg (.nm 8) (.bin .Add (.v 8) (.lst (.cons (.tup (.cons (.v 4) (.cons (.call "_law_terms" (.cons (.bin .Add (.ix (.v 5) (.c (.int (0)))) (.v 3)) (.cons (.ix (.v 5) (.c (.int (1)))) .nil))) (.cons (.v 6) .nil)))) (.cons (.call "_law_put" (.cons (.v 1) (.cons (.call "_law_draw" (.cons (.v 0) (.cons (.c (.int (3))) .nil))) (.cons (.v 7) .nil)))) .nil))))) r_law_other_piece_7
def r_law_other_piece_5 : Ss := .cons (.asg (.nm 8) (.bin .Add (.v 8) (.lst (.cons (.tup (.cons (.v 5) (.cons (.v 4) (.cons (.v 6) .nil)))) (.cons (.tup (.cons (.v 4) (.cons (.v 4) (.cons (.v 6) .nil)))) (.cons (.tup (.cons (.call "_law_terms" (.cons (.bin .Add (.ix (.v 4) (.c (.int (0)))) (.v 3)) (.cons (.ix (.v 4) (.c (.int (1)))) .nil))) (.cons (.v 5) (.cons (.v 6) .nil)))) .nil)))))) r_law_other_piece_6
def r_law_other_piece_4 : Ss := .cons (.asg (.nm 8) (.lst (.cons (.tup (.cons (.v 4) (.cons (.v 5) (.cons (.tup (.cons (.bin .Add (.ix (.v 6) (.c (.int (0)))) (.v 3)) (.cons (.ix (.v 6) (.c (.int (1)))) .nil))) .nil)))) (.cons (.tup (.cons (.v 4) (.cons (.v 5) (.cons (.tup (.cons (.ix (.v 6) (.c (.int (0)))) (.cons (.bin .Add (.ix (.v 6) (.c (.int (1)))) (.v 3)) .nil))) .nil)))) .nil)))) r_law_other_piece_5
def r_law_other_piece_3 : Ss := .cons (.asg (.nm 7) (.call "_law_odd" (.cons (.v 0) .nil))) r_law_other_piece_4
def r_law_other_piece_2 : Ss := .cons (.asg (.tup (.cons (.nm 4) (.cons (.nm 5) (.cons (.nm 6) .nil)))) (.v 1)) r_law_other_piece_3
def r_law_other_piece_1 : Ss := .cons (.asg (.nm 3) (.ix (.lst (.cons (.c (.int (1))) (.cons (.neg (.c (.int (1)))) (.cons (.c (.int (2))) (.cons (.c (.int (7))) .nil))))) (.call "_law_draw" (.cons (.v 0) (.cons (.c (.int (4))) .nil))))) r_law_other_piece_2
def b_law_other_piece : Ss := .cons (.asg (.nm 2) (.call "_law_draw" (.cons (.v 0) (.cons (.c (.int (9))) .nil)))) r_law_other_piece_1
noncomputable def F_law_other_piece : List D → M D := evF G16 2 10 b_law_other_piece
noncomputable def G17 : Gam := G16.add "_law_other_piece" F_law_other_piece
theorem g16_law_draw : G16.fn "_law_draw" = some F_law_draw := by kernel_rfl!
theorem c16_law_draw {env : Ev.Env} {es : Es} {st : Stt} : evA G16 env (.call "_law_draw" es) st = (evEs G16 env es st).bind fun xs st => (F_law_draw xs st).bind fun y st => .ok (.d y) st := ev_call g16_law_draw
theorem g16_law_odd : G16.fn "_law_odd" = some F_law_odd := by kernel_rfl!
theorem c16_law_odd {env : Ev.Env} {es : Es} {st : Stt} : evA G16 env (.call "_law_odd" es) st = (evEs G16 env es st).bind fun xs st => (F_law_odd xs st).bind fun y st => .ok (.d y) st := ev_call g16_law_odd
theorem g16_law_terms : G16.fn "_law_terms" = some F_law_terms := by kernel_rfl!
theorem c16_law_terms {env : Ev.Env} {es : Es} {st : Stt} : evA G16 env (.call "_law_terms" es) st = (evEs G16 env es st).bind fun xs st => (F_law_terms xs st).bind fun y st => .ok (.d y) st := ev_call g16_law_terms
theorem g16_law_put : G16.fn "_law_put" = some F_law_put := by kernel_rfl!
theorem c16_law_put {env : Ev.Env} {es : Es} {st : Stt} : evA G16 env (.call "_law_put" es) st = (evEs G16 env es st).bind fun xs st => (F_law_put xs st).bind fun y st => .ok (.d y) st := ev_call g16_law_put
def r_law_spoilt_9 : Ss := .cons (.ret (.ix (.v 4) (.bin .Mod (.v 2) (.c (.int (4)))))) .nil
def r_law_spoilt_8 : Ss := .cons (.ex (.mt "append" (.v 4) (.cons (.ix (.v 6) (.call "_law_draw" (.cons (.v 0) (.cons (.c (.int (4))) .nil)))) .nil))) r_law_spoilt_9
def r_law_spoilt_7 : Ss := .cons (.asg (.nm 6) (.lst (.cons (.bi "list" (.cons (.v 1) .nil)) (.cons (.call "_law_odd" (.cons (.v 0) .nil)) (.cons (.bin .Add (.v 1) (.tup (.cons (.tup .nil) .nil))) (.cons (.tup (.cons (.v 1) .nil)) .nil)))))) r_law_spoilt_8
def r_law_spoilt_6 : Ss := .cons (.ex (.mt "append" (.v 4) (.cons (.bin .Add (.bin .Add (.sl (.v 1) .no (.so (.v 3))) (.rev (.v 5))) (.sl (.v 1) (.so (.bin .Add (.v 3) (.c (.int (2))))) .no)) .nil))) r_law_spoilt_7
def r_law_spoilt_5 : Ss := .cons (.asg (.nm 5) (.sl (.v 1) (.so (.v 3)) (.so (.bin .Add (.v 3) (.c (.int (2))))))) r_law_spoilt_6
def r_law_spoilt_4 : Ss := .cons (.asg (.nm 4) (.lst (.cons (.bin .Add (.sl (.v 1) .no (.so (.v 3))) (.sl (.v 1) (.so (.bin .Add (.v 3) (.c (.int (1))))) .no)) (.cons (.bin .Add (.sl (.v 1) .no (.so (.bin .Add (.v 3) (.c (.int (1)))))) (.sl (.v 1) (.so (.v 3)) .no)) .nil)))) r_law_spoilt_5
def r_law_spoilt_3 : Ss := .cons (.ife (.and (.cons (.cmp (.v 2) .Lt (.c (.int (4)))) (.cons (.call "_law_is_piece" (.cons (.ix (.v 1) (.v 3)) .nil)) .nil))) (.cons (.ret (.call "_law_put" (.cons (.v 1) (.cons (.v 3) (.cons (.call "_law_other_piece" (.cons (.v 0) (.cons (.ix (.v 1) (.v 3)) .nil))) .nil))))) .nil) .nil) r_law_spoilt_4
def r_law_spoilt_2 : Ss := .cons (.asg (.nm 3) (.call "_law_draw" (.cons (.v 0) (.cons (.bi "len" (.cons (.v 1) .nil)) .nil)))) r_law_spoilt_3
def r_law_spoilt_1 : Ss := .cons (.ife (.or (.cons (.nt (.isi (.v 1) ["tuple"])) (.cons (.cmp (.v 1) .Eq (.tup .nil)) (.cons (.nt (.call "_law_is_piece" (.cons (.ix (.v 1) (.c (.int (0)))) .nil))) .nil)))) (.cons (.ret (.v 1)) .nil) .nil) r_law_spoilt_2
def b_law_spoilt : Ss := .cons (.asg (.nm 2) (.call "_law_draw" (.cons (.v 0) (.cons (.c (.int (8))) .nil)))) r_law_spoilt_1
noncomputable def F_law_spoilt : List D → M D := evF G17 2 7 b_law_spoilt
noncomputable def G18 : Gam := G17.add "_law_spoilt" F_law_spoilt
theorem g17_law_draw : G17.fn "_law_draw" = some F_law_draw := by kernel_rfl!
theorem c17_law_draw {env : Ev.Env} {es : Es} {st : Stt} : evA G17 env (.call "_law_draw" es) st = (evEs G17 env es st).bind fun xs st => (F_law_draw xs st).bind fun y st => .ok (.d y) st := ev_call g17_law_draw
theorem g17_law_is_piece : G17.fn "_law_is_piece" = some F_law_is_piece := by kernel_rfl!
theorem c17_law_is_piece {env : Ev.Env} {es : Es} {st : Stt} : evA G17 env (.call "_law_is_piece" es) st = (evEs G17 env es st).bind fun xs st => (F_law_is_piece xs st).bind fun y st => .ok (.d y) st := ev_call g17_law_is_piece
theorem g17_law_put : G17.fn "_law_put" = some F_law_put := by kernel_rfl!
theorem c17_law_put {env : Ev.Env} {es : Es} {st : Stt} : evA G17 env (.call "_law_put" es) st = (evEs G17 env es st).bind fun xs st => (F_law_put xs st).bind fun y st => .ok (.d y) st := ev_call g17_law_put
theorem g17_law_other_piece : G17.fn "_law_other_piece" = some F_law_other_piece := by kernel_rfl!
theorem c17_law_other_piece {env : Ev.Env} {es : Es} {st : Stt} : evA G17 env (.call "_law_other_piece" es) st = (evEs G17 env es st).bind fun xs st => (F_law_other_piece xs st).bind fun y st => .ok (.d y) st := ev_call g17_law_other_piece
theorem g17_law_odd : G17.fn "_law_odd" = some F_law_odd := by kernel_rfl!
theorem c17_law_odd {env : Ev.Env} {es : Es} {st : Stt} : evA G17 env (.call "_law_odd" es) st = (evEs G17 env es st).bind fun xs st => (F_law_odd xs st).bind fun y st => .ok (.d y) st := ev_call g17_law_odd
def b_law_amid : Ss := .cons (.ret (.call "_law_terms" (.cons (.bin .Add (.bin .Mult (.ix (.v 0) (.c (.int (0)))) (.ix (.v 1) (.c (.int (1))))) (.bin .Mult (.ix (.v 1) (.c (.int (0)))) (.ix (.v 0) (.c (.int (1)))))) (.cons (.bin .Mult (.bin .Mult (.c (.int (2))) (.ix (.v 0) (.c (.int (1))))) (.ix (.v 1) (.c (.int (1))))) .nil)))) .nil
noncomputable def F_law_amid : List D → M D := evF G18 2 2 b_law_amid
noncomputable def G19 : Gam := G18.add "_law_amid" F_law_amid
theorem g18_law_terms : G18.fn "_law_terms" = some F_law_terms := by kernel_rfl!
theorem c18_law_terms {env : Ev.Env} {es : Es} {st : Stt} : evA G18 env (.call "_law_terms" es) st = (evEs G18 env es st).bind fun xs st => (F_law_terms xs st).bind fun y st => .ok (.d y) st := ev_call g18_law_terms
def r_law_halved_4 : Ss := .cons (.ret (.bin .Add (.bin .Add (.sl (.v 1) .no (.so (.v 2))) (.v 7)) (.sl (.v 1) (.so (.bin .Add (.v 2) (.c (.int (1))))) .no))) .nil
def r_law_halved_3 : Ss := .cons (.asg (.nm 7) (.tup (.cons (.tup (.cons (.v 3) (.cons (.v 6) (.cons (.v 5) .nil)))) (.cons (.tup (.cons (.v 6) (.cons (.v 4) (.cons (.v 5) .nil)))) .nil)))) r_law_halved_4
def r_law_halved_2 : Ss := .cons (.asg (.nm 6) (.call "_law_amid" (.cons (.v 3) (.cons (.v 4) .nil)))) r_law_halved_3
def r_law_halved_1 : Ss := .cons (.asg (.tup (.cons (.nm 3) (.cons (.nm 4) (.cons (.nm 5) .nil)))) (.ix (.v 1) (.v 2))) r_law_halved_2
def b_law_halved : Ss := .cons (.asg (.nm 2) (.call "_law_draw" (.cons (.v 0) (.cons (.bi "len" (.cons (.v 1) .nil)) .nil)))) r_law_halved_1
noncomputable def F_law_halved : List D → M D := evF G19 2 8 b_law_halved
noncomputable def G20 : Gam := G19.add "_law_halved" F_law_halved
theorem g19_law_draw : G19.fn "_law_draw" = some F_law_draw := by kernel_rfl!
theorem c19_law_draw {env : Ev.Env} {es : Es} {st : Stt} : evA G19 env (.call "_law_draw" es) st = (evEs G19 env es st).bind fun xs st => (F_law_draw xs st).bind fun y st => .ok (.d y) st := ev_call g19_law_draw
theorem g19_law_amid : G19.fn "_law_amid" = some F_law_amid := by kernel_rfl!
theorem c19_law_amid {env : Ev.Env} {es : Es} {st : Stt} : evA G19 env (.call "_law_amid" es) st = (evEs G19 env es st).bind fun xs st => (F_law_amid xs st).bind fun y st => .ok (.d y) st := ev_call g19_law_amid
def b_is_whole : Ss := .cons (.ret (.and (.cons (.isi (.v 0) ["int"]) (.cons (.nt (.isi (.v 0) ["bool"])) .nil)))) .nil
noncomputable def F_is_whole : List D → M D := evF G20 1 1 b_is_whole
noncomputable def G21 : Gam := G20.add "is_whole" F_is_whole
def r_are_wholes_1 : Ss := .cons (.ret (.bi "all" (.cons (.lc (.call "is_whole" (.cons (.v 3) .nil)) (.nm 3) (.val (.v 0)) .no [2, 3]) .nil))) .nil
def b_are_wholes : Ss := .cons (.ife (.or (.cons (.nt (.isi (.v 0) ["tuple"])) (.cons (.cmp (.bi "len" (.cons (.v 0) .nil)) .NotEq (.v 1)) .nil))) (.cons (.ret (.c (.bl false))) .nil) .nil) r_are_wholes_1
noncomputable def F_are_wholes : List D → M D := evF G21 2 4 b_are_wholes
noncomputable def G22 : Gam := G21.add "are_wholes" F_are_wholes
theorem g21_is_whole : G21.fn "is_whole" = some F_is_whole := by kernel_rfl!
theorem c21_is_whole {env : Ev.Env} {es : Es} {st : Stt} : evA G21 env (.call "is_whole" es) st = (evEs G21 env es st).bind fun xs st => (F_is_whole xs st).bind fun y st => .ok (.d y) st := ev_call g21_is_whole
def l_divisor_of_0 : Ss := .cons (.asg (.tup (.cons (.nm 0) (.cons (.nm 1) .nil))) (.tup (.cons (.v 1) (.cons (.bin .Mod (.v 0) (.v 1)) .nil)))) .nil
def r_divisor_of_1 : Ss := .cons (.ret (.bi "abs" (.cons (.v 0) .nil))) .nil
def b_divisor_of : Ss := .cons (.whl (.cmp (.v 1) .NotEq (.c (.int (0)))) l_divisor_of_0) r_divisor_of_1
noncomputable def F_divisor_of : List D → M D := evF G22 2 2 b_divisor_of
noncomputable def G23 : Gam := G22.add "divisor_of" F_divisor_of
def b_is_fraction : Ss := .cons (.ret (.and (.cons (.call "are_wholes" (.cons (.v 0) (.cons (.c (.int (2))) .nil))) (.cons (.cmp (.ix (.v 0) (.c (.int (1)))) .Gt (.c (.int (0)))) (.cons (.cmp (.call "divisor_of" (.cons (.ix (.v 0) (.c (.int (0)))) (.cons (.ix (.v 0) (.c (.int (1)))) .nil))) .Eq (.c (.int (1)))) .nil))))) .nil
noncomputable def F_is_fraction : List D → M D := evF G23 1 1 b_is_fraction
noncomputable def G24 : Gam := G23.add "is_fraction" F_is_fraction
theorem g23_are_wholes : G23.fn "are_wholes" = some F_are_wholes := by kernel_rfl!
theorem c23_are_wholes {env : Ev.Env} {es : Es} {st : Stt} : evA G23 env (.call "are_wholes" es) st = (evEs G23 env es st).bind fun xs st => (F_are_wholes xs st).bind fun y st => .ok (.d y) st := ev_call g23_are_wholes
theorem g23_divisor_of : G23.fn "divisor_of" = some F_divisor_of := by kernel_rfl!
theorem c23_divisor_of {env : Ev.Env} {es : Es} {st : Stt} : evA G23 env (.call "divisor_of" es) st = (evEs G23 env es st).bind fun xs st => (F_divisor_of xs st).bind fun y st => .ok (.d y) st := ev_call g23_divisor_of
def b_is_before : Ss := .cons (.ret (.cmp (.bin .Mult (.ix (.v 0) (.c (.int (0)))) (.ix (.v 1) (.c (.int (1))))) .Lt (.bin .Mult (.ix (.v 1) (.c (.int (0)))) (.ix (.v 0) (.c (.int (1))))))) .nil
noncomputable def F_is_before : List D → M D := evF G24 2 2 b_is_before
noncomputable def G25 : Gam := G24.add "is_before" F_is_before
def r_is_stretch_1 : Ss := .cons (.ret (.call "is_before" (.cons (.ix (.v 0) (.c (.int (0)))) (.cons (.ix (.v 0) (.c (.int (1)))) .nil)))) .nil
def b_is_stretch : Ss := .cons (.ife (.or (.cons (.nt (.isi (.v 0) ["tuple"])) (.cons (.cmp (.bi "len" (.cons (.v 0) .nil)) .NotEq (.c (.int (2)))) (.cons (.nt (.bi "all" (.cons (.lc (.call "is_fraction" (.cons (.v 2) .nil)) (.nm 2) (.val (.v 0)) .no [1, 2]) .nil))) .nil)))) (.cons (.ret (.c (.bl false))) .nil) .nil) r_is_stretch_1
noncomputable def F_is_stretch : List D → M D := evF G25 1 3 b_is_stretch
noncomputable def G26 : Gam := G25.add "is_stretch" F_is_stretch
theorem g25_is_fraction : G25.fn "is_fraction" = some F_is_fraction := by kernel_rfl!
theorem c25_is_fraction {env : Ev.Env} {es : Es} {st : Stt} : evA G25 env (.call "is_fraction" es) st = (evEs G25 env es st).bind fun xs st => (F_is_fraction xs st).bind fun y st => .ok (.d y) st := ev_call g25_is_fraction
theorem g25_is_before : G25.fn "is_before" = some F_is_before := by kernel_rfl!
theorem c25_is_before {env : Ev.Env} {es : Es} {st : Stt} : evA G25 env (.call "is_before" es) st = (evEs G25 env es st).bind fun xs st => (F_is_before xs st).bind fun y st => .ok (.d y) st := ev_call g25_is_before
def b_need_stretch : Ss := .cons (.ife (.nt (.call "is_stretch" (.cons (.v 0) .nil))) (.cons (.raise "NoStretch" .nil) .nil) .nil) .nil
noncomputable def F_need_stretch : List D → M D := evF G26 1 1 b_need_stretch
noncomputable def G27 : Gam := G26.add "need_stretch" F_need_stretch
theorem g26_is_stretch : G26.fn "is_stretch" = some F_is_stretch := by kernel_rfl!
theorem c26_is_stretch {env : Ev.Env} {es : Es} {st : Stt} : evA G26 env (.call "is_stretch" es) st = (evEs G26 env es st).bind fun xs st => (F_is_stretch xs st).bind fun y st => .ok (.d y) st := ev_call g26_is_stretch
def r_is_piece_1 : Ss := .cons (.ret (.call "are_wholes" (.cons (.ix (.v 0) (.c (.int (2)))) (.cons (.c (.int (2))) .nil)))) .nil
def b_is_piece : Ss := .cons (.ife (.or (.cons (.nt (.isi (.v 0) ["tuple"])) (.cons (.cmp (.bi "len" (.cons (.v 0) .nil)) .NotEq (.c (.int (3)))) (.cons (.nt (.call "is_stretch" (.cons (.sl (.v 0) .no (.so (.c (.int (2))))) .nil))) .nil)))) (.cons (.ret (.c (.bl false))) .nil) .nil) r_is_piece_1
noncomputable def F_is_piece : List D → M D := evF G27 1 1 b_is_piece
noncomputable def G28 : Gam := G27.add "is_piece" F_is_piece
theorem g27_is_stretch : G27.fn "is_stretch" = some F_is_stretch := by kernel_rfl!
theorem c27_is_stretch {env : Ev.Env} {es : Es} {st : Stt} : evA G27 env (.call "is_stretch" es) st = (evEs G27 env es st).bind fun xs st => (F_is_stretch xs st).bind fun y st => .ok (.d y) st := ev_call g27_is_stretch
theorem g27_are_wholes : G27.fn "are_wholes" = some F_are_wholes := by kernel_rfl!
theorem c27_are_wholes {env : Ev.Env} {es : Es} {st : Stt} : evA G27 env (.call "are_wholes" es) st = (evEs G27 env es st).bind fun xs st => (F_are_wholes xs st).bind fun y st => .ok (.d y) st := ev_call g27_are_wholes
def b_weight : Ss := .cons (.ret (.bin .Add (.bin .Mult (.ix (.v 0) (.c (.int (0)))) (.ix (.v 1) (.c (.int (1))))) (.bin .Mult (.ix (.v 0) (.c (.int (1)))) (.ix (.v 1) (.c (.int (0))))))) .nil
noncomputable def F_weight : List D → M D := evF G28 2 2 b_weight
noncomputable def G29 : Gam := G28.add "weight" F_weight
def r_is_bend_1 : Ss := .cons (.ret (.cmp (.call "weight" (.cons (.ix (.v 0) (.c (.int (2)))) (.cons (.ix (.v 0) (.c (.int (1)))) .nil))) .Eq (.call "weight" (.cons (.ix (.v 1) (.c (.int (2)))) (.cons (.ix (.v 0) (.c (.int (1)))) .nil))))) .nil
def b_is_bend : Ss := .cons (.ife (.or (.cons (.cmp (.ix (.v 0) (.c (.int (1)))) .NotEq (.ix (.v 1) (.c (.int (0))))) (.cons (.cmp (.ix (.ix (.v 0) (.c (.int (2)))) (.c (.int (1)))) .LtE (.ix (.ix (.v 1) (.c (.int (2)))) (.c (.int (1))))) .nil))) (.cons (.ret (.c (.bl false))) .nil) .nil) r_is_bend_1
noncomputable def F_is_bend : List D → M D := evF G29 2 2 b_is_bend
noncomputable def G30 : Gam := G29.add "is_bend" F_is_bend
theorem g29_weight : G29.fn "weight" = some F_weight := by kernel_rfl!
theorem c29_weight {env : Ev.Env} {es : Es} {st : Stt} : evA G29 env (.call "weight" es) st = (evEs G29 env es st).bind fun xs st => (F_weight xs st).bind fun y st => .ok (.d y) st := ev_call g29_weight
def r_is_arch_of_2 : Ss := .cons (.ret (.bi "all" (.cons (.lc (.call "is_bend" (.cons (.v 4) (.cons (.v 5) .nil))) (.tup (.cons (.nm 4) (.cons (.nm 5) .nil))) (.zip (.v 1) (.sl (.v 1) (.so (.c (.int (1)))) .no)) .no [2, 4, 5]) .nil))) .nil
def r_is_arch_of_1 : Ss := .cons (.ife (.or (.cons (.cmp (.ix (.ix (.v 1) (.c (.int (0)))) (.c (.int (0)))) .NotEq (.ix (.v 0) (.c (.int (0))))) (.cons (.cmp (.ix (.ix (.v 1) (.neg (.c (.int (1))))) (.c (.int (1)))) .NotEq (.ix (.v 0) (.c (.int (1))))) .nil))) (.cons (.ret (.c (.bl false))) .nil) .nil) r_is_arch_of_2
def b_is_arch_of : Ss := .cons (.ife (.or (.cons (.nt (.isi (.v 1) ["tuple"])) (.cons (.cmp (.v 1) .Eq (.tup .nil)) (.cons (.nt (.bi "all" (.cons (.lc (.call "is_piece" (.cons (.v 3) .nil)) (.nm 3) (.val (.v 1)) .no [2, 3]) .nil))) .nil)))) (.cons (.ret (.c (.bl false))) .nil) .nil) r_is_arch_of_1
noncomputable def F_is_arch_of : List D → M D := evF G30 2 6 b_is_arch_of
noncomputable def G31 : Gam := G30.add "is_arch_of" F_is_arch_of
theorem g30_is_piece : G30.fn "is_piece" = some F_is_piece := by kernel_rfl!
theorem c30_is_piece {env : Ev.Env} {es : Es} {st : Stt} : evA G30 env (.call "is_piece" es) st = (evEs G30 env es st).bind fun xs st => (F_is_piece xs st).bind fun y st => .ok (.d y) st := ev_call g30_is_piece
theorem g30_is_bend : G30.fn "is_bend" = some F_is_bend := by kernel_rfl!
theorem c30_is_bend {env : Ev.Env} {es : Es} {st : Stt} : evA G30 env (.call "is_bend" es) st = (evEs G30 env es st).bind fun xs st => (F_is_bend xs st).bind fun y st => .ok (.d y) st := ev_call g30_is_bend
def r_is_arch_1 : Ss := .cons (.ret (.call "is_arch_of" (.cons (.v 0) (.cons (.v 1) .nil)))) .nil
def b_is_arch : Ss := .cons (.ex (.call "need_stretch" (.cons (.v 0) .nil))) r_is_arch_1
noncomputable def F_is_arch : List D → M D := evF G31 2 2 b_is_arch
noncomputable def G32 : Gam := G31.add "is_arch" F_is_arch
theorem g31_need_stretch : G31.fn "need_stretch" = some F_need_stretch := by kernel_rfl!
theorem c31_need_stretch {env : Ev.Env} {es : Es} {st : Stt} : evA G31 env (.call "need_stretch" es) st = (evEs G31 env es st).bind fun xs st => (F_need_stretch xs st).bind fun y st => .ok (.d y) st := ev_call g31_need_stretch
theorem g31_is_arch_of : G31.fn "is_arch_of" = some F_is_arch_of := by kernel_rfl!
theorem c31_is_arch_of {env : Ev.Env} {es : Es} {st : Stt} : evA G31 env (.call "is_arch_of" es) st = (evEs G31 env es st).bind fun xs st => (F_is_arch_of xs st).bind fun y st => .ok (.d y) st := ev_call g31_is_arch_of
def b_law_at : Ss := .cons (.ret (.bin .Add (.bin .Mult (.ix (.v 0) (.c (.int (0)))) (.ix (.v 1) (.c (.int (1))))) (.bin .Mult (.ix (.v 0) (.c (.int (1)))) (.ix (.v 1) (.c (.int (0))))))) .nil
noncomputable def F_law_at : List D → M D := evF G32 2 2 b_law_at
noncomputable def G33 : Gam := G32.add "_law_at" F_law_at
def l_law_is_arch_2 : Ss := .cons (.ife (.or (.cons (.cmp (.ix (.v 2) (.c (.int (1)))) .NotEq (.ix (.v 3) (.c (.int (0))))) (.cons (.cmp (.ix (.ix (.v 2) (.c (.int (2)))) (.c (.int (1)))) .LtE (.ix (.ix (.v 3) (.c (.int (2)))) (.c (.int (1))))) (.cons (.cmp (.call "_law_at" (.cons (.ix (.v 2) (.c (.int (2)))) (.cons (.ix (.v 2) (.c (.int (1)))) .nil))) .NotEq (.call "_law_at" (.cons (.ix (.v 3) (.c (.int (2)))) (.cons (.ix (.v 2) (.c (.int (1)))) .nil)))) .nil)))) (.cons (.ret (.c (.bl false))) .nil) .nil) .nil
def r_law_is_arch_3 : Ss := .cons (.ret (.c (.bl true))) .nil
def r_law_is_arch_2 : Ss := .cons (.for (.tup (.cons (.nm 2) (.cons (.nm 3) .nil))) (.zip (.v 1) (.sl (.v 1) (.so (.c (.int (1)))) .no)) l_law_is_arch_2) r_law_is_arch_3
def r_law_is_arch_1 : Ss := .cons (.ife (.or (.cons (.cmp (.ix (.ix (.v 1) (.c (.int (0)))) (.c (.int (0)))) .NotEq (.ix (.v 0) (.c (.int (0))))) (.cons (.cmp (.ix (.ix (.v 1) (.neg (.c (.int (1))))) (.c (.int (1)))) .NotEq (.ix (.v 0) (.c (.int (1))))) .nil))) (.cons (.ret (.c (.bl false))) .nil) .nil) r_law_is_arch_2
def b_law_is_arch : Ss := .cons (.ife (.or (.cons (.nt (.isi (.v 1) ["tuple"])) (.cons (.cmp (.v 1) .Eq (.tup .nil)) (.cons (.nt (.bi "all" (.cons (.lc (.call "_law_is_piece" (.cons (.v 5) .nil)) (.nm 5) (.val (.v 1)) .no [4, 5]) .nil))) .nil)))) (.cons (.ret (.c (.bl false))) .nil) .nil) r_law_is_arch_1
noncomputable def F_law_is_arch : List D → M D := evF G33 2 6 b_law_is_arch
noncomputable def G34 : Gam := G33.add "_law_is_arch" F_law_is_arch
theorem g33_law_is_piece : G33.fn "_law_is_piece" = some F_law_is_piece := by kernel_rfl!
theorem c33_law_is_piece {env : Ev.Env} {es : Es} {st : Stt} : evA G33 env (.call "_law_is_piece" es) st = (evEs G33 env es st).bind fun xs st => (F_law_is_piece xs st).bind fun y st => .ok (.d y) st := ev_call g33_law_is_piece
theorem g33_law_at : G33.fn "_law_at" = some F_law_at := by kernel_rfl!
theorem c33_law_at {env : Ev.Env} {es : Es} {st : Stt} : evA G33 env (.call "_law_at" es) st = (evEs G33 env es st).bind fun xs st => (F_law_at xs st).bind fun y st => .ok (.d y) st := ev_call g33_law_at
def l_law_1x9t1 : Ss := .cons (.ife (.or (.cons (.nt (.isi (.v 10) ["bool"])) (.cons (.cmp (.v 10) .NotEq (.call "_law_is_arch" (.cons (.v 5) (.cons (.v 9) .nil)))) .nil))) (.cons (.ret (.c (.bl false))) .nil) .nil) .nil
def l_law_1x9 : Ss := .cons (.asg (.nm 10) (.call "is_arch" (.cons (.v 5) (.cons (.v 9) .nil)))) l_law_1x9t1
def l_law_1t10 : Ss := .cons (.ife (.or (.cons (.cmp (.call "is_arch" (.cons (.v 5) (.cons (.v 4) .nil))) .IsNot (.c (.bl true))) (.cons (.cmp (.call "is_arch" (.cons (.v 7) (.cons (.v 4) .nil))) .NotEq (.call "_law_is_arch" (.cons (.v 7) (.cons (.v 4) .nil)))) .nil))) (.cons (.ret (.c (.bl false))) .nil) .nil) .nil
def l_law_1t9 : Ss := .cons (.for (.nm 9) (.val (.v 8)) l_law_1x9) l_law_1t10
def l_law_1t8 : Ss := .cons (.ex (.mt "append" (.v 8) (.cons (.call "_law_odd" (.cons (.v 1) .nil)) .nil))) l_law_1t9
def l_law_1t7 : Ss := .cons (.asg (.nm 8) (.bin .Add (.v 8) (.lst (.cons (.call "_law_halved" (.cons (.v 1) (.cons (.v 4) .nil))) (.cons (.v 4) (.cons (.tup .nil) .nil)))))) l_law_1t8
def l_law_1t6 : Ss := .cons (.ex (.mt "append" (.v 8) (.cons (.call "_law_spoilt" (.cons (.v 1) (.cons (.call "_law_spoilt" (.cons (.v 1) (.cons (.v 4) .nil))) .nil))) .nil))) l_law_1t7
def l_law_1t5 : Ss := .cons (.asg (.nm 8) (.lc (.call "_law_spoilt" (.cons (.v 1) (.cons (.v 4) .nil))) (.nm 12) (.rng (.c (.int (4)))) .no [11, 12])) l_law_1t6
def l_law_1t4 : Ss := .cons (.asg (.nm 7) (.ix (.lst (.cons (.v 5) (.cons (.v 6) (.cons (.call "_law_stretch" (.cons (.v 1) .nil)) .nil)))) (.v 3))) l_law_1t5
def l_law_1t3 : Ss := .cons (.asg (.nm 6) (.tup (.cons (.ix (.v 5) (.c (.int (0)))) (.cons (.call "_law_terms" (.cons (.bin .Add (.ix (.ix (.v 5) (.c (.int (1)))) (.c (.int (0)))) (.c (.int (1)))) (.cons (.ix (.ix (.v 5) (.c (.int (1)))) (.c (.int (1)))) .nil))) .nil)))) l_law_1t4
def l_law_1t2 : Ss := .cons (.asg (.nm 5) (.tup (.cons (.ix (.ix (.v 4) (.c (.int (0)))) (.c (.int (0)))) (.cons (.ix (.ix (.v 4) (.neg (.c (.int (1))))) (.c (.int (1)))) .nil)))) l_law_1t3
def l_law_1t1 : Ss := .cons (.asg (.nm 4) (.call "_law_arch" (.cons (.v 1) (.cons (.c (.int (8))) .nil)))) l_law_1t2
def l_law_1 : Ss := .cons (.asg (.nm 3) (.call "_law_draw" (.cons (.v 1) (.cons (.c (.int (3))) .nil)))) l_law_1t1
def r_law_2 : Ss := .cons (.ret (.c (.bl true))) .nil
def r_law_1 : Ss := .cons (.for (.nm 2) (.rng (.c (.int (4)))) l_law_1) r_law_2
def b_law : Ss := .cons (.asg (.nm 1) (.call "_law_pot_of" (.cons (.v 0) .nil))) r_law_1
noncomputable def F_law : List D → M D := evF G34 1 13 b_law
noncomputable def G35 : Gam := G34.add "law" F_law
theorem g34_law_pot_of : G34.fn "_law_pot_of" = some F_law_pot_of := by kernel_rfl!
theorem c34_law_pot_of {env : Ev.Env} {es : Es} {st : Stt} : evA G34 env (.call "_law_pot_of" es) st = (evEs G34 env es st).bind fun xs st => (F_law_pot_of xs st).bind fun y st => .ok (.d y) st := ev_call g34_law_pot_of
theorem g34_law_draw : G34.fn "_law_draw" = some F_law_draw := by kernel_rfl!
theorem c34_law_draw {env : Ev.Env} {es : Es} {st : Stt} : evA G34 env (.call "_law_draw" es) st = (evEs G34 env es st).bind fun xs st => (F_law_draw xs st).bind fun y st => .ok (.d y) st := ev_call g34_law_draw
theorem g34_law_arch : G34.fn "_law_arch" = some F_law_arch := by kernel_rfl!
theorem c34_law_arch {env : Ev.Env} {es : Es} {st : Stt} : evA G34 env (.call "_law_arch" es) st = (evEs G34 env es st).bind fun xs st => (F_law_arch xs st).bind fun y st => .ok (.d y) st := ev_call g34_law_arch
theorem g34_law_terms : G34.fn "_law_terms" = some F_law_terms := by kernel_rfl!
theorem c34_law_terms {env : Ev.Env} {es : Es} {st : Stt} : evA G34 env (.call "_law_terms" es) st = (evEs G34 env es st).bind fun xs st => (F_law_terms xs st).bind fun y st => .ok (.d y) st := ev_call g34_law_terms
theorem g34_law_stretch : G34.fn "_law_stretch" = some F_law_stretch := by kernel_rfl!
theorem c34_law_stretch {env : Ev.Env} {es : Es} {st : Stt} : evA G34 env (.call "_law_stretch" es) st = (evEs G34 env es st).bind fun xs st => (F_law_stretch xs st).bind fun y st => .ok (.d y) st := ev_call g34_law_stretch
theorem g34_law_spoilt : G34.fn "_law_spoilt" = some F_law_spoilt := by kernel_rfl!
theorem c34_law_spoilt {env : Ev.Env} {es : Es} {st : Stt} : evA G34 env (.call "_law_spoilt" es) st = (evEs G34 env es st).bind fun xs st => (F_law_spoilt xs st).bind fun y st => .ok (.d y) st := ev_call g34_law_spoilt
theorem g34_law_halved : G34.fn "_law_halved" = some F_law_halved := by kernel_rfl!
theorem c34_law_halved {env : Ev.Env} {es : Es} {st : Stt} : evA G34 env (.call "_law_halved" es) st = (evEs G34 env es st).bind fun xs st => (F_law_halved xs st).bind fun y st => .ok (.d y) st := ev_call g34_law_halved
theorem g34_law_odd : G34.fn "_law_odd" = some F_law_odd := by kernel_rfl!
theorem c34_law_odd {env : Ev.Env} {es : Es} {st : Stt} : evA G34 env (.call "_law_odd" es) st = (evEs G34 env es st).bind fun xs st => (F_law_odd xs st).bind fun y st => .ok (.d y) st := ev_call g34_law_odd
theorem g34_is_arch : G34.fn "is_arch" = some F_is_arch := by kernel_rfl!
theorem c34_is_arch {env : Ev.Env} {es : Es} {st : Stt} : evA G34 env (.call "is_arch" es) st = (evEs G34 env es st).bind fun xs st => (F_is_arch xs st).bind fun y st => .ok (.d y) st := ev_call g34_is_arch
theorem g34_law_is_arch : G34.fn "_law_is_arch" = some F_law_is_arch := by kernel_rfl!
theorem c34_law_is_arch {env : Ev.Env} {es : Es} {st : Stt} : evA G34 env (.call "_law_is_arch" es) st = (evEs G34 env es st).bind fun xs st => (F_law_is_arch xs st).bind fun y st => .ok (.d y) st := ev_call g34_law_is_arch
end K07

namespace Ev
open PySem
theorem gcd_step (a b : Int) : Int.gcd b (a.fmod b) = Int.gcd a b := by
  rw [Int.gcd_comm a b]
  conv => rhs; rw [← Int.mul_fdiv_add_fmod a b]
  rw [Int.add_comm, Int.gcd_add_mul_left_right]
theorem fmod_abs (a b : Int) (h : b ≠ 0) : (a.fmod b).natAbs < b.natAbs := by
  rcases Int.lt_or_gt_of_ne h with q | q
  · have h1 := Int.fmod_nonneg_of_pos (-a) (show 0 < -b by omega)
    have h2 := Int.fmod_lt_of_pos (-a) (show 0 < -b by omega)
    rw [Int.neg_fmod_neg] at h1 h2
    omega
  · have h1 := Int.fmod_nonneg_of_pos a q
    have h2 := Int.fmod_lt_of_pos a q
    omega
theorem abs_if (a : Int) : (if a < 0 then -a else a) = (a.natAbs : Int) := by split <;> omega
def fq (p q : Int) : Int := if q < 0 then -(Int.gcd p q : Int) else (Int.gcd p q : Int)
theorem fq_abs (p q : Int) : (fq p q).natAbs = Int.gcd p q := by unfold fq; split <;> omega
theorem frac_core {p q g : Int} (hq : q ≠ 0) (e : g.natAbs = Int.gcd p q) (sg : if q < 0 then g < 0 else 0 < g) : g ≠ 0 ∧ 1 ≤ q.fdiv g ∧ Int.gcd (p.fdiv g) (q.fdiv g) = 1 ∧ p.fdiv g * q = p * q.fdiv g ∧ (p.fdiv g).natAbs ≤ p.natAbs ∧ (q.fdiv g).natAbs ≤ q.natAbs ∧ g.natAbs ≤ q.natAbs := by
  have hg : Int.gcd p q ≠ 0 := by
    intro h
    rw [Int.gcd_eq_zero_iff] at h
    exact hq h.2
  have h0 : g ≠ 0 := by omega
  have da : g ∣ p := by rw [← Int.natAbs_dvd_natAbs, e]; exact Int.gcd_dvd_natAbs_left p q
  have db : g ∣ q := by rw [← Int.natAbs_dvd_natAbs, e]; exact Int.gcd_dvd_natAbs_right p q
  obtain ⟨x, rfl⟩ := da
  obtain ⟨y, rfl⟩ := db
  have ex : (g * x).fdiv g = x := Int.mul_fdiv_cancel_left x h0
  have ey : (g * y).fdiv g = y := Int.mul_fdiv_cancel_left y h0
  rw [Int.gcd_mul_left] at e
  have e1 : Int.gcd x y = 1 := by
    have h1 : 0 < g.natAbs := by omega
    have : g.natAbs * Int.gcd x y = g.natAbs * 1 := by omega
    exact Nat.eq_of_mul_eq_mul_left h1 this
  have y0 : y ≠ 0 := by rintro rfl; simp at hq
  rw [ex, ey]
  refine ⟨h0, ?_, e1, ?_, ?_, ?_, ?_⟩
  · split at sg
    · rename_i h
      have : 0 < y := by
        rcases Int.lt_or_gt_of_ne y0 with z | z
        · have := Int.mul_pos_of_neg_of_neg sg z
          omega
        · exact z
      omega
    · rename_i h
      have : 0 < y := by
        rcases Int.lt_or_gt_of_ne y0 with z | z
        · have := Int.mul_neg_of_pos_of_neg sg z
          omega
        · exact z
      omega
  · rw [← Int.mul_assoc, Int.mul_comm x g]
  · rw [Int.natAbs_mul]
    exact Nat.le_mul_of_pos_left _ (by omega)
  · rw [Int.natAbs_mul]
    exact Nat.le_mul_of_pos_left _ (by omega)
  · rw [Int.natAbs_mul]
    exact Nat.le_mul_of_pos_right _ (by omega)
theorem frac_facts {p q : Int} (hq : q ≠ 0) : fq p q ≠ 0 ∧ 1 ≤ q.fdiv (fq p q) ∧ Int.gcd (p.fdiv (fq p q)) (q.fdiv (fq p q)) = 1 ∧ p.fdiv (fq p q) * q = p * q.fdiv (fq p q) ∧ (p.fdiv (fq p q)).natAbs ≤ p.natAbs ∧ (q.fdiv (fq p q)).natAbs ≤ q.natAbs ∧ (fq p q).natAbs ≤ q.natAbs := by
  have hg : Int.gcd p q ≠ 0 := by
    intro h
    rw [Int.gcd_eq_zero_iff] at h
    exact hq h.2
  refine frac_core hq (fq_abs p q) ?_
  unfold fq
  split <;> omega
end Ev

namespace Ev
open PySem
def isFr (d : D) : Bool := match d with
  | .tup [.int a, .int b] => decide (0 < b) && decide (Int.gcd a b = 1)
  | _ => false
theorem isFr_no {d : D} (h : areWholes d 2 = false) : isFr d = false := by
  unfold isFr
  split
  · simp [areWholes, isWhole] at h
  · rfl
theorem isFr_of {d : D} (h : isFr d = true) : ∃ a b, d = .tup [.int a, .int b] ∧ 0 < b ∧ Int.gcd a b = 1 := by
  unfold isFr at h
  split at h
  · simp only [Bool.and_eq_true, decide_eq_true_eq] at h
    exact ⟨_, _, rfl, h.1, h.2⟩
  · cases h
theorem isFr_yes {a b : Int} (h1 : 0 < b) (h2 : Int.gcd a b = 1) : isFr (.tup [.int a, .int b]) = true := by simp [isFr, h1, h2]
def frD (p : Int × Int) : D := .tup [.int p.1, .int p.2]
theorem okd_fr {a b : Int} {p : List Nat} {m : Nat} {st : Stt} (hm : 2 ≤ m) : Okd p m st (.tup [.int a, .int b]) := .tup (by simpa using hm) (by simp; exact ⟨.int _, .int _⟩)
/-- the fraction told of two whole numbers -/
def lowF (p q : Int) : D := .tup [.int (p.fdiv (fq p q)), .int (q.fdiv (fq p q))]
end Ev

namespace Ev
open PySem
theorem cut_len {xs : List D} {lo hi : Option Int} : (cutD xs lo hi).length ≤ xs.length := by
  unfold cutD
  rw [List.length_take, List.length_drop]
  omega
end Ev

namespace Ev
open PySem
/-- all whole numbers in it are less than 2^b -/
inductive Ib (b : Nat) : D → Prop
  | non : Ib b .non
  | bl (x : Bool) : Ib b (.bl x)
  | int {i : Int} : i.natAbs < 2 ^ b → Ib b (.int i)
  | str (x : Str) : Ib b (.str x)
  | loc (l : Nat) : Ib b (.loc l)
  | tup {xs : List D} : (∀ x ∈ xs, Ib b x) → Ib b (.tup xs)
theorem Ib.le {a b : Nat} {d : D} (h : Ib a d) (k : a ≤ b) : Ib b d := by
  induction h with
  | non => exact .non
  | bl x => exact .bl x
  | int h => exact .int (Nat.lt_of_lt_of_le h (Nat.pow_le_pow_right (by decide) k))
  | str x => exact .str x
  | loc l => exact .loc l
  | tup _ ih => exact .tup ih
theorem Ib.int_in {b : Nat} {i : Int} (h : Ib b (.int i)) : i.natAbs < 2 ^ b := by
  cases h; assumption
theorem Ib.tup_in {b : Nat} {xs : List D} (h : Ib b (.tup xs)) : ∀ x ∈ xs, Ib b x := by
  cases h; assumption
abbrev Fr := Int × Int
abbrev Pc := Fr × Fr × Fr
def pcD (p : Pc) : D := .tup [frD p.1, frD p.2.1, frD p.2.2]
def srB (a b : Fr) : Bool := decide (0 < a.2) && decide (Int.gcd a.1 a.2 = 1) && (decide (0 < b.2) && decide (Int.gcd b.1 b.2 = 1)) && decide (a.1 * b.2 < b.1 * a.2)
theorem srB_iff {a b : Fr} : srB a b = true ↔ (0 < a.2 ∧ Int.gcd a.1 a.2 = 1) ∧ (0 < b.2 ∧ Int.gcd b.1 b.2 = 1) ∧ a.1 * b.2 < b.1 * a.2 := by
  simp [srB, and_assoc]
def isSrD (d : D) : Bool := match d with
  | .tup [.tup [.int a, .int b], .tup [.int c, .int e]] => srB (a, b) (c, e)
  | _ => false
theorem isSrD_of {d : D} (h : isSrD d = true) : ∃ a b : Fr, d = .tup [frD a, frD b] ∧ srB a b = true := by
  unfold isSrD at h
  split at h
  · exact ⟨(_, _), (_, _), rfl, h⟩
  · cases h
theorem isSrD_fr {a b : Fr} : isSrD (.tup [frD a, frD b]) = srB a b := rfl
theorem sr_no1 {x y : D} (h : isFr x = false) : isSrD (.tup [x, y]) = false := by
  rw [← Bool.not_eq_true]
  intro q
  obtain ⟨a, b, e, s⟩ := isSrD_of q
  simp only [D.tup.injEq, List.cons.injEq, and_true] at e
  obtain ⟨rfl, rfl⟩ := e
  have s := srB_iff.mp s
  have := isFr_yes s.1.1 s.1.2
  rw [show frD a = .tup [.int a.1, .int a.2] from rfl, this] at h
  cases h
theorem sr_no2 {x y : D} (h : isFr y = false) : isSrD (.tup [x, y]) = false := by
  rw [← Bool.not_eq_true]
  intro q
  obtain ⟨a, b, e, s⟩ := isSrD_of q
  simp only [D.tup.injEq, List.cons.injEq, and_true] at e
  obtain ⟨rfl, rfl⟩ := e
  have s := srB_iff.mp s
  have := isFr_yes s.2.1.1 s.2.1.2
  rw [show frD b = .tup [.int b.1, .int b.2] from rfl, this] at h
  cases h
theorem isFr_fr {d : D} (h : isFr d = true) : ∃ a : Fr, d = frD a ∧ 0 < a.2 ∧ Int.gcd a.1 a.2 = 1 := by
  obtain ⟨a, b, e, h1, h2⟩ := isFr_of h
  exact ⟨(a, b), e, h1, h2⟩
def isPcD (d : D) : Bool := match d with
  | .tup [x, y, z] => isSrD (.tup [x, y]) && areWholes z 2
  | _ => false
theorem isPcD_3 {x y z : D} : isPcD (.tup [x, y, z]) = (isSrD (.tup [x, y]) && areWholes z 2) := rfl
theorem isPcD_no {xs : List D} (h : ¬ (xs.length : Int) = 3) : isPcD (.tup xs) = false := by
  unfold isPcD
  split
  · rename_i e; cases e; simp at h
  · rfl
theorem aw2_of {d : D} (h : areWholes d 2 = true) : ∃ a : Fr, d = frD a := by
  obtain ⟨ns, rfl, hl⟩ := areWholes_of (n := 2) h
  match ns, hl with
  | [a, b], _ => exact ⟨(a, b), rfl⟩
theorem aw2_fr {a : Fr} : areWholes (frD a) 2 = true := rfl
theorem isPcD_of {d : D} (h : isPcD d = true) : ∃ p : Pc, d = pcD p ∧ srB p.1 p.2.1 = true := by
  unfold isPcD at h
  split at h
  · rw [Bool.and_eq_true] at h
    obtain ⟨a, b, e, s⟩ := isSrD_of h.1
    simp only [D.tup.injEq, List.cons.injEq, and_true] at e
    obtain ⟨rfl, rfl⟩ := e
    obtain ⟨c, rfl⟩ := aw2_of h.2
    exact ⟨(a, b, c), rfl, s⟩
  · cases h
theorem isPcD_pc {p : Pc} : isPcD (pcD p) = srB p.1 p.2.1 := by simp [isPcD, pcD, aw2_fr, isSrD_fr]
theorem Ib.fr {b : Nat} {a : Fr} (h : Ib b (frD a)) : a.1.natAbs < 2 ^ b ∧ a.2.natAbs < 2 ^ b := ⟨(h.tup_in _ (by simp [frD])).int_in, (h.tup_in (.int a.2) (by simp)).int_in⟩
theorem Ib.of_fr {b : Nat} {a : Fr} (h1 : a.1.natAbs < 2 ^ b) (h2 : a.2.natAbs < 2 ^ b) : Ib b (frD a) := .tup (by simp; exact ⟨.int h1, .int h2⟩)
theorem Ib.pc {b : Nat} {p : Pc} (h : Ib b (pcD p)) : Ib b (frD p.1) ∧ Ib b (frD p.2.1) ∧ Ib b (frD p.2.2) := ⟨h.tup_in _ (by simp), h.tup_in (frD p.2.1) (by simp), h.tup_in (frD p.2.2) (by simp)⟩
theorem Ib.of_pc {b : Nat} {p : Pc} (h1 : Ib b (frD p.1)) (h2 : Ib b (frD p.2.1)) (h3 : Ib b (frD p.2.2)) : Ib b (pcD p) := .tup (by simp; exact ⟨h1, h2, h3⟩)
theorem mul_ib {i j : Int} (h1 : i.natAbs < 2 ^ 200) (h2 : j.natAbs < 2 ^ 200) : mulB i j := mulB_of (a := 200) (b := 200) h1 h2 (by decide)
def bendB (p q : Pc) : Bool := (decide (p.2.1.1 = q.1.1) && decide (p.2.1.2 = q.1.2)) && decide (q.2.2.2 < p.2.2.2) && decide (p.2.2.1 * p.2.1.2 + p.2.2.2 * p.2.1.1 = q.2.2.1 * p.2.1.2 + q.2.2.2 * p.2.1.1)
def unFr (d : D) : Fr := match d with
  | .tup [.int a, .int b] => (a, b)
  | _ => (0, 0)
def unPc (d : D) : Pc := match d with
  | .tup [x, y, z] => (unFr x, unFr y, unFr z)
  | _ => ((0, 0), (0, 0), (0, 0))
theorem unPc_pc {p : Pc} : unPc (pcD p) = p := rfl
theorem pcs_of {xs : List D} (h : xs.all isPcD = true) : ∃ ps : List Pc, xs = ps.map pcD ∧ ∀ p ∈ ps, srB p.1 p.2.1 = true := by
  induction xs with
  | nil => exact ⟨[], rfl, by simp⟩
  | cons x r ih =>
    rw [List.all_cons, Bool.and_eq_true] at h
    obtain ⟨p, rfl, hp⟩ := isPcD_of h.1
    obtain ⟨ps, rfl, hs⟩ := ih h.2
    exact ⟨p :: ps, rfl, by simp; exact ⟨by simpa using hp, by simpa using hs⟩⟩
def bendZ (z : D) : Bool := match z with
  | .tup [u, w] => bendB (unPc u) (unPc w)
  | _ => true
/-- the pairs of neighbours -/
def zipD (xs : List D) : List D := List.zipWith (fun u w => .tup [u, w]) xs (xs.drop 1)
theorem zipD_of {ps : List Pc} {z : D} (h : z ∈ zipD (ps.map pcD)) : ∃ p q, p ∈ ps ∧ q ∈ ps ∧ z = .tup [pcD p, pcD q] := by
  obtain ⟨i, hi, rfl⟩ := List.mem_iff_getElem.mp h
  unfold zipD at hi ⊢
  simp only [List.length_zipWith, List.length_drop, List.length_map] at hi
  refine ⟨ps[i]'(by omega), ps[i + 1]'(by omega), List.getElem_mem _, List.getElem_mem _, ?_⟩
  simp [Nat.add_comm]
def archP (a b : Fr) (xs : List D) : Bool :=
  match xs.head?, xs.getLast? with
  | some x, some y => (decide ((unPc x).1.1 = a.1) && decide ((unPc x).1.2 = a.2)) && (decide ((unPc y).2.1.1 = b.1) && decide ((unPc y).2.1.2 = b.2)) && (zipD xs).all bendZ
  | _, _ => false
def isArchD (a b : Fr) (d : D) : Bool := match d with
  | .tup xs => xs.all isPcD && archP a b xs
  | _ => false
theorem at_neg1 {xs : List D} {y : D} (h : xs.getLast? = some y) : L2.atI xs (-1) = some y := by
  obtain ⟨ys, rfl⟩ := List.getLast?_eq_some_iff.mp h
  have e : L2.ixN (ys ++ [y]).length (-1) = some ys.length := by
    unfold L2.ixN
    rw [if_neg (by decide), if_pos (by rw [List.length_append]; simp; omega)]
    congr 1
    rw [List.length_append]; simp; omega
  unfold L2.atI
  rw [e]
  simp
theorem cut_1 {xs : List D} (h : xs ≠ []) : cutD xs (some 1) none = xs.drop 1 := by
  have : 0 < xs.length := List.length_pos_iff.mpr h
  have e : HT.sIx xs.length 0 (some 1) = 1 := by
    have : HT.sIx xs.length 0 (some 1) = min 1 xs.length := HT.sIx_nat xs.length 0 1
    omega
  unfold cutD
  rw [e, HT.sIx_none, List.take_of_length_le (by simp)]
theorem two_l {xs : List D} (h : (xs.length : Int) = 2) : ∃ a b, xs = [a, b] := by
  match xs, h with
  | [a, b], _ => exact ⟨a, b, rfl⟩
  | [], h => simp at h
  | [_], h => simp at h
  | _ :: _ :: _ :: _, h => simp at h; omega
theorem three_l {xs : List D} (h : (xs.length : Int) = 3) : ∃ a b c, xs = [a, b, c] := by
  match xs, h with
  | [a, b, c], _ => exact ⟨a, b, c, rfl⟩
  | [], h => simp at h
  | [_], h => simp at h
  | [_, _], h => simp at h
  | _ :: _ :: _ :: _ :: _, h => simp at h; omega
theorem eq_fr {st : Stt} {a b : Fr} : eqB st (.d (frD a)) (.d (frD b)) = some (decide (a.1 = b.1) && decide (a.2 = b.2)) := eq_tt
theorem all_id {α : Type} {xs : List α} {f : α → Bool} : (xs.map f).all id = xs.all f := by simp [List.all_map]
theorem first_last {xs : List D} (h : xs.all isPcD = true) (e : ¬ (xs.length = 0)) : ∃ p q : Pc, xs.head? = some (pcD p) ∧ xs.getLast? = some (pcD q) ∧ L2.atI xs 0 = some (pcD p) ∧ L2.atI xs (-1) = some (pcD q) := by
  obtain ⟨ps, rfl, _⟩ := pcs_of h
  cases ps with
  | nil => simp at e
  | cons p r =>
    obtain ⟨q, hq⟩ : ∃ q, (p :: r).getLast? = some q := Option.ne_none_iff_exists'.mp (by simp)
    have hl : ((p :: r).map pcD).getLast? = some (pcD q) := by rw [List.getLast?_map, hq]; rfl
    exact ⟨p, q, rfl, hl, atI_nat (n := 0) rfl, at_neg1 hl⟩
theorem archP_ends {a b : Fr} {xs : List D} {p q : Pc} (h : xs.head? = some (pcD p)) (k : xs.getLast? = some (pcD q)) : archP a b xs = ((decide (p.1.1 = a.1) && decide (p.1.2 = a.2)) && (decide (q.2.1.1 = b.1) && decide (q.2.1.2 = b.2)) && (zipD xs).all bendZ) := by
  unfold archP
  rw [h, k]
  rfl
theorem arch_no {a b : Fr} {xs : List D} (h : xs.all isPcD = false) : isArchD a b (.tup xs) = false := by
  show (xs.all isPcD && archP a b xs) = false
  rw [h, Bool.false_and]
theorem arch_yes {a b : Fr} {xs : List D} {p l : Pc} (qx : xs.all isPcD = true) (e1 : xs.head? = some (pcD p)) (e2 : xs.getLast? = some (pcD l)) : isArchD a b (.tup xs) = ((decide (p.1.1 = a.1) && decide (p.1.2 = a.2)) && (decide (l.2.1.1 = b.1) && decide (l.2.1.2 = b.2)) && (zipD xs).all bendZ) := by
  show (xs.all isPcD && archP a b xs) = _
  rw [qx, Bool.true_and, archP_ends e1 e2]
end Ev

namespace Ev
open PySem
/-- a thing to ask of: fine, and its whole numbers not great -/
def Thg (T : List Nat) (m b : Nat) (st : Stt) (d : D) : Prop := Okd T m st d ∧ Ib b d
section
variable {T : List Nat} {m n b c : Nat} {st s : Stt} {d : D} {xs ys : List D}
theorem Thg.mono (h : Thg T m b st d) (k : Kp T st s) : Thg T m b s d := ⟨h.1.mono k, h.2⟩
theorem Thg.kp {p : Nat} (h : Thg T m b st d) (k : Keep p st s) (hp : p ∈ T) : Thg T m b s d := h.mono (k.kp hp)
theorem Thg.le (h : Thg T m b st d) (k : m ≤ n) (l : b ≤ c) : Thg T n c st d := ⟨h.1.le k, h.2.le l⟩
theorem Thg.more {T' : List Nat} (h : Thg T m b st d) (k : ∀ l ∈ T', l ∈ T ∨ st.length ≤ l) : Thg T' m b st d := ⟨h.1.more k, h.2⟩
theorem Thg.tup (hl : xs.length ≤ m) (h : ∀ x ∈ xs, Thg T m b st x) : Thg T m b st (.tup xs) := ⟨.tup hl fun x hx => (h x hx).1, .tup fun x hx => (h x hx).2⟩
theorem Thg.tup_in (h : Thg T m b st (.tup xs)) : xs.length ≤ m ∧ ∀ x ∈ xs, Thg T m b st x := ⟨h.1.tup_in.1, fun x hx => ⟨h.1.tup_in.2 x hx, h.2.tup_in x hx⟩⟩
theorem Thg.int {i : Int} (h : i.natAbs < 2 ^ b) : Thg T m b st (.int i) := ⟨.int i, .int h⟩
theorem Thg.non : Thg T m b st .non := ⟨.non, .non⟩
theorem Thg.bl {x : Bool} : Thg T m b st (.bl x) := ⟨.bl x, .bl x⟩
theorem Thg.str {x : Str} (h : x.length ≤ 1000000) : Thg T m b st (.str x) := ⟨.str h, .str x⟩
theorem Thg.loc {l : Nat} (h : l ∉ T) (k : stLst st l = some xs) : Thg T m b st (.loc l) := ⟨.loc h k, .loc l⟩
theorem Thg.dic {l : Nat} {kvs : List (L2.Key × D)} (h : l ∉ T) (k : st[l]? = some (.dic kvs)) : Thg T m b st (.loc l) := ⟨.dic h k, .loc l⟩
theorem Thg.nil : Thg T m b st (.tup []) := .tup (by simp) (by simp)
theorem Thg.t1 {x : D} (hm : 1 ≤ m) (h : Thg T m b st x) : Thg T m b st (.tup [x]) := .tup (by simpa using hm) (by simpa using h)
theorem Thg.t2 {x y : D} (hm : 2 ≤ m) (h : Thg T m b st x) (k : Thg T m b st y) : Thg T m b st (.tup [x, y]) := .tup (by simpa using hm) (by simp; exact ⟨h, k⟩)
theorem Thg.t3 {x y z : D} (hm : 3 ≤ m) (h : Thg T m b st x) (k : Thg T m b st y) (l : Thg T m b st z) : Thg T m b st (.tup [x, y, z]) := .tup (by simpa using hm) (by simp; exact ⟨h, k, l⟩)
theorem Thg.cut {lo hi : Option Int} (h : Thg T m b st (.tup xs)) : Thg T m b st (.tup (cutD xs lo hi)) := .tup (Nat.le_trans cut_len h.tup_in.1) fun x hx => h.tup_in.2 x (mem_cutD hx)
theorem Thg.app (h : Thg T m b st (.tup xs)) (k : Thg T n b st (.tup ys)) : Thg T (m + n) b st (.tup (xs ++ ys)) := .tup (by rw [List.length_append]; have := h.tup_in.1; have := k.tup_in.1; omega) fun x hx => by
  rcases List.mem_append.mp hx with hx | hx
  · exact (h.tup_in.2 x hx).le (by omega) (Nat.le_refl _)
  · exact (k.tup_in.2 x hx).le (by omega) (Nat.le_refl _)
theorem Thg.rev (h : Thg T m b st (.tup xs)) : Thg T m b st (.tup xs.reverse) := .tup (by rw [List.length_reverse]; exact h.tup_in.1) fun x hx => h.tup_in.2 x (List.mem_reverse.mp hx)
theorem Thg.fr {a : Fr} (hm : 2 ≤ m) (h : a.1.natAbs < 2 ^ b) (k : a.2.natAbs < 2 ^ b) : Thg T m b st (frD a) := .t2 hm (.int h) (.int k)
end
theorem str_len {i : Int} (h0 : 0 ≤ i) (h : i < 10 ^ 50) : (Str.ofString (toString i)).length ≤ 60 := Nat.le_trans (PyProof.Rows.toString_length_le h0 (k := 50) (by decide) h) (by decide)
/-- the fraction told -/
def lowP (p q : Int) : Fr := (p.fdiv (fq p q), q.fdiv (fq p q))
theorem lowF_eq {p q : Int} : lowF p q = frD (lowP p q) := rfl
theorem lowP_facts {p q : Int} (hq : 0 < q) : 0 < (lowP p q).2 ∧ Int.gcd (lowP p q).1 (lowP p q).2 = 1 ∧ (lowP p q).1 * q = p * (lowP p q).2 ∧ (lowP p q).1.natAbs ≤ p.natAbs ∧ (lowP p q).2.natAbs ≤ q.natAbs := by
  obtain ⟨_, h1, h2, h3, h4, h5, _⟩ := frac_facts (p := p) (show q ≠ 0 by omega)
  exact ⟨h1, h2, h3, h4, h5⟩
theorem low_sr {p p' q : Int} (hq : 0 < q) (h : p < p') : srB (lowP p q) (lowP p' q) = true := by
  obtain ⟨a1, a2, a3, _⟩ := lowP_facts (p := p) hq
  obtain ⟨b1, b2, b3, _⟩ := lowP_facts (p := p') hq
  generalize lowP p q = x at *
  generalize lowP p' q = u at *
  refine srB_iff.mpr ⟨⟨a1, a2⟩, ⟨b1, b2⟩, ?_⟩
  refine Int.lt_of_mul_lt_mul_right (a := q) ?_ (by omega)
  have e1 : x.1 * u.2 * q = p * (x.2 * u.2) := by rw [Int.mul_right_comm, a3, Int.mul_assoc]
  have e2 : u.1 * x.2 * q = p' * (x.2 * u.2) := by rw [Int.mul_right_comm, b3, Int.mul_assoc, Int.mul_comm u.2 x.2]
  rw [e1, e2]
  exact Int.mul_lt_mul_of_pos_right h (Int.mul_pos a1 b1)
end Ev

namespace Ev
open PySem
def PotAt (st : Stt) (p q : Nat) (ns : List Int) (i m n h : Int) : Prop := q < p ∧ stLst st p = some [.loc q, .int i, .int m, .int n, .int h] ∧ stLst st q = some (ns.map .int) ∧ 0 ≤ i ∧ 0 ≤ m ∧ 0 ≤ n ∧ 0 ≤ h ∧ h < 1000000007
def Pot (st : Stt) (p c : Nat) : Prop := ∃ q ns i m n h, PotAt st p q ns i m n h ∧ n ≤ c
def Prm (x : D) : Prop := ∃ p, x = .int p ∧ 2000000000 ≤ p ∧ p ≤ 2147483647
theorem prm_of {x : D} (h : x ∈ [D.int 2147483647, D.int 2147483629, D.int 2147483587, D.int 2147483579, D.int 2147483563, D.int 2147483549, D.int 2147483543]) : Prm x := by
  simp only [List.mem_cons, List.not_mem_nil, or_false] at h
  rcases h with rfl | rfl | rfl | rfl | rfl | rfl | rfl <;> exact ⟨_, rfl, by decide, by decide⟩
theorem pot_set {st : Stt} {p q c : Nat} {ns : List Int} {i m n h i' m' n' h' : Int} (P : PotAt st p q ns i m n h) (hi : 0 ≤ i') (hm : 0 ≤ m') (hn : 0 ≤ n') (h0 : 0 ≤ h') (h1 : h' < 1000000007) (hc : n' ≤ c) : PotAt (st.set p (.lst [.loc q, .int i', .int m', .int n', .int h'])) p q ns i' m' n' h' :=
  ⟨P.1, stLst_same (stLst_lt P.2.1), by rw [stLst_ne (show p ≠ q by have := P.1; omega)]; exact P.2.2.1, hi, hm, hn, h0, h1⟩
theorem pot_app {st r : Stt} {p c : Nat} (P : Pot st p c) : Pot (st ++ r) p c := by
  obtain ⟨q, ns, i, m, n, h, ⟨a, b, d, e⟩, hc⟩ := P
  exact ⟨q, ns, i, m, n, h, ⟨a, by rw [stLst_app (stLst_lt b)]; exact b, by rw [stLst_app (stLst_lt d)]; exact d, e⟩, hc⟩
theorem at_map {ns : List Int} {i : Int} (h0 : 0 ≤ i) (h1 : i < ns.length) : ∃ x, L2.atI (ns.map D.int) i = some (.int x) := by
  obtain ⟨d, e, m⟩ := atI_mem (xs := ns.map D.int) h0 (by simpa using h1)
  obtain ⟨x, _, rfl⟩ := List.mem_map.mp m
  exact ⟨x, e⟩
theorem pot_mono {st : Stt} {p c c' : Nat} (P : Pot st p c) (h : c ≤ c') : Pot st p c' := by
  obtain ⟨q, ns, i, m, n, hh, a, b⟩ := P
  exact ⟨q, ns, i, m, n, hh, a, by omega⟩
theorem pot_lt {st : Stt} {p c : Nat} (P : Pot st p c) : p < st.length := by
  obtain ⟨q, ns, i, m, n, h, a, _⟩ := P
  exact stLst_lt a.2.1
/-- a place behind the pot may change -/
theorem pot_put {st : Stt} {p c l : Nat} {o : Ob} (P : Pot st p c) (h : p < l) : Pot (st.set l o) p c := by
  obtain ⟨q, ns, i, m, n, hh, ⟨a, b, d, e⟩, hc⟩ := P
  exact ⟨q, ns, i, m, n, hh, ⟨a, by rw [stLst_ne (show l ≠ p by omega)]; exact b, by rw [stLst_ne (show l ≠ q by omega)]; exact d, e⟩, hc⟩
end Ev

namespace K07
open PySem Ev
theorem pot_of_ok {d : D} {st : Stt} {ns : List Int} (h : lstOf st (.d d) = some (ns.map D.int)) (hl : ns.length ≤ 63) : Wp (F_law_pot_of [d] st) (fun d s => ∃ p, d = .loc p ∧ Pot s p 0) (fun _ _ _ => False) := by
  unfold F_law_pot_of
  rw [wp_evF (by rfl : [d].length = 1)]
  unfold b_law_pot_of
  walk_at "ev "
  have hs : slA (.d d) none (some 63) st = some (.l (ns.map D.int)) := by
    have ht : tupOf (.d d) = none := by
      cases d <;> first | rfl | cases h
    unfold slA
    rw [ht]
    simp only [h, Option.map_some]
    unfold cutD
    have e1 : HT.sIx (ns.map D.int).length 0 none = 0 := rfl
    have e2 : HT.sIx (ns.map D.int).length (ns.map D.int).length (some 63) = ns.length := by
      show (if (63 : Int) < 0 then ((63 : Int) + ((ns.map D.int).length : Int)).toNat else min (63 : Int).toNat (ns.map D.int).length) = _
      rw [if_neg (by decide), List.length_map]
      have : (63 : Int).toNat = 63 := rfl
      omega
    rw [e1, e2]
    simp only [List.drop_zero, Nat.sub_zero]
    rw [List.take_of_length_le (by simp)]
  simp only [hs]
  try walk_at "ev "
  have f1 : stLst (st ++ [Ob.lst (ns.map D.int)]) st.length = some (ns.map D.int) := stLst_last
  exact ⟨st.length, ns, 0, 0, 0, 17, ⟨by simp, stLst_last, by rw [stLst_app (by simp)]; exact f1, by decide, by decide, by decide, by decide, by decide⟩, by decide⟩
theorem wp_law_pot_of {d : D} {st : Stt} {ns : List Int} {Q : D → Stt → Prop} {E : Str → List D → Stt → Prop} (h : lstOf st (.d d) = some (ns.map D.int)) (hl : ns.length ≤ 63) (k : ∀ p s, Pot s p 0 → Q (.loc p) s) : Wp (F_law_pot_of [d] st) Q E :=
  wp_mono (pot_of_ok h hl) (fun _ _ ⟨a, b, c⟩ => b ▸ k a _ c) (fun _ _ _ h => h.elim)

end K07

namespace K07
open PySem Ev
theorem mixed_ok {s t : Int} {st : Stt} (hs : 0 ≤ s) (hs2 : s < 1000000007) (ht : 0 ≤ t) (ht2 : t ≤ 1000000000) : Wp (F_law_mixed [.int s, .int t] st) (fun d s => ∃ k r, d = .int k ∧ s = st ++ r) (fun _ _ _ => False) := by
  unfold F_law_mixed
  rw [wp_evF (by rfl : [D.int s, D.int t].length = 2)]
  unfold b_law_mixed r_law_mixed_1 r_law_mixed_2 r_law_mixed_3 r_law_mixed_4 r_law_mixed_5
  walk_at "ev "
  have f7 := fun x : Int => fm_pos (i := x) (show (0 : Int) < 7 by decide)
  refine ⟨mulB_of (a := 64) (b := 64) (by decide) (by omega) (by decide), pow_ok (b := 64) (by omega) (by decide) (by decide), mem_wp (f7 t).1 (f7 t).2 ?_⟩
  intro x hx
  obtain ⟨p, rfl, hp1, hp2⟩ := prm_of hx
  walk_at "ev "
  generalize hone : ((s + 104729 * t + 1) ^ 3).fmod p = one
  have h1 := fm_pos (i := (s + 104729 * t + 1) ^ 3) (show 0 < p by omega)
  rw [hone] at h1
  have htt : t * t ≤ 1000000000 * 1000000000 := Int.mul_le_mul ht2 ht2 ht (by decide)
  have htt0 : 0 ≤ t * t := Int.mul_nonneg ht ht
  have e1 : 7919 * t * t = 7919 * (t * t) := Int.mul_assoc _ _ _
  have f6 := fm_pos (i := s) (show (0 : Int) < 65537 by decide)
  refine ⟨by omega, mulB_of (a := 64) (b := 64) (by omega) (by decide) (by decide), mulB_of (a := 64) (b := 64) (by decide) (by omega) (by decide), mulB_of (a := 64) (b := 64) (by omega) (by omega) (by decide), pow_ok (b := 128) (by rw [e1]; omega) (by decide) (by decide), mem_wp (f7 _).1 (f7 _).2 ?_⟩
  intro x hx
  obtain ⟨p2, rfl, hq1, hq2⟩ := prm_of hx
  walk_at "ev "
  generalize htwo : ((one * 48271 + 7919 * t * t + s.fmod 65537 + 11) ^ 5).fmod p2 = two
  have h2 := fm_pos (i := (one * 48271 + 7919 * t * t + s.fmod 65537 + 11) ^ 5) (show 0 < p2 by omega)
  rw [htwo] at h2
  refine ⟨by omega, mulB_of (a := 64) (b := 64) (by omega) (by omega) (by decide), mem_wp (f7 _).1 (f7 _).2 ?_⟩
  intro x hx
  obtain ⟨p3, rfl, hr1, hr2⟩ := prm_of hx
  walk_at "ev "
  exact ⟨by omega, _, List.append_assoc _ _ _⟩

end K07

namespace K07
open PySem Ev
theorem draw_last {p c : Nat} {many : Int} {st : Stt} (hc : c < 1000000000) (hm : 0 < many) (hm2 : many < 2 ^ 250) {q : Nat} {ns : List Int} {st1 : Stt} {i m n h : Int} {e2 e3 : Option D} (P : PotAt st1 p q ns i m n h) (hnc : n ≤ c) (kp : Keep p st st1) {N : Ev.Env → Stt → Prop} :
      Ws (evSs G2 r_law_draw_1 [some (.loc p), some (.int many), e2, e3] st1) N (fun d s => ∃ k, d = .int k ∧ 0 ≤ k ∧ k < many ∧ Pot s p (c + 1) ∧ Keep p st s) (fun _ _ _ _ => False) := by
  unfold r_law_draw_1 r_law_draw_2 r_law_draw_3
  have dm : divB many := divB_of (b := 250) (by omega) (by omega) (by decide)
  have fm := fun x : Int => fm_pos (i := x) hm
  have P0 := P
  obtain ⟨_, hp, hq, hi, hm0, hn0, hh0, hh1⟩ := P
  have hlt := stLst_lt hp
  have x0 := fun i => ix_loc (i := i) hp
  by_cases hm : 0 < m
  · walk_at "ev c2_law_mixed l_law_draw_0at3 l_law_draw_0at2 l_law_draw_0at1 l_law_draw_0a l_law_draw_1at2 l_law_draw_1at1 l_law_draw_1a *"
    refine ⟨by omega, ⟨q, ns, i, _, n, h, pot_set (c := c + 1) P0 hi ?_ hn0 hh0 hh1 (by omega), by omega⟩, kp.trans Keep.set⟩
    rw [Int.fdiv_eq_ediv_of_nonneg _ (by omega)]
    exact Int.ediv_nonneg hm0 (by omega)
  · walk_at "ev c2_law_mixed l_law_draw_0at3 l_law_draw_0at2 l_law_draw_0at1 l_law_draw_0a l_law_draw_1at2 l_law_draw_1at1 l_law_draw_1a *"
    refine wp_mono (mixed_ok hh0 hh1 (by omega) (by omega)) ?_ (fun _ _ _ h => h)
    rintro _ _ ⟨k, r, rfl, rfl⟩
    walk_at "ev c2_law_mixed l_law_draw_0at3 l_law_draw_0at2 l_law_draw_0at1 l_law_draw_0a l_law_draw_1at2 l_law_draw_1at1 l_law_draw_1a "
    refine ⟨by omega, (fm k).1, (fm k).2, pot_app ⟨q, ns, i, m, _, h, pot_set (c := c + 1) P0 hi hm0 (by omega) hh0 hh1 (by omega), by omega⟩, (kp.trans Keep.set).trans Keep.app⟩
theorem draw_ok {p c : Nat} {many : Int} {st : Stt} (hP : Pot st p c) (hc : c < 1000000000) (hm : 0 < many) (hm2 : many < 2 ^ 250) : Wp (F_law_draw [.loc p, .int many] st) (fun d s => ∃ k, d = .int k ∧ 0 ≤ k ∧ k < many ∧ Pot s p (c + 1) ∧ Keep p st s) (fun _ _ _ => False) := by
  obtain ⟨q, ns, i, m, n, h, P, hnc⟩ := hP
  have P0 := P
  obtain ⟨pq, hp, hq, hi, hm0, hn0, hh0, hh1⟩ := P
  have hlt := stLst_lt hp
  have x0 := fun i => ix_loc (i := i) hp
  have xq := fun i => ix_loc (i := i) hq
  have lq := bi_len_loc hq
  rw [List.length_map] at lq
  unfold F_law_draw
  rw [wp_evF (by rfl : [D.loc p, D.int many].length = 2)]
  unfold b_law_draw
  have f9 := fun x : Int => fm_pos (i := x) (show (0 : Int) < 1000000007 by decide)
  have mb : mulB h 31 := mulB_of (a := 64) (b := 64) (by omega) (by decide) (by decide)
  have pb : powB 10 18 := pow_ok (b := 64) (by decide) (by decide) (by decide)
  by_cases z : m = 0
  · by_cases z2 : i < ns.length
    · obtain ⟨x, hx⟩ := at_map hi z2
      subst z
      by_cases z3 : 1000000000000000000 ≤ x
      · walk_at "ev c2_law_mixed l_law_draw_0at3 l_law_draw_0at2 l_law_draw_0at1 l_law_draw_0a l_law_draw_1at2 l_law_draw_1at1 l_law_draw_1a *"
        refine draw_last hc hm hm2 (pot_set (c := c) P0 ?_ ?_ hn0 (f9 _).1 (f9 _).2 (by omega)) hnc Keep.set <;> omega
      · walk_at "ev c2_law_mixed l_law_draw_0at3 l_law_draw_0at2 l_law_draw_0at1 l_law_draw_0a l_law_draw_1at2 l_law_draw_1at1 l_law_draw_1a *"
        refine draw_last hc hm hm2 (pot_set (c := c) P0 ?_ ?_ hn0 (f9 _).1 (f9 _).2 (by omega)) hnc Keep.set <;> omega
    · subst z
      walk_at "ev c2_law_mixed l_law_draw_0at3 l_law_draw_0at2 l_law_draw_0at1 l_law_draw_0a l_law_draw_1at2 l_law_draw_1at1 l_law_draw_1a *"
      exact draw_last hc hm hm2 P0 hnc Keep.refl
  · walk_at "ev c2_law_mixed l_law_draw_0at3 l_law_draw_0at2 l_law_draw_0at1 l_law_draw_0a l_law_draw_1at2 l_law_draw_1at1 l_law_draw_1a *"
    exact draw_last hc hm hm2 P0 hnc Keep.refl
theorem wp_law_draw {p c : Nat} {many : Int} {st : Stt} {Q : D → Stt → Prop} {E : Str → List D → Stt → Prop} (hP : Pot st p c) (hc : c < 1000000000) (hm : 0 < many) (hm2 : many < 2 ^ 250) (k : ∀ k s, 0 ≤ k → k < many → Pot s p (c + 1) → Keep p st s → Q (.int k) s) : Wp (F_law_draw [.loc p, .int many] st) Q E :=
  wp_mono (draw_ok hP hc hm hm2) (fun _ _ ⟨a, b, c, d, e, f⟩ => b ▸ k a _ c d e f) (fun _ _ _ h => h.elim)

end K07

namespace K07
open PySem Ev
theorem wide_ok {p c : Nat} {many : Int} {st : Stt} (hP : Pot st p c) (hc : c < 900000000) (hm : 0 < many) (hm2 : many < 2 ^ 250) (hL : (Str.ofString (toString many)).length ≤ 60) : Wp (F_law_wide [.loc p, .int many] st) (fun d s => ∃ k, d = .int k ∧ 0 ≤ k ∧ k < many ∧ Pot s p (c + 11) ∧ Keep p st s) (fun _ _ _ => False) := by
  unfold F_law_wide
  rw [wp_evF (by rfl : [D.loc p, D.int many].length = 2)]
  have hlg : many.natAbs.log2 < 1920 := by
    have := (Nat.log2_lt (show many.natAbs ≠ 0 by omega)).mpr (show many.natAbs < 2 ^ 250 by omega)
    omega
  generalize hl : (Str.ofString (toString many)).length = L at hL
  have d6 : divB 6 := divB_of (b := 64) (by decide) (by decide) (by decide)
  have e6 : ((L : Int)).fdiv 6 = (L / 6 : Nat) := by rw [Int.fdiv_eq_ediv_of_nonneg _ (by decide)]; rfl
  have pb : powB 10 6 := pow_ok (b := 64) (by decide) (by decide) (by decide)
  unfold b_law_wide
  walk_at "ev c3_law_draw l_law_wide_1 "
  unfold r_law_wide_1
  rw [ws_cons]
  refine ws_rng (I := fun k e s => k ≤ 11 ∧ ∃ v t, e = [some (.loc p), some (.int many), some (.int v), t] ∧ 0 ≤ v ∧ v < 1000000 ^ k ∧ Pot s p (c + k) ∧ Keep p st s) (1 + (L / 6 : Nat)) st ?_ ?_ ⟨by omega, 0, none, rfl, by decide, by decide, hP, Keep.refl⟩ ?_ ?_
  · refine eq_of_wp ?_
    walk_at "ev c3_law_draw l_law_wide_1 "
    have : L ≤ 1000000 := by omega
    rw [if_pos hlg]
    walk_at "ev c3_law_draw l_law_wide_1 "
    rw [hl, if_pos this]
    walk_at "ev c3_law_draw l_law_wide_1 "
    rw [e6]
  · have : L / 6 ≤ 10 := by omega
    unfold rngOk
    rw [decide_eq_true_eq]
    omega
  · rintro k e s hk ⟨_, v, t, rfl, v0, v1, P, kp⟩
    have k10 : k ≤ 10 := by omega
    have hv : v < 1000000 ^ 10 := Int.lt_of_lt_of_le v1 (pow_mono k10)
    have mb : mulB v 1000000 := mulB_of (a := 250) (b := 64) (by omega) (by decide) (by decide)
    refine ⟨by simp, ?_⟩
    walk_at "ev c3_law_draw l_law_wide_1 "
    refine ⟨mb, wp_mono (draw_ok P (by omega) (by decide) (by decide)) ?_ (fun _ _ _ h => h)⟩
    rintro _ s2 ⟨z, rfl, z0, z1, P2, kp2⟩
    walk_at "ev c3_law_draw l_law_wide_1 "
    refine ⟨by omega, _, _, rfl, by omega, ?_, P2, kp.trans kp2⟩
    rw [Int.pow_succ]
    omega
  · rintro e s ⟨_, v, t, rfl, v0, v1, P, kp⟩
    have := fm_pos (i := v) hm
    unfold r_law_wide_2
    walk_at "ev c3_law_draw l_law_wide_1 "
    refine ⟨by omega, this.1, this.2, pot_mono P (by omega), kp⟩
theorem wp_law_wide {p c : Nat} {many : Int} {st : Stt} {Q : D → Stt → Prop} {E : Str → List D → Stt → Prop} (hP : Pot st p c) (hc : c < 900000000) (hm : 0 < many) (hm2 : many < 2 ^ 250) (hL : (Str.ofString (toString many)).length ≤ 60) (k : ∀ k s, 0 ≤ k → k < many → Pot s p (c + 11) → Keep p st s → Q (.int k) s) : Wp (F_law_wide [.loc p, .int many] st) Q E :=
  wp_mono (wide_ok hP hc hm hm2 hL) (fun _ _ ⟨a, b, c, d, e, f⟩ => b ▸ k a _ c d e f) (fun _ _ _ h => h.elim)

end K07

namespace K07
open PySem Ev
theorem common_ok (a b : Int) (st : Stt) : F_law_common [.int a, .int b] st = .ok (.int (Int.gcd a b)) st := by
  refine eq_of_wp ?_
  unfold F_law_common
  rw [wp_evF (by rfl : [D.int a, D.int b].length = 2)]
  unfold b_law_common r_law_common_1
  walk_at "ev l_law_common_0 "
  refine ws_whl (I := fun n e s => ∃ a' b', e = [some (.int a'), some (.int b')] ∧ s = st ∧ n = b'.natAbs ∧ Int.gcd a' b' = Int.gcd a b) b.natAbs ⟨a, b, rfl, rfl, rfl, rfl⟩ ?_
  rintro n e s ⟨a', b', rfl, rfl, rfl, hg⟩
  walk_at "ev l_law_common_0 "
  split
  · rename_i hb
    exact ⟨hb, _, fmod_abs a' b' hb, _, _, rfl, rfl, (gcd_step a' b').trans hg⟩
  · rename_i hb
    have hb : b' = 0 := by omega
    subst hb
    rw [Int.gcd_zero_right] at hg
    rw [← hg, abs_if]

end K07

namespace K07
open PySem Ev
theorem law_terms_ok {a b : Int} {st : Stt} (hb : b ≠ 0) (h2 : b.natAbs < 2 ^ 250) : F_law_terms [.int a, .int b] st = .ok (lowF a b) st := by
  have hd := common_ok a b st
  obtain ⟨h0, _, _, _, _, _, h3⟩ := frac_facts (p := a) hb
  have dv : divB (fq a b) := divB_of (b := 250) h0 (Nat.lt_of_le_of_lt h3 h2) (by decide)
  have hg : (Int.gcd a b : Int).natAbs < 2 ^ 250 := by
    have := fq_abs a b
    have e : ((Int.gcd a b : Int)).natAbs = Int.gcd a b := by simp
    rw [e, ← this]
    exact Nat.lt_of_le_of_lt h3 h2
  refine eq_of_wp ?_
  unfold F_law_terms; refine evF_i rfl ?_
  unfold lowF
  unfold fq at dv ⊢
  by_cases z : b < 0
  · simp only [z, if_true] at dv ⊢
    walk_at "nx c5_law_common hd z"
    refine ⟨mulB_of (a := 250) (b := 64) hg (by decide) (by decide), ?_⟩
    walk_at "e c5_law_common "
    rw [show (Int.gcd a b : Int) * -1 = -(Int.gcd a b : Int) by omega]
    walk_at "nx c5_law_common "
    exact ⟨dv, dv⟩
  · simp only [z, if_false] at dv ⊢
    walk_at "nx c5_law_common hd z"
    refine ⟨mulB_of (a := 250) (b := 64) hg (by decide) (by decide), ?_⟩
    walk_at "e c5_law_common "
    rw [Int.mul_one]
    walk_at "nx c5_law_common "
    exact ⟨dv, dv⟩

end K07

namespace K07
open PySem Ev
theorem law_arch_next {ps : List Pc} {bot base rise top fin fall : Int} {u : Pc}
    (b0 : 1 ≤ bot) (hu : u = (lowP top bot, lowP fin bot, (base, rise))) (f1 : 1 ≤ fall)
    (hb : ∀ j a b, ps[j]? = some a → ps[j + 1]? = some b → bendB a b = true)
    (hl : ∀ q, ps.getLast? = some q → q.2.1 = lowP top bot ∧ rise < q.2.2.2 ∧ q.2.2.1 * q.2.1.2 + q.2.2.2 * q.2.1.1 = base * q.2.1.2 + rise * q.2.1.1) :
    (∀ j a b, (ps ++ [u])[j]? = some a → (ps ++ [u])[j + 1]? = some b → bendB a b = true) ∧
    (∀ q, (ps ++ [u]).getLast? = some q → q.2.1 = lowP fin bot ∧ rise - fall * bot < q.2.2.2 ∧ q.2.2.1 * q.2.1.2 + q.2.2.2 * q.2.1.1 = (base + fall * fin) * q.2.1.2 + (rise - fall * bot) * q.2.1.1) := by
  refine ⟨fun j a b ha hb2 => ?_, fun q hq => ?_⟩
  · by_cases e : j + 1 < ps.length
    · rw [List.getElem?_append_left (by omega)] at ha
      rw [List.getElem?_append_left e] at hb2
      exact hb j a b ha hb2
    · have e2 : j + 1 = ps.length := by
        have := (List.getElem?_eq_some_iff.mp hb2).1
        simp at this; omega
      rw [List.getElem?_append_left (by omega)] at ha
      rw [e2, List.getElem?_append_right (Nat.le_refl _), Nat.sub_self] at hb2
      cases hb2
      have hlast : ps.getLast? = some a := by rw [List.getLast?_eq_getElem?, ← e2]; exact ha
      obtain ⟨h1, h2, h3⟩ := hl a hlast
      subst hu
      simp only [bendB, h1] at h3 ⊢
      simp [h2, h3]
  · rw [List.getLast?_append] at hq
    simp at hq
    subst hq hu
    obtain ⟨_, _, e, _⟩ := lowP_facts (p := fin) (q := bot) (by omega)
    have hfb : 0 < fall * bot := Int.mul_pos (by omega) (by omega)
    refine ⟨rfl, by simp only; omega, ?_⟩
    simp only
    generalize lowP fin bot = w at *
    obtain ⟨x, y⟩ := w
    simp only at e ⊢
    have e3 : fall * fin * y = fall * bot * x := by
      rw [Int.mul_assoc, ← e, Int.mul_comm x bot, Int.mul_assoc]
    rw [Int.add_mul, Int.sub_mul, e3]
    omega
theorem kp_keep {p l : Nat} {st s : Stt} (h : Kp [p, l] st s) (hl : st.length ≤ l) : Keep p st s := ⟨h.1, fun k n q => h.2 k (by simp; exact ⟨n, by omega⟩) q⟩
theorem zip_all {ps : List Pc} (h : ∀ j a b, ps[j]? = some a → ps[j + 1]? = some b → bendB a b = true) : (zipD (ps.map pcD)).all bendZ = true := by
  rw [List.all_eq_true]
  intro z hz
  obtain ⟨i, hi, rfl⟩ := List.mem_iff_getElem.mp hz
  unfold zipD at hi ⊢
  simp only [List.length_zipWith, List.length_drop, List.length_map] at hi
  have := h i (ps[i]'(by omega)) (ps[i + 1]'(by omega)) (List.getElem?_eq_getElem _) (List.getElem?_eq_getElem _)
  simp only [List.getElem_zipWith, List.getElem_map, List.getElem_drop, bendZ, unPc_pc, Nat.add_comm 1 i]
  exact this
theorem wp_law_arch {p c : Nat} {st : Stt} {Q : D → Stt → Prop} {E : Str → List D → Stt → Prop} (hP : Pot st p c) (hc : c < 700000000) (k : ∀ ps s, ps ≠ [] → ps.length ≤ 8 → (∀ q ∈ ps, srB q.1 q.2.1 = true) → (∀ q ∈ ps, Ib 64 (pcD q)) → (zipD (ps.map pcD)).all bendZ = true → Pot s p (c + 100) → Keep p st s → Q (.tup (ps.map pcD)) s) : Wp (F_law_arch [.loc p, .int 8] st) Q E := by
  have pb5 : powB 10 5 := pow_ok (b := 64) (by decide) (by decide) (by decide)
  have pb4 : powB 10 4 := pow_ok (b := 64) (by decide) (by decide) (by decide)
  unfold F_law_arch; refine evF_i rfl ?_
  walk_at "nx c6_law_draw c6_law_wide c6_law_terms "
  refine wp_law_draw hP (by omega) (by decide) (by decide) fun z1 s1 z10 z11 P1 K1 => ?_
  walk_at "e c6_law_draw c6_law_wide c6_law_terms "
  refine wp_law_draw P1 (by omega) (by decide) (by decide) fun z2 s2 z20 z21 P2 K2 => ?_
  walk_at "e c6_law_draw c6_law_wide c6_law_terms "
  refine mem_wp z20 (by exact z21) fun x hx => ?_
  have : ∃ b : Int, x = .int b ∧ 1 ≤ b ∧ b ≤ 12 := by
    simp only [List.mem_cons, List.not_mem_nil, or_false] at hx
    rcases hx with rfl | rfl | rfl | rfl | rfl
    · exact ⟨_, rfl, by decide, by decide⟩
    · exact ⟨_, rfl, by decide, by decide⟩
    · exact ⟨_, rfl, by decide, by decide⟩
    · exact ⟨_, rfl, by decide, by decide⟩
    · exact ⟨_, rfl, by omega, by omega⟩
  obtain ⟨bot, rfl, b0, b1⟩ := this
  clear hx
  walk_at "e c6_law_draw c6_law_wide c6_law_terms "
  walk_at "nx c6_law_draw c6_law_wide c6_law_terms pb5"
  refine wp_law_draw P2 (by omega) (by decide) (by decide) fun z3 s3 z30 z31 P3 K3 => ?_
  walk_at "e c6_law_draw c6_law_wide c6_law_terms "
  refine mem_wp z30 (by exact z31) fun x hx => ?_
  have : ∃ b : Int, x = .int b ∧ 3 ≤ b ∧ b ≤ 100000 := by
    simp only [List.mem_cons, List.not_mem_nil, or_false] at hx
    rcases hx with rfl | rfl | rfl <;> exact ⟨_, rfl, by decide, by decide⟩
  obtain ⟨far, rfl, f0, f1⟩ := this
  clear hx
  have mf : mulB 2 far := mulB_of (a := 64) (b := 64) (by decide) (by omega) (by decide)
  walk_at "e c6_law_draw c6_law_wide c6_law_terms "
  walk_at "nx c6_law_draw c6_law_wide c6_law_terms mf"
  refine wp_law_wide P3 (by omega) (by omega) (by omega) (str_len (by omega) (by omega)) fun base s4 ba0 ba1 P4 K4 => ?_
  walk_at "e c6_law_draw c6_law_wide c6_law_terms "
  walk_at "nx c6_law_draw c6_law_wide c6_law_terms mf"
  refine wp_law_wide P4 (by omega) (by omega) (by omega) (str_len (by omega) (by omega)) fun rise s5 ri0 ri1 P5 K5 => ?_
  walk_at "e c6_law_draw c6_law_wide c6_law_terms "
  walk_at "nx c6_law_draw c6_law_wide c6_law_terms pb4"
  have m1 : mulB 2 10000 := mulB_of (a := 64) (b := 64) (by decide) (by decide) (by decide)
  walk_at "e c6_law_draw c6_law_wide c6_law_terms m1"
  refine wp_law_draw P5 (by omega) (by decide) (by decide) fun top s6 t0 t1 P6 K6 => ?_
  walk_at "e c6_law_draw c6_law_wide c6_law_terms "
  walk_at "nx c6_law_draw c6_law_wide c6_law_terms "
  walk_at "nx c6_law_draw c6_law_wide c6_law_terms "
  have K06 := ((((K1.trans K2).trans K3).trans K4).trans K5).trans K6
  have hl0 : stLst (s6 ++ [Ob.lst []]) s6.length = some [] := stLst_last
  have P7 : Pot (s6 ++ [Ob.lst []]) p (c + 30) := pot_mono (pot_app P6) (by omega)
  have K7 : Kp [p, s6.length] st (s6 ++ [Ob.lst []]) := (K06.trans Keep.app).kp (by simp)
  have hlp : s6.length ≠ p := by have := pot_lt P6; omega
  have hls : st.length ≤ s6.length := K06.1
  have hpl0 : p < s6.length := pot_lt P6
  generalize s6.length = l at *
  generalize s6 ++ [Ob.lst []] = s7 at *
  clear K1 K2 K3 K4 K5 K6 K06 P1 P2 P3 P4 P5 P6 hP
  refine wp_law_draw P7 (by omega) (by decide) (by decide) fun n s8 n0 n1 P8 K8 => ?_
  have hl8 := K8.lst hlp hl0
  have K8 := K7.trans (K8.kp (T := [p, l]) (by simp))
  walk_at "e c6_law_draw c6_law_wide c6_law_terms "
  rw [if_pos (show rngOk (1 + n) = true from decide_eq_true (by omega))]
  have hn : (1 + n).toNat ≤ 8 := by omega
  have hn1 : 1 ≤ (1 + n).toNat := by omega
  generalize (1 + n).toNat = N at *
  refine for_R (fun i e s => i ≤ 8 ∧ ∃ (ps : List Pc) (base rise top : Int) (x8 x9 x10 : Option D), e = [some (.loc p), some (.int 8), some (.int bot), some (.int far), some (.int base), some (.int rise), some (.int top), some (.loc l), x8, x9, x10] ∧ stLst s l = some (ps.map pcD) ∧ ps.length = i ∧ (∀ q ∈ ps, srB q.1 q.2.1 = true) ∧ (∀ q ∈ ps, Ib 64 (pcD q)) ∧
      (∀ j a b, ps[j]? = some a → ps[j + 1]? = some b → bendB a b = true) ∧ (∀ q, ps.getLast? = some q → q.2.1 = lowP top bot ∧ rise < q.2.2.2 ∧ q.2.2.1 * q.2.1.2 + q.2.2.2 * q.2.1.1 = base * q.2.1.2 + rise * q.2.1.1) ∧
      base.natAbs ≤ 200001 + 1000000 * i ∧ rise.natAbs ≤ 200001 + 1000 * i ∧ top.natAbs ≤ 10000 + 41 * i ∧ Pot s p (c + 31 + 4 * i) ∧ Kp [p, l] st s)
    ⟨by decide, [], _, _, _, _, _, _, rfl, hl8, rfl, by simp, by simp, by simp, by simp, by omega, by omega, by omega, P8, K8⟩ ?_ ?_
  · rintro i e s hi ⟨hi2, ps, base, rise, top, x8, x9, x10, rfl, hl, hpl, hsr, hib, hbe, hla, bb, br, bt, P, K⟩
    have hi3 : i ≤ 7 := by omega
    refine ⟨by simp, ?_⟩
    simp only [List.set_cons_succ, List.set_cons_zero]
    walk_at "nx c6_law_draw c6_law_wide c6_law_terms "
    refine wp_law_draw P (by omega) (by decide) (by decide) fun z1 s1 z10 z11 P1 K1 => ?_
    walk_at "e c6_law_draw c6_law_wide c6_law_terms "
    refine mem_wp z10 (by exact z11) fun x hx => ?_
    have : ∃ b : Int, x = .int b ∧ 1 ≤ b ∧ b ≤ 40 := by
      simp only [List.mem_cons, List.not_mem_nil, or_false] at hx
      rcases hx with rfl | rfl | rfl <;> exact ⟨_, rfl, by decide, by decide⟩
    obtain ⟨w1, rfl, w10, w11⟩ := this
    clear hx
    walk_at "e c6_law_draw c6_law_wide c6_law_terms "
    refine wp_law_draw P1 (by omega) (by omega) (by omega) fun z2 s2 z20 z21 P2 K2 => ?_
    have K12 := K1.trans K2
    have hl2 := K12.lst hlp hl
    walk_at "e c6_law_draw c6_law_wide c6_law_terms "
    have b0' : bot ≠ 0 := by omega
    have b00 : 0 < bot := by omega
    have t1 := law_terms_ok (a := top) (b := bot) (st := s2) b0' (by omega)
    have t2 := law_terms_ok (a := top + 1 + z2) (b := bot) (st := s2) b0' (by omega)
    rw [lowF_eq] at t1 t2
    walk_at "nx c6_law_draw c6_law_wide c6_law_terms hl2 t1 t2"
    rw [if_pos (show (ps.map pcD).length ≤ 1000000 by rw [List.length_map]; omega)]
    walk_at "e c6_law_draw c6_law_wide c6_law_terms "
    generalize hs3 : s2.set l (.lst (ps.map pcD ++ [D.tup [frD (lowP top bot), frD (lowP (top + 1 + z2) bot), D.tup [.int base, .int rise]]])) = s3
    have hu : D.tup [frD (lowP top bot), frD (lowP (top + 1 + z2) bot), D.tup [.int base, .int rise]] = pcD (lowP top bot, lowP (top + 1 + z2) bot, (base, rise)) := rfl
    have hl3 : stLst s3 l = some ((ps ++ [(lowP top bot, lowP (top + 1 + z2) bot, (base, rise))]).map pcD) := by
      rw [← hs3, hu, List.map_append]; exact stLst_same (stLst_lt hl2)
    have P3 : Pot s3 p (c + 31 + 4 * i + 1 + 1) := by
      rw [← hs3]
      exact pot_put P2 hpl0
    have K3 : Kp [p, l] s s3 := by
      rw [← hs3]
      exact (K12.kp (by simp)).trans (Kp.set (by simp))
    clear hs3 hl2 P1 P2
    walk_at "nx c6_law_draw c6_law_wide c6_law_terms "
    refine wp_law_draw P3 (by omega) (by decide) (by decide) fun z3 s4 z30 z31 P4 K4 => ?_
    walk_at "e c6_law_draw c6_law_wide c6_law_terms "
    refine mem_wp z30 (by exact z31) fun x hx => ?_
    have : ∃ b : Int, x = .int b ∧ 1 ≤ b ∧ b ≤ 40 := by
      simp only [List.mem_cons, List.not_mem_nil, or_false] at hx
      rcases hx with rfl | rfl | rfl <;> exact ⟨_, rfl, by decide, by decide⟩
    obtain ⟨w2, rfl, w20, w21⟩ := this
    clear hx
    walk_at "e c6_law_draw c6_law_wide c6_law_terms "
    refine wp_law_draw P4 (by omega) (by omega) (by omega) fun z4 s5 z40 z41 P5 K5 => ?_
    have hl5 := (K4.trans K5).lst hlp hl3
    have K5 := K3.trans ((K4.trans K5).kp (T := [p, l]) (by simp))
    generalize hfin : top + 1 + z2 = fin at *
    generalize hfall : 1 + z4 = fall at *
    have mm1 : mulB fall fin := mulB_of (a := 64) (b := 64) (by omega) (by omega) (by decide)
    have mm2 : mulB fall bot := mulB_of (a := 64) (b := 64) (by omega) (by omega) (by decide)
    have a1 : (fall * fin).natAbs ≤ 41 * 20000 := by
      rw [Int.natAbs_mul]
      exact Nat.mul_le_mul (by omega) (by omega)
    have a2 : (fall * bot).natAbs ≤ 41 * 12 := by
      rw [Int.natAbs_mul]
      exact Nat.mul_le_mul (by omega) (by omega)
    walk_at "e c6_law_draw c6_law_wide c6_law_terms hfall"
    walk_at "nx c6_law_draw c6_law_wide c6_law_terms mm1"
    walk_at "nx c6_law_draw c6_law_wide c6_law_terms mm2"
    walk_at "nx c6_law_draw c6_law_wide c6_law_terms "
    have nx := law_arch_next (fin := fin) (fall := fall) (bot := bot) b0 rfl (by omega) hbe hla
    obtain ⟨_, _, _, l1, l2⟩ := lowP_facts (p := top) b00
    obtain ⟨_, _, _, l3, l4⟩ := lowP_facts (p := fin) b00
    have sr := low_sr (p := top) (p' := fin) b00 (by omega)
    refine ⟨by omega, _, _, _, _, _, _, _, rfl, hl5, by simp [hpl], ?_, ?_, nx.1, nx.2, by omega, by omega, by omega, pot_mono P5 (by omega), K.trans K5⟩
    · intro q hq
      rcases List.mem_append.mp hq with hq | hq
      · exact hsr q hq
      · rw [List.mem_singleton] at hq; subst hq; exact sr
    · intro q hq
      rcases List.mem_append.mp hq with hq | hq
      · exact hib q hq
      · rw [List.mem_singleton] at hq; subst hq
        exact .of_pc (.of_fr (by simp only; omega) (by simp only; omega)) (.of_fr (by simp only; omega) (by simp only; omega)) (.of_fr (by simp only; omega) (by simp only; omega))
  · rintro e s ⟨hi2, ps, base, rise, top, x8, x9, x10, rfl, hl, hpl, hsr, hib, hbe, hla, bb, br, bt, P, K⟩
    refine hK _ _ ?_
    walk_at "nx c6_law_draw c6_law_wide c6_law_terms hl"
    exact k ps s (by rintro rfl; simp at hpl; omega) (by omega) hsr hib (zip_all hbe) (pot_mono P (by omega)) (kp_keep K hls)

end K07

namespace K07
open PySem Ev
theorem wp_law_size {p c : Nat} {st : Stt} {Q : D → Stt → Prop} {E : Str → List D → Stt → Prop} (hP : Pot st p c) (hc : c < 800000000) (k : ∀ k s, 4 ≤ k → k ≤ 1000000 → (Str.ofString (toString (2 * k + 1))).length ≤ 60 → (Str.ofString (toString (2 * k))).length ≤ 60 → Pot s p (c + 1) → Keep p st s → Q (.int k) s) : Wp (F_law_size [.loc p] st) Q E := by
  unfold F_law_size; refine evF_i rfl ?_
  walk_at "nx c7_law_draw "
  refine wp_law_draw hP (by omega) (by decide) (by decide) fun z s1 z0 z1 P1 K1 => ?_
  walk_at "e c7_law_draw "
  refine mem_wp z0 (by exact z1) fun x hx => ?_
  simp only [List.mem_cons, List.not_mem_nil, or_false] at hx
  rcases hx with rfl | rfl | rfl
  all_goals
    walk_at "e c7_law_draw "
    exact k _ _ (by decide) (by decide) (by decide +kernel) (by decide +kernel) P1 K1

end K07

namespace K07
open PySem Ev
theorem wp_law_stretch {p c : Nat} {st : Stt} {Q : D → Stt → Prop} {E : Str → List D → Stt → Prop} (hP : Pot st p c) (hc : c < 700000000) (k : ∀ a b s, srB a b = true → Ib 64 (frD a) → Ib 64 (frD b) → Pot s p (c + 40) → Keep p st s → Q (.tup [frD a, frD b]) s) : Wp (F_law_stretch [.loc p] st) Q E := by
  unfold F_law_stretch; refine evF_i rfl ?_
  walk_at "nx c8_law_size c8_law_wide c8_law_draw c8_law_terms "
  refine wp_law_size hP (by omega) fun far s1 f0 f1 _ fL P1 K1 => ?_
  walk_at "e c8_law_size c8_law_wide c8_law_draw c8_law_terms "
  walk_at "nx c8_law_size c8_law_wide c8_law_draw c8_law_terms "
  refine wp_law_draw P1 (by omega) (by decide) (by decide) fun z s2 z0 z1 P2 K2 => ?_
  walk_at "e c8_law_size c8_law_wide c8_law_draw c8_law_terms "
  refine mem_wp z0 (by exact z1) fun x hx => ?_
  have : ∃ y, x = .int y ∧ 1 ≤ y ∧ y ≤ 1000000 ∧ (Str.ofString (toString y)).length ≤ 60 := by
    simp only [List.mem_cons, List.not_mem_nil, or_false] at hx
    rcases hx with rfl | rfl | rfl | rfl <;> exact ⟨_, rfl, by decide, by decide, by decide +kernel⟩
  obtain ⟨y, rfl, y0, y1, yL⟩ := this
  walk_at "e c8_law_size c8_law_wide c8_law_draw c8_law_terms "
  refine wp_law_wide P2 (by omega) (by omega) (by omega) yL fun w s3 w0 w1 P3 K3 => ?_
  walk_at "e c8_law_size c8_law_wide c8_law_draw c8_law_terms "
  walk_at "nx c8_law_size c8_law_wide c8_law_draw c8_law_terms "
  refine ⟨mulB_of (a := 64) (b := 64) (by decide) (by omega) (by decide), wp_law_wide P3 (by omega) (by omega) (by omega) fL fun t s4 t0 t1 P4 K4 => ?_⟩
  walk_at "e c8_law_size c8_law_wide c8_law_draw c8_law_terms "
  have hb : (1 + w : Int) ≠ 0 := by omega
  have hb0 : 0 < (1 + w : Int) := by omega
  have ht := law_terms_ok (a := t - far) (b := 1 + w) (st := s4) hb (by omega)
  walk_at "nx c8_law_size c8_law_wide c8_law_draw c8_law_terms ht"
  refine wp_law_wide P4 (by omega) (by omega) (by omega) (str_len (by omega) (by omega)) fun u s5 u0 u1 P5 K5 => ?_
  walk_at "e c8_law_size c8_law_wide c8_law_draw c8_law_terms "
  have ht := law_terms_ok (a := t - far + 1 + u) (b := 1 + w) (st := s5) hb (by omega)
  walk_at "e c8_law_size c8_law_wide c8_law_draw c8_law_terms ht"
  obtain ⟨_, _, _, l1, l2⟩ := lowP_facts (p := t - far) hb0
  obtain ⟨_, _, _, l3, l4⟩ := lowP_facts (p := t - far + 1 + u) hb0
  exact k _ _ _ (low_sr hb0 (by omega)) (.of_fr (by omega) (by omega)) (.of_fr (by omega) (by omega)) (pot_mono P5 (by omega)) ((((K1.trans K2).trans K3).trans K4).trans K5)

end K07

namespace K07
open PySem Ev
theorem law_plain_ok {p : List Nat} {m : Nat} {st : Stt} {d : D} (h : Okd p m st d) : F_law_plain [d] st = .ok (.bl (isWhole d)) st := by
  refine eq_of_wp ?_
  unfold F_law_plain; refine evF_i rfl ?_
  have i1 := fun G => h.isi_int (G := G)
  have i2 := fun G => h.isi_bool (G := G)
  rw [isWhole_eq]
  walk_at "nx i1 i2"
  cases isInt d <;> simp [wp_ok, al_d]

end K07

namespace K07
open PySem Ev
theorem law_is_line_ok {p : List Nat} {m : Nat} {st : Stt} {d : D} (h : Okd p m st d) : F_law_is_line [d] st = .ok (.bl (areWholes d 2)) st := by
  have i1 := fun G => h.isi_tuple (G := G)
  refine eq_of_wp ?_
  unfold F_law_is_line; refine evF_i rfl ?_
  cases q : isTpD d with
  | false =>
    walk_at "nx c10_law_plain i1 q"
    cases d <;> first | (simp [isTpD] at q; done) | rfl
  | true =>
    obtain ⟨xs, rfl⟩ := isTpD_of q
    obtain ⟨h1, h2⟩ := h.tup_in
    by_cases e : (xs.length : Int) = 2
    · obtain ⟨x, y, rfl⟩ := two_l e
      have f1 := law_plain_ok (h2 x (by simp))
      have f2 := law_plain_ok (h2 y (by simp))
      have r : areWholes (.tup [x, y]) 2 = (isWhole x && isWhole y) := by simp [areWholes]
      rw [r]
      cases qx : isWhole x with
      | false => walk_at "nx c10_law_plain i1 q f1 f2 qx"; rfl
      | true => walk_at "nx c10_law_plain i1 q f1 f2 qx"; rfl
    · walk_at "nx c10_law_plain i1 q e"
      simp [areWholes, e]

end K07

namespace K07
open PySem Ev
theorem law_is_fraction_ok {p : List Nat} {m : Nat} {st : Stt} {d : D} (h : Okd p m st d) : F_law_is_fraction [d] st = .ok (.bl (isFr d)) st := by
  have i1 := fun G => h.isi_tuple (G := G)
  have hd := common_ok
  refine eq_of_wp ?_
  unfold F_law_is_fraction; refine evF_i rfl ?_
  cases q : isTpD d with
  | false =>
    walk_at "nx c11_law_plain c11_law_common i1 q"
    walk_at "nx c11_law_plain c11_law_common "
    cases d <;> first | (simp [isTpD] at q; done) | rfl
  | true =>
    obtain ⟨xs, rfl⟩ := isTpD_of q
    obtain ⟨h1, h2⟩ := h.tup_in
    by_cases e : (xs.length : Int) = 2
    · obtain ⟨x, y, rfl⟩ := two_l e
      have f1 := law_plain_ok (h2 x (by simp))
      have f2 := law_plain_ok (h2 y (by simp))
      cases qx : isWhole x with
      | false =>
        walk_at "nx c11_law_plain c11_law_common i1 q f1 f2 qx"
        walk_at "nx c11_law_plain c11_law_common "
        rw [isFr_no (by simp [areWholes, qx])]
      | true =>
        cases qy : isWhole y with
        | false =>
          walk_at "nx c11_law_plain c11_law_common i1 q f1 f2 qx qy"
          walk_at "nx c11_law_plain c11_law_common "
          rw [isFr_no (by simp [areWholes, qx, qy])]
        | true =>
          obtain ⟨a, rfl⟩ := isWhole_of qx
          obtain ⟨b, rfl⟩ := isWhole_of qy
          walk_at "nx c11_law_plain c11_law_common i1 q f1 f2 qx qy"
          by_cases b0 : 0 < b
          · walk_at "nx c11_law_plain c11_law_common hd b0"
            simp [isFr, b0]
            omega
          · walk_at "nx c11_law_plain c11_law_common hd b0"
            simp [isFr, b0]
    · walk_at "nx c11_law_plain c11_law_common i1 q e"
      walk_at "nx c11_law_plain c11_law_common "
      rw [isFr_no (by simp [areWholes, e])]

end K07

namespace K07
open PySem Ev
theorem law_less_ok {a b x y : Int} (h1 : mulB a y) (h2 : mulB x b) (st : Stt) : F_law_less [.tup [.int a, .int b], .tup [.int x, .int y]] st = .ok (.bl (decide (a * y < x * b))) st := by
  refine eq_of_wp ?_
  unfold F_law_less; refine evF_i rfl ?_
  walk_at "nx h1 h2"

end K07

namespace K07
open PySem Ev
theorem law_is_piece_ok {p : List Nat} {m : Nat} {st : Stt} {d : D} (h : Okd p m st d) (hb : Ib 200 d) : F_law_is_piece [d] st = .ok (.bl (isPcD d)) st := by
  have i1 := fun G => h.isi_tuple (G := G)
  refine eq_of_wp ?_
  unfold F_law_is_piece; refine evF_i rfl ?_
  cases q : isTpD d with
  | false =>
    walk_at "nx c13_law_is_line c13_law_is_fraction c13_law_less i1 q"
    walk_at "nx c13_law_is_line c13_law_is_fraction c13_law_less "
    cases d <;> first | (simp [isTpD] at q; done) | rfl
  | true =>
    obtain ⟨xs, rfl⟩ := isTpD_of q
    obtain ⟨h1, h2⟩ := h.tup_in
    by_cases e : (xs.length : Int) = 3
    · obtain ⟨x, y, z, rfl⟩ := three_l e
      have f1 := law_is_fraction_ok (h2 x (by simp))
      have f2 := law_is_fraction_ok (h2 y (by simp))
      have f3 := law_is_line_ok (h2 z (by simp))
      rw [isPcD_3]
      cases qz : areWholes z 2 with
      | false =>
        walk_at "nx c13_law_is_line c13_law_is_fraction c13_law_less i1 q f3 qz"
        walk_at "nx c13_law_is_line c13_law_is_fraction c13_law_less "
        rw [Bool.and_false]
      | true =>
        walk_at "nx c13_law_is_line c13_law_is_fraction c13_law_less i1 q f3 qz"
        cases qx : isFr x with
        | false =>
          walk_at "nx c13_law_is_line c13_law_is_fraction c13_law_less f1 qx"
          rw [sr_no1 qx]
          rfl
        | true =>
          cases qy : isFr y with
          | false =>
            walk_at "nx c13_law_is_line c13_law_is_fraction c13_law_less f1 qx f2 qy"
            rw [sr_no2 qy]
            rfl
          | true =>
            obtain ⟨a, rfl, a1, a2⟩ := isFr_fr qx
            obtain ⟨b, rfl, b1, b2⟩ := isFr_fr qy
            have ba := (hb.tup_in (frD a) (by simp)).fr
            have bb := (hb.tup_in (frD b) (by simp)).fr
            have f4 := law_less_ok (mul_ib ba.1 bb.2) (mul_ib bb.1 ba.2) st
            rw [show D.tup [.int a.1, .int a.2] = frD a from rfl, show D.tup [.int b.1, .int b.2] = frD b from rfl] at f4
            walk_at "nx c13_law_is_line c13_law_is_fraction c13_law_less f1 qx f2 qy f4"
            rw [isSrD_fr]
            simp [srB, a1, a2, b1, b2]
    · walk_at "nx c13_law_is_line c13_law_is_fraction c13_law_less i1 q e"
      walk_at "nx c13_law_is_line c13_law_is_fraction c13_law_less "
      rw [isPcD_no e]

end K07

namespace K07
open PySem Ev
theorem law_put_ok {T : List Nat} {m b : Nat} {st : Stt} {xs : List D} {i : Int} {d : D} (h : Thg T m b st (.tup xs)) (k : Thg T m b st d) (hm : m ≤ 100000) : ∃ ys, F_law_put [.tup xs, .int i, d] st = .ok (.tup ys) st ∧ Thg T (2 * m + 1) b st (.tup ys) := by
  have c1 := h.cut (lo := none) (hi := some i)
  have c2 := h.cut (lo := some (i + 1)) (hi := none)
  have l1 := c1.tup_in.1
  have l2 := c2.tup_in.1
  refine ⟨cutD xs none (some i) ++ [d] ++ cutD xs (some (i + 1)) none, eq_of_wp ?_, ?_⟩
  · unfold F_law_put; refine evF_i rfl ?_
    walk_at "nx lenOk"
    refine ⟨by omega, by simp; omega⟩
  · refine .tup ?_ ?_
    · simp; omega
    · intro x hx
      rcases List.mem_append.mp hx with hx | hx
      · rcases List.mem_append.mp hx with hx | hx
        · exact (c1.tup_in.2 x hx).le (by omega) (Nat.le_refl _)
        · rw [List.mem_singleton] at hx; subst hx; exact k.le (by omega) (Nat.le_refl _)
      · exact (c2.tup_in.2 x hx).le (by omega) (Nat.le_refl _)

end K07

namespace K07
open PySem Ev
theorem wp_law_odd {T : List Nat} {p c : Nat} {st : Stt} {Q : D → Stt → Prop} {E : Str → List D → Stt → Prop} (hP : Pot st p c) (hc : c < 800000000) (hT : ∀ t ∈ T, t < st.length) (k : ∀ d s, Thg T 2 140 s d → Pot s p (c + 1) → Keep p st s → Q d s) (hp : p ∈ T) : Wp (F_law_odd [.loc p] st) Q E := by
  have pb : powB 10 39 := pow_ok (b := 64) (by decide) (by decide) (by decide)
  unfold F_law_odd; refine evF_i rfl ?_
  walk_at "nx c15_law_draw pb"
  have P2 : Pot (st ++ [Ob.lst []] ++ [Ob.dic []] ++ [Ob.lst [D.int 0, D.int 1]]) p c := pot_app (pot_app (pot_app hP))
  have K2 : Keep p st (st ++ [Ob.lst []] ++ [Ob.dic []] ++ [Ob.lst [D.int 0, D.int 1]]) := (Keep.app.trans Keep.app).trans Keep.app
  have a0 : stLst (st ++ [Ob.lst []] ++ [Ob.dic []] ++ [Ob.lst [D.int 0, D.int 1]]) st.length = some [] := by
    simp only [List.append_assoc]; exact stLst_at (k := 0) rfl
  have a1 : (st ++ [Ob.lst []] ++ [Ob.dic []] ++ [Ob.lst [D.int 0, D.int 1]])[(st ++ [Ob.lst []]).length]? = some (.dic []) := by
    simp only [List.append_assoc, List.length_append]; exact st_at (k := 1) rfl
  have a2 : stLst (st ++ [Ob.lst []] ++ [Ob.dic []] ++ [Ob.lst [D.int 0, D.int 1]]) (st ++ [Ob.lst []] ++ [Ob.dic []]).length = some [.int 0, .int 1] := by
    simp only [List.append_assoc, List.length_append]; exact stLst_at (k := 2) rfl
  have n0 : st.length ∉ T := fun h => by have := hT _ h; omega
  have n1 : (st ++ [Ob.lst []]).length ∉ T := fun h => by have := hT _ h; simp at this; omega
  have n2 : (st ++ [Ob.lst []] ++ [Ob.dic []]).length ∉ T := fun h => by have := hT _ h; simp at this; omega
  generalize (st ++ [Ob.lst []] ++ [Ob.dic []]).length = L2 at *
  generalize (st ++ [Ob.lst []]).length = L1 at *
  have hst : st.length = List.length st := rfl
  generalize List.length st = L0 at n0 a0 ⊢
  generalize hS : st ++ [Ob.lst []] ++ [Ob.dic []] ++ [Ob.lst [D.int 0, D.int 1]] = S at *
  generalize hX : [D.non, D.bl true, D.int 0, D.int 1, D.int (-1), D.str (Str.ofString ""), D.tup [], D.loc L0, D.loc L1, D.tup [D.int 0, D.int 1], D.tup [D.int 1, D.int 2],
              D.tup [D.int 2, D.int 4], D.tup [D.bl true, D.int 1], D.loc L2, D.tup [D.tup [D.int 0, D.int 1]], D.int 1000000000000000000000000000000000000000] = X
  have hXl : X.length = 16 := by rw [← hX]; rfl
  have oX : ∀ x ∈ X, Thg T 2 140 S x := by
    intro x hx
    rw [← hX] at hx
    simp only [List.mem_cons, List.not_mem_nil, or_false] at hx
    have i : ∀ n : Int, n.natAbs < 2 ^ 140 → Thg T 2 140 S (.int n) := fun n h => .int h
    rcases hx with rfl | rfl | rfl | rfl | rfl | rfl | rfl | rfl | rfl | rfl | rfl | rfl | rfl | rfl | rfl | rfl
    · exact .non
    · exact .bl
    · exact i _ (by decide)
    · exact i _ (by decide)
    · exact i _ (by decide)
    · exact .str (by decide +kernel)
    · exact .nil
    · exact .loc n0 a0
    · exact .dic n1 a1
    · exact .t2 (by decide) (i _ (by decide)) (i _ (by decide))
    · exact .t2 (by decide) (i _ (by decide)) (i _ (by decide))
    · exact .t2 (by decide) (i _ (by decide)) (i _ (by decide))
    · exact .t2 (by decide) .bl (i _ (by decide))
    · exact .loc n2 a2
    · exact .t1 (by decide) (.t2 (by decide) (i _ (by decide)) (i _ (by decide)))
    · exact i _ (by decide)
  have hl : stLst (S ++ [Ob.lst X]) S.length = some X := stLst_last
  have P3 : Pot (S ++ [Ob.lst X]) p c := pot_app P2
  have K3 : Keep p st (S ++ [Ob.lst X]) := K2.trans Keep.app
  have oX : ∀ x ∈ X, Thg T 2 140 (S ++ [Ob.lst X]) x := fun x hx => (oX x hx).mono Kp.app
  have hne : S.length ≠ p := by have := pot_lt P2; omega
  generalize S.length = l at *
  generalize S ++ [Ob.lst X] = S3 at *
  clear hX hS
  walk_at "nx c15_law_draw "
  refine wp_law_draw P3 (by omega) (by decide) (by decide) fun z s2 z0 z1 P4 K4 => ?_
  have hl2 := K4.lst hne hl
  walk_at "e c15_law_draw hl2"
  refine mem_wp z0 (by omega) fun x hx => ?_
  walk_at "e c15_law_draw "
  exact k _ _ ((oX x hx).kp K4 hp) P4 (K3.trans K4)

end K07

namespace K07
open PySem Ev
theorem wp_law_other_piece {T : List Nat} {p c b : Nat} {st : Stt} {q : Pc} {Q : D → Stt → Prop} {E : Str → List D → Stt → Prop} (hP : Pot st p c) (hc : c < 700000000) (hp : p ∈ T) (hT : ∀ t ∈ T, t < st.length) (hq : srB q.1 q.2.1 = true) (hb : Ib b (pcD q)) (b0 : 140 ≤ b) (b1 : b ≤ 190) (k : ∀ d s, Thg T 9 (b + 1) s d → Pot s p (c + 8) → Keep p st s → Q d s) : Wp (F_law_other_piece [.loc p, pcD q] st) Q E := by
  obtain ⟨⟨q1, q2⟩, ⟨q3, q4⟩, ⟨q5, q6⟩⟩ := q
  obtain ⟨ib1, ib2, ib3⟩ := hb.pc
  have sr := srB_iff.mp hq
  have ib1 := ib1.fr
  have ib2 := ib2.fr
  have ib3 := ib3.fr
  simp only at sr ib1 ib2 ib3
  have hpw : 2 ^ (b + 1) = 2 * 2 ^ b := by rw [Nat.pow_succ]; omega
  have hp1 : 2 ^ 140 ≤ 2 ^ b := Nat.pow_le_pow_right (by decide) b0
  have hp2 : 2 ^ b ≤ 2 ^ 190 := Nat.pow_le_pow_right (by decide) b1
  simp only [pcD, frD]
  unfold F_law_other_piece; refine evF_i rfl ?_
  walk_at "nx c16_law_draw c16_law_odd c16_law_terms c16_law_put "
  refine wp_law_draw hP (by omega) (by decide) (by decide) fun w s1 w0 w1 P1 K1 => ?_
  walk_at "e c16_law_draw c16_law_odd c16_law_terms c16_law_put "
  walk_at "nx c16_law_draw c16_law_odd c16_law_terms c16_law_put "
  refine wp_law_draw P1 (by omega) (by decide) (by decide) fun z s2 z0 z1 P2 K2 => ?_
  walk_at "e c16_law_draw c16_law_odd c16_law_terms c16_law_put "
  refine mem_wp z0 (by exact z1) fun x hx => ?_
  have : ∃ n : Int, x = .int n ∧ n.natAbs ≤ 7 := by
    simp only [List.mem_cons, List.not_mem_nil, or_false] at hx
    rcases hx with rfl | rfl | rfl | rfl <;> exact ⟨_, rfl, by decide⟩
  obtain ⟨n, rfl, hn⟩ := this
  clear hx
  walk_at "e c16_law_draw c16_law_odd c16_law_terms c16_law_put "
  walk_at "nx c16_law_draw c16_law_odd c16_law_terms c16_law_put "
  walk_at "nx c16_law_draw c16_law_odd c16_law_terms c16_law_put "
  have T2 : ∀ t ∈ T, t < s2.length := fun t ht => by have := hT t ht; have := (K1.trans K2).1; omega
  refine wp_law_odd P2 (by omega) T2 (fun o s3 ho P3 K3 => ?_) hp
  have T3 : ∀ t ∈ T, t < s3.length := fun t ht => by have := T2 t ht; have := K3.1; omega
  have K13 := (K1.trans K2).trans K3
  have ho : Thg T 4 (b + 1) s3 o := ho.le (by decide) (by omega)
  have fi : ∀ (a b' : Int) {U : List Nat} {s : Stt}, a.natAbs < 2 ^ (b + 1) → b'.natAbs < 2 ^ (b + 1) → Thg U 9 (b + 1) s (.tup [.int a, .int b']) := fun a b' U s h1 h2 => .t2 (by decide) (.int h1) (.int h2)
  have t1 := lowP_facts (p := q1 + n) sr.1.1
  have t2 := lowP_facts (p := q3 + n) sr.2.1.1
  have e1 := fun st => law_terms_ok (a := q1 + n) (b := q2) (st := st) (by omega) (by omega)
  have e2 := fun st => law_terms_ok (a := q3 + n) (b := q4) (st := st) (by omega) (by omega)
  simp only [lowF_eq] at e1 e2
  have lo : ∀ {U : List Nat} {s : Stt}, Thg U 9 (b + 1) s (.tup [.int q1, .int q2]) := fi _ _ (by omega) (by omega)
  have hi : ∀ {U : List Nat} {s : Stt}, Thg U 9 (b + 1) s (.tup [.int q3, .int q4]) := fi _ _ (by omega) (by omega)
  have li : ∀ {U : List Nat} {s : Stt}, Thg U 9 (b + 1) s (.tup [.int q5, .int q6]) := fi _ _ (by omega) (by omega)
  have f1 : ∀ {U : List Nat} {s : Stt}, Thg U 9 (b + 1) s (frD (lowP (q1 + n) q2)) := fi _ _ (by omega) (by omega)
  have f2 : ∀ {U : List Nat} {s : Stt}, Thg U 9 (b + 1) s (frD (lowP (q3 + n) q4)) := fi _ _ (by omega) (by omega)
  generalize lowP (q1 + n) q2 = u1 at *
  generalize lowP (q3 + n) q4 = u2 at *
  walk_at "e c16_law_draw c16_law_odd c16_law_terms c16_law_put "
  walk_at "nx c16_law_draw c16_law_odd c16_law_terms c16_law_put "
  have oA : ∀ x ∈ [D.tup [D.tup [D.int q1, D.int q2], D.tup [D.int q3, D.int q4], D.tup [D.int (q5 + n), D.int q6]], D.tup [D.tup [D.int q1, D.int q2], D.tup [D.int q3, D.int q4], D.tup [D.int q5, D.int (q6 + n)]]], Thg T 9 (b + 1) s3 x := by
    intro x hx
    simp only [List.mem_cons, List.not_mem_nil, or_false] at hx
    rcases hx with rfl | rfl
    · exact .t3 (by decide) lo hi (fi _ _ (by omega) (by omega))
    · exact .t3 (by decide) lo hi (fi _ _ (by omega) (by omega))
  have nA : ([D.tup [D.tup [D.int q1, D.int q2], D.tup [D.int q3, D.int q4], D.tup [D.int (q5 + n), D.int q6]], D.tup [D.tup [D.int q1, D.int q2], D.tup [D.int q3, D.int q4], D.tup [D.int q5, D.int (q6 + n)]]]).length = 2 := rfl
  generalize [D.tup [D.tup [D.int q1, D.int q2], D.tup [D.int q3, D.int q4], D.tup [D.int (q5 + n), D.int q6]], D.tup [D.tup [D.int q1, D.int q2], D.tup [D.int q3, D.int q4], D.tup [D.int q5, D.int (q6 + n)]]] = A at *
  have hl : stLst (s3 ++ [Ob.lst A]) s3.length = some A := stLst_last
  have PA : Pot (s3 ++ [Ob.lst A]) p (c + 1 + 1 + 1) := pot_app P3
  have KA : Kp T s3 (s3 ++ [Ob.lst A]) := Kp.app
  have KP : Keep p st (s3 ++ [Ob.lst A]) := K13.trans Keep.app
  have pl : p < s3.length := pot_lt P3
  have T4 : ∀ t ∈ T, t < (s3 ++ [Ob.lst A]).length := fun t ht => by have := T3 t ht; simp; omega
  have ho := ho.mono KA
  have oA : ∀ x ∈ A, Thg T 9 (b + 1) (s3 ++ [Ob.lst A]) x := fun x hx => (oA x hx).mono KA
  generalize hl0 : s3.length = l at *
  generalize s3 ++ [Ob.lst A] = s4 at *
  clear K13 P3 K3 KA hl0 T3
  walk_at "nx c16_law_draw c16_law_odd c16_law_terms c16_law_put e1"
  rw [bin_locl hl]
  refine ⟨lenOk_of (by rw [nA]; simp), ?_⟩
  walk_at "e c16_law_draw c16_law_odd c16_law_terms c16_law_put "
  have oB : ∀ x ∈ A ++ [D.tup [D.tup [D.int q3, D.int q4], D.tup [D.int q1, D.int q2], D.tup [D.int q5, D.int q6]], D.tup [D.tup [D.int q1, D.int q2], D.tup [D.int q1, D.int q2], D.tup [D.int q5, D.int q6]], D.tup [frD u1, D.tup [D.int q3, D.int q4], D.tup [D.int q5, D.int q6]]], Thg T 9 (b + 1) s4 x := by
    intro x hx
    rcases List.mem_append.mp hx with hx | hx
    · exact oA x hx
    · simp only [List.mem_cons, List.not_mem_nil, or_false] at hx
      rcases hx with rfl | rfl | rfl
      · exact .t3 (by decide) hi lo li
      · exact .t3 (by decide) lo lo li
      · exact .t3 (by decide) f1 hi li
  have nB : (A ++ [D.tup [D.tup [D.int q3, D.int q4], D.tup [D.int q1, D.int q2], D.tup [D.int q5, D.int q6]], D.tup [D.tup [D.int q1, D.int q2], D.tup [D.int q1, D.int q2], D.tup [D.int q5, D.int q6]], D.tup [frD u1, D.tup [D.int q3, D.int q4], D.tup [D.int q5, D.int q6]]]).length = 5 := by rw [List.length_append, nA]; rfl
  generalize A ++ [D.tup [D.tup [D.int q3, D.int q4], D.tup [D.int q1, D.int q2], D.tup [D.int q5, D.int q6]], D.tup [D.tup [D.int q1, D.int q2], D.tup [D.int q1, D.int q2], D.tup [D.int q5, D.int q6]], D.tup [frD u1, D.tup [D.int q3, D.int q4], D.tup [D.int q5, D.int q6]]] = B at *
  clear oA nA hl
  have hl : stLst (s4 ++ [Ob.lst B]) s4.length = some B := stLst_last
  have PB : Pot (s4 ++ [Ob.lst B]) p (c + 1 + 1 + 1) := pot_app PA
  have KB : Kp T s4 (s4 ++ [Ob.lst B]) := Kp.app
  have KP := KP.trans (Keep.app (r := [Ob.lst B]))
  have pl : p < s4.length := pot_lt PA
  have T5 : ∀ t ∈ T, t < (s4 ++ [Ob.lst B]).length := fun t ht => by have := T4 t ht; simp; omega
  have ho := ho.mono KB
  have oB : ∀ x ∈ B, Thg T 9 (b + 1) (s4 ++ [Ob.lst B]) x := fun x hx => (oB x hx).mono KB
  generalize hl0 : s4.length = l4 at *
  generalize s4 ++ [Ob.lst B] = s5 at *
  clear PA KB hl0 T4
  walk_at "nx c16_law_draw c16_law_odd c16_law_terms c16_law_put e2"
  refine wp_law_draw PB (by omega) (by decide) (by decide) fun z3 s6 z30 z31 P6 K6 => ?_
  have hlp : l4 ≠ p := by omega
  have hl6 := K6.lst hlp hl
  have ho := ho.kp K6 hp
  obtain ⟨ys, ey, oy⟩ := law_put_ok (i := z3) (xs := [D.tup [D.int q1, D.int q2], D.tup [D.int q3, D.int q4], D.tup [D.int q5, D.int q6]]) (.t3 (by decide) (.t2 (by decide) (.int (by omega)) (.int (by omega))) (.t2 (by decide) (.int (by omega)) (.int (by omega))) (.t2 (by decide) (.int (by omega)) (.int (by omega)))) ho (by decide)
  walk_at "e c16_law_draw c16_law_odd c16_law_terms c16_law_put ey"
  rw [bin_locl hl6]
  refine ⟨lenOk_of (by rw [nB]; simp), ?_⟩
  walk_at "e c16_law_draw c16_law_odd c16_law_terms c16_law_put "
  have oC : ∀ x ∈ B ++ [D.tup [D.tup [D.int q1, D.int q2], frD u2, D.tup [D.int q5, D.int q6]], .tup ys], Thg T 9 (b + 1) s6 x := by
    intro x hx
    rcases List.mem_append.mp hx with hx | hx
    · exact (oB x hx).kp K6 hp
    · simp only [List.mem_cons, List.not_mem_nil, or_false] at hx
      rcases hx with rfl | rfl
      · exact .t3 (by decide) lo f2 li
      · exact oy
  have nC : (B ++ [D.tup [D.tup [D.int q1, D.int q2], frD u2, D.tup [D.int q5, D.int q6]], .tup ys]).length = 7 := by rw [List.length_append, nB]; rfl
  have KP := KP.trans K6
  have lsq : st.length ≤ s6.length := KP.1
  have T6 : ∀ t ∈ T, t < s6.length := fun t ht => by have := T5 t ht; have := K6.1; omega
  generalize B ++ [D.tup [D.tup [D.int q1, D.int q2], frD u2, D.tup [D.int q5, D.int q6]], .tup ys] = C at *
  clear oB nB hl hl6 oy ey T5 PB K6
  have hl : stLst (s6 ++ [Ob.lst C]) s6.length = some C := stLst_last
  have PB : Pot (s6 ++ [Ob.lst C]) p (c + 1 + 1 + 1 + 1) := pot_app P6
  have KB : Kp (s6.length :: T) s6 (s6 ++ [Ob.lst C]) := Kp.app
  have KP := KP.trans (Keep.app (r := [Ob.lst C]))
  have pl : p < s6.length := pot_lt P6
  have ls : st.length ≤ s6.length := lsq
  have T5 : ∀ t ∈ s6.length :: T, t < (s6 ++ [Ob.lst C]).length := fun t ht => by
    rcases List.mem_cons.mp ht with rfl | ht
    · simp
    · have := T6 t ht; simp; omega
  have up : ∀ x ∈ s6.length :: T, x ∈ T ∨ s6.length ≤ x := fun x hx => by
    rcases List.mem_cons.mp hx with rfl | hx
    · exact .inr (Nat.le_refl _)
    · exact .inl hx
  have ho := (ho.more up).mono KB
  have oC : ∀ x ∈ C, Thg (s6.length :: T) 9 (b + 1) (s6 ++ [Ob.lst C]) x := fun x hx => ((oC x hx).more up).mono KB
  have down : ∀ {s : Stt} {x : D}, Thg (s6.length :: T) 9 (b + 1) s x → Thg T 9 (b + 1) s x := fun h => h.more fun y hy => .inl (List.mem_cons_of_mem _ hy)
  have hpU : p ∈ s6.length :: T := List.mem_cons_of_mem _ hp
  have hlU : s6.length ∈ s6.length :: T := List.mem_cons_self
  generalize s6.length :: T = U at *
  generalize hl0 : s6.length = l at *
  generalize s6 ++ [Ob.lst C] = s7 at *
  clear P6 KB hl0 T6 hlp up
  have c2 : cutD [D.tup [D.int q1, D.int q2], D.tup [D.int q3, D.int q4], D.tup [D.int q5, D.int q6]] none (some 2) = [D.tup [D.int q1, D.int q2], D.tup [D.int q3, D.int q4]] := rfl
  have lpp : l ≠ p := by omega
  walk_at "nx c16_law_draw c16_law_odd c16_law_terms c16_law_put c2"
  rw [if_pos (show (stLst s7 l).isSome = true by rw [hl]; rfl)]
  have hq : stLst (s7 ++ [Ob.lst [D.tup [D.int q1, D.int q2], D.tup [D.int q3, D.int q4], D.tup [D.int q5, D.int q6]]]) s7.length = some [D.tup [D.int q1, D.int q2], D.tup [D.int q3, D.int q4], D.tup [D.int q5, D.int q6]] := stLst_last
  have hl : stLst (s7 ++ [Ob.lst [D.tup [D.int q1, D.int q2], D.tup [D.int q3, D.int q4], D.tup [D.int q5, D.int q6]]]) l = some C := by rw [stLst_app (stLst_lt hl)]; exact hl
  have PC : Pot (s7 ++ [Ob.lst [D.tup [D.int q1, D.int q2], D.tup [D.int q3, D.int q4], D.tup [D.int q5, D.int q6]]]) p (c + 1 + 1 + 1 + 1) := pot_app PB
  have T8 : ∀ t ∈ U, t < (s7 ++ [Ob.lst [D.tup [D.int q1, D.int q2], D.tup [D.int q3, D.int q4], D.tup [D.int q5, D.int q6]]]).length := fun t ht => by have := T5 t ht; simp; omega
  have nq : s7.length ∉ U := fun h => by have := T5 _ h; omega
  have qp : s7.length ≠ p := by have := pot_lt PB; omega
  have KB : Kp U s7 (s7 ++ [Ob.lst [D.tup [D.int q1, D.int q2], D.tup [D.int q3, D.int q4], D.tup [D.int q5, D.int q6]]]) := Kp.app
  have KP := KP.trans (Keep.app (r := [Ob.lst [D.tup [D.int q1, D.int q2], D.tup [D.int q3, D.int q4], D.tup [D.int q5, D.int q6]]]))
  have ho := ho.mono KB
  have oC : ∀ x ∈ C, Thg U 9 (b + 1) (s7 ++ [Ob.lst [D.tup [D.int q1, D.int q2], D.tup [D.int q3, D.int q4], D.tup [D.int q5, D.int q6]]]) x := fun x hx => (oC x hx).mono KB
  generalize s7.length = l7 at *
  generalize s7 ++ [Ob.lst [D.tup [D.int q1, D.int q2], D.tup [D.int q3, D.int q4], D.tup [D.int q5, D.int q6]]] = s8 at *
  clear PB KB
  refine wp_law_draw PC (by omega) (by decide) (by decide) fun z4 s9 z40 z41 P9 K9 => ?_
  have hl := K9.lst lpp hl
  have hq := K9.lst qp hq
  have ho := ho.kp K9 hpU
  walk_at "e c16_law_draw c16_law_odd c16_law_terms c16_law_put "
  refine mem_wp z40 (by exact z41) fun x hx => ?_
  have hx : Thg U 9 (b + 1) s9 x := by
    simp only [List.mem_cons, List.not_mem_nil, or_false] at hx
    rcases hx with rfl | rfl | rfl | rfl
    · exact .loc nq hq
    · exact .tup (by simp) (by simp; exact ⟨lo, hi, li, .int (by show 0 < 2 ^ (b + 1); omega)⟩)
    · exact .t2 (by decide) lo hi
    · exact ho.le (by decide) (Nat.le_refl _)
  walk_at "e c16_law_draw c16_law_odd c16_law_terms c16_law_put hl"
  rw [if_pos (show C.length ≤ 1000000 by omega)]
  have oD : ∀ y ∈ C ++ [x], Thg U 9 (b + 1) (s9.set l (.lst (C ++ [x]))) y := by
    intro y hy
    refine Thg.mono ?_ (Kp.set hlU)
    rcases List.mem_append.mp hy with hy | hy
    · exact (oC y hy).kp K9 hpU
    · rw [List.mem_singleton] at hy; subst hy; exact hx
  have nD : (C ++ [x]).length = 8 := by rw [List.length_append, nC]; rfl
  have hl : stLst (s9.set l (.lst (C ++ [x]))) l = some (C ++ [x]) := stLst_same (stLst_lt hl)
  have P10 : Pot (s9.set l (.lst (C ++ [x]))) p (c + 1 + 1 + 1 + 1 + 1) := pot_put P9 pl
  have ho := ho.mono (Kp.set (st := s9) (l := l) (o := .lst (C ++ [x])) hlU)
  have KQ : Kp [p, l] st (s9.set l (.lst (C ++ [x]))) := ((KP.trans K9).kp (by simp)).trans (Kp.set (by simp))
  have T9 : ∀ t ∈ U, t < (s9.set l (.lst (C ++ [x]))).length := fun t ht => by have := T8 t ht; have := K9.1; simp; omega
  generalize C ++ [x] = Dd at *
  generalize s9.set l (.lst Dd) = s10 at *
  clear oC nC hq P9 K9 KP
  walk_at "e c16_law_draw c16_law_odd c16_law_terms c16_law_put "
  walk_at "nx c16_law_draw c16_law_odd c16_law_terms c16_law_put "
  have hq : stLst (s10 ++ [Ob.lst [D.int q5, D.int q6]]) s10.length = some [D.int q5, D.int q6] := stLst_last
  have hl : stLst (s10 ++ [Ob.lst [D.int q5, D.int q6]]) l = some Dd := by rw [stLst_app (stLst_lt hl)]; exact hl
  have PC : Pot (s10 ++ [Ob.lst [D.int q5, D.int q6]]) p (c + 1 + 1 + 1 + 1 + 1) := pot_app P10
  have nq : s10.length ∉ U := fun h => by have := T9 _ h; omega
  have qp : s10.length ≠ p := by have := pot_lt P10; omega
  have KB : Kp U s10 (s10 ++ [Ob.lst [D.int q5, D.int q6]]) := Kp.app
  have KQ := KQ.trans (Kp.app (r := [Ob.lst [D.int q5, D.int q6]]))
  have ho := ho.mono KB
  have oD : ∀ x ∈ Dd, Thg U 9 (b + 1) (s10 ++ [Ob.lst [D.int q5, D.int q6]]) x := fun x hx => (oD x hx).mono KB
  generalize s10.length = l10 at *
  generalize s10 ++ [Ob.lst [D.int q5, D.int q6]] = s11 at *
  clear P10 KB
  refine wp_law_draw PC (by omega) (by decide) (by decide) fun z5 s12 z50 z51 P12 K12 => ?_
  have hl := K12.lst lpp hl
  have hq := K12.lst qp hq
  have ho := ho.kp K12 hpU
  walk_at "e c16_law_draw c16_law_odd c16_law_terms c16_law_put "
  refine mem_wp z50 (by exact z51) fun x2 hx2 => ?_
  have hx2 : Thg U 9 (b + 1) s12 x2 := by
    simp only [List.mem_cons, List.not_mem_nil, or_false] at hx2
    have ho9 : Thg U 9 (b + 1) s12 o := ho.le (by decide) (Nat.le_refl _)
    rcases hx2 with rfl | rfl | rfl | rfl
    · exact .loc nq hq
    · exact .t3 (by decide) (.int (by omega)) (.int (by omega)) (.int (by show 0 < 2 ^ (b + 1); omega))
    · exact .t2 (by decide) (.int (by omega)) ho9
    · exact .t2 (by decide) ho9 (.int (by omega))
  walk_at "e c16_law_draw c16_law_odd c16_law_terms c16_law_put "
  walk_at "nx c16_law_draw c16_law_odd c16_law_terms c16_law_put hl"
  rw [if_pos (show Dd.length ≤ 1000000 by omega)]
  walk_at "e c16_law_draw c16_law_odd c16_law_terms c16_law_put "
  have hx3 : Thg U 9 (b + 1) s12 (.tup [D.tup [D.int q1, D.int q2], D.tup [D.int q3, D.int q4], x2]) := .t3 (by decide) lo hi hx2
  generalize D.tup [D.tup [D.int q1, D.int q2], D.tup [D.int q3, D.int q4], x2] = x3 at *
  have oE : ∀ y ∈ Dd ++ [x3], Thg U 9 (b + 1) (s12.set l (.lst (Dd ++ [x3]))) y := by
    intro y hy
    refine Thg.mono ?_ (Kp.set hlU)
    rcases List.mem_append.mp hy with hy | hy
    · exact (oD y hy).kp K12 hpU
    · rw [List.mem_singleton] at hy; subst hy; exact hx3
  have nE : (Dd ++ [x3]).length = 9 := by rw [List.length_append, nD]; rfl
  have hl : stLst (s12.set l (.lst (Dd ++ [x3]))) l = some (Dd ++ [x3]) := stLst_same (stLst_lt hl)
  have P13 : Pot (s12.set l (.lst (Dd ++ [x3]))) p (c + 1 + 1 + 1 + 1 + 1 + 1) := pot_put P12 pl
  have KQ := (KQ.trans (K12.kp (T := [p, l]) (by simp))).trans (Kp.set (l := l) (o := .lst (Dd ++ [x3])) (by simp))
  generalize Dd ++ [x3] = Ee at *
  generalize s12.set l (.lst Ee) = s13 at *
  walk_at "nx c16_law_draw c16_law_odd c16_law_terms c16_law_put hl"
  refine mem_wp w0 (by omega) fun y hy => ?_
  walk_at "e c16_law_draw c16_law_odd c16_law_terms c16_law_put "
  exact k _ _ (down (oE y hy)) (pot_mono P13 (by omega)) (kp_keep KQ ls)

end K07

namespace K07
open PySem Ev
theorem wp_law_spoilt {T : List Nat} {p c m b : Nat} {st : Stt} {d : D} {Q : D → Stt → Prop} {E : Str → List D → Stt → Prop} (hP : Pot st p c) (hc : c < 600000000) (hp : p ∈ T) (hT : ∀ t ∈ T, t < st.length) (hd : Thg T m b st d) (hm : m ≤ 20000) (m9 : 9 ≤ m) (b0 : 140 ≤ b) (b1 : b ≤ 190) (k : ∀ d s, Thg T (3 * m + 3) (b + 1) s d → Pot s p (c + 12) → Keep p st s → Q d s) : Wp (F_law_spoilt [.loc p, d] st) Q E := by
  have i1 := fun s (K : Kp T st s) G => (hd.1.mono K).isi_tuple (G := G)
  unfold F_law_spoilt; refine evF_i rfl ?_
  walk_at "nx c17_law_draw c17_law_is_piece c17_law_put c17_law_other_piece c17_law_odd "
  refine wp_law_draw hP (by omega) (by decide) (by decide) fun w s1 w0 w1 P1 K1 => ?_
  walk_at "e c17_law_draw c17_law_is_piece c17_law_put c17_law_other_piece c17_law_odd "
  have i1 := i1 s1 (K1.kp hp)
  have hd := hd.kp K1 hp
  have back : Q d s1 := k _ _ (hd.le (by omega) (by omega)) (pot_mono P1 (by omega)) K1
  cases q : isTpD d with
  | false =>
    walk_at "nx c17_law_draw c17_law_is_piece c17_law_put c17_law_other_piece c17_law_odd i1 q"
    walk_at "nx c17_law_draw c17_law_is_piece c17_law_put c17_law_other_piece c17_law_odd "
    exact back
  | true =>
    obtain ⟨xs, rfl⟩ := isTpD_of q
    obtain ⟨h1, h2⟩ := hd.tup_in
    by_cases e : xs.length = 0
    · walk_at "nx c17_law_draw c17_law_is_piece c17_law_put c17_law_other_piece c17_law_odd i1 q e"
      walk_at "nx c17_law_draw c17_law_is_piece c17_law_put c17_law_other_piece c17_law_odd "
      exact back
    · obtain ⟨x0, ex0, hm0⟩ := atI_mem (xs := xs) (i := 0) (by decide) (by omega)
      have ep := law_is_piece_ok (h2 x0 hm0).1 ((h2 x0 hm0).2.le (by omega))
      walk_at "nx c17_law_draw c17_law_is_piece c17_law_put c17_law_other_piece c17_law_odd i1 q e ex0 ep"
      cases q0 : isPcD x0 with
      | false =>
        walk_at "e c17_law_draw c17_law_is_piece c17_law_put c17_law_other_piece c17_law_odd "
        walk_at "nx c17_law_draw c17_law_is_piece c17_law_put c17_law_other_piece c17_law_odd "
        exact back
      | true =>
        walk_at "e c17_law_draw c17_law_is_piece c17_law_put c17_law_other_piece c17_law_odd "
        clear ep ex0 hm0 q0 i1 back q
        walk_at "nx c17_law_draw c17_law_is_piece c17_law_put c17_law_other_piece c17_law_odd "
        refine wp_law_draw P1 (by omega) (by omega) (by omega) fun a s2 a0 a1 P2 K2 => ?_
        have K12 := K1.trans K2
        have hd := hd.kp K2 hp
        have h2 : ∀ x ∈ xs, Thg T m b s2 x := fun x hx => (h2 x hx).kp K2 hp
        have T2 : ∀ t ∈ T, t < s2.length := fun t ht => by have := hT t ht; have := K12.1; omega
        clear P1 K1 K2
        walk_at "e c17_law_draw c17_law_is_piece c17_law_put c17_law_other_piece c17_law_odd "
        obtain ⟨y, ey, hy⟩ := atI_mem a0 a1
        have ep := law_is_piece_ok (h2 y hy).1 ((h2 y hy).2.le (by omega))
        have tail : ∀ {N : Ev.Env → Stt → Prop}, Ws (evSs G17 r_law_spoilt_4 [some (.loc p), some (.tup xs), some (.int w), some (.int a), none, none, none] s2) N Q (fun c fs _ s => E c fs s) := by
          intro N
          have cut := fun lo hi => (hd.cut (lo := lo) (hi := hi))
          have cl := fun lo hi => (cut lo hi).tup_in.1
          have l1 := cl none (some a)
          have l2 := cl (some (a + 1)) none
          have l3 := cl none (some (a + 1))
          have l4 := cl (some a) none
          have l5 := cl (some a) (some (a + 2))
          have l6 := cl (some (a + 2)) none
          have g1 := (cut none (some a)).app (cut (some (a + 1)) none)
          have g2 := (cut none (some (a + 1))).app (cut (some a) none)
          have g3 := ((cut none (some a)).app (cut (some a) (some (a + 2))).rev).app (cut (some (a + 2)) none)
          walk_at "nx c17_law_draw c17_law_is_piece c17_law_put c17_law_other_piece c17_law_odd lenOk"
          refine ⟨by omega, by omega, ?_⟩
          walk_at "e c17_law_draw c17_law_is_piece c17_law_put c17_law_other_piece c17_law_odd "
          have oA : ∀ x ∈ [D.tup (cutD xs none (some a) ++ cutD xs (some (a + 1)) none), D.tup (cutD xs none (some (a + 1)) ++ cutD xs (some a) none)], Thg T (3 * m + 3) (b + 1) s2 x := by
            intro x hx
            simp only [List.mem_cons, List.not_mem_nil, or_false] at hx
            rcases hx with rfl | rfl
            · exact g1.le (by omega) (by omega)
            · exact g2.le (by omega) (by omega)
          have nA : ([D.tup (cutD xs none (some a) ++ cutD xs (some (a + 1)) none), D.tup (cutD xs none (some (a + 1)) ++ cutD xs (some a) none)]).length = 2 := rfl
          generalize [D.tup (cutD xs none (some a) ++ cutD xs (some (a + 1)) none), D.tup (cutD xs none (some (a + 1)) ++ cutD xs (some a) none)] = A at *
          have up : ∀ x ∈ s2.length :: T, x ∈ T ∨ s2.length ≤ x := fun x hx => by
            rcases List.mem_cons.mp hx with rfl | hx
            · exact .inr (Nat.le_refl _)
            · exact .inl hx
          have down : ∀ {s : Stt} {x : D}, Thg (s2.length :: T) (3 * m + 3) (b + 1) s x → Thg T (3 * m + 3) (b + 1) s x := fun h => h.more fun y hy => .inl (List.mem_cons_of_mem _ hy)
          have KB : Kp (s2.length :: T) s2 (s2 ++ [Ob.lst A]) := Kp.app
          have hl : stLst (s2 ++ [Ob.lst A]) s2.length = some A := stLst_last
          have oA : ∀ x ∈ A, Thg (s2.length :: T) (3 * m + 3) (b + 1) (s2 ++ [Ob.lst A]) x := fun x hx => ((oA x hx).more up).mono KB
          have hd := (hd.more up).mono KB
          have g3 := (g3.more up).mono KB
          have P3 : Pot (s2 ++ [Ob.lst A]) p (c + 1 + 1) := pot_app P2
          have KP := K12.trans (Keep.app (r := [Ob.lst A]))
          have pl : p < s2.length := pot_lt P2
          have ls : st.length ≤ s2.length := K12.1
          have T3 : ∀ t ∈ s2.length :: T, t < (s2 ++ [Ob.lst A]).length := fun t ht => by
            rcases List.mem_cons.mp ht with rfl | ht
            · simp
            · have := T2 t ht; simp; omega
          have hpU : p ∈ s2.length :: T := List.mem_cons_of_mem _ hp
          have hlU : s2.length ∈ s2.length :: T := List.mem_cons_self
          generalize s2.length :: T = U at *
          generalize hl0 : s2.length = l at *
          generalize s2 ++ [Ob.lst A] = s3 at *
          clear g1 g2 up KB P2 K12 cut ep ey hy hl0
          have lpp : l ≠ p := by omega
          walk_at "nx c17_law_draw c17_law_is_piece c17_law_put c17_law_other_piece c17_law_odd "
          walk_at "nx c17_law_draw c17_law_is_piece c17_law_put c17_law_other_piece c17_law_odd hl lenOk"
          rw [if_pos (show A.length ≤ 1000000 by omega)]
          refine ⟨by rw [List.length_reverse]; omega, by rw [List.length_append, List.length_reverse]; omega, ?_⟩
          have g3 : Thg U (3 * m + 3) (b + 1) s3 _ := g3.le (by omega) (by omega)
          generalize D.tup (cutD xs none (some a) ++ (cutD xs (some a) (some (a + 2))).reverse ++ cutD xs (some (a + 2)) none) = x3 at *
          generalize D.tup (cutD xs (some a) (some (a + 2))) = x5 at *
          clear l1 l2 l3 l4 l5 l6 cl
          have oB : ∀ y ∈ A ++ [x3], Thg U (3 * m + 3) (b + 1) (s3.set l (.lst (A ++ [x3]))) y := by
            intro y hy
            refine Thg.mono ?_ (Kp.set hlU)
            rcases List.mem_append.mp hy with hy | hy
            · exact oA y hy
            · rw [List.mem_singleton] at hy; subst hy; exact g3
          have nB : (A ++ [x3]).length = 3 := by rw [List.length_append, nA]; rfl
          have hl : stLst (s3.set l (.lst (A ++ [x3]))) l = some (A ++ [x3]) := stLst_same (stLst_lt hl)
          have P4 : Pot (s3.set l (.lst (A ++ [x3]))) p (c + 1 + 1) := pot_put P3 pl
          have hd := hd.mono (Kp.set (st := s3) (l := l) (o := .lst (A ++ [x3])) hlU)
          have KQ : Kp [p, l] st (s3.set l (.lst (A ++ [x3]))) := (KP.kp (by simp)).trans (Kp.set (l := l) (by simp))
          have T4 : ∀ t ∈ U, t < (s3.set l (.lst (A ++ [x3]))).length := fun t ht => by have := T3 t ht; simpa using this
          generalize A ++ [x3] = B at *
          generalize s3.set l (.lst B) = s4 at *
          clear oA nA P3 KP T3
          walk_at "e c17_law_draw c17_law_is_piece c17_law_put c17_law_other_piece c17_law_odd "
          walk_at "nx c17_law_draw c17_law_is_piece c17_law_put c17_law_other_piece c17_law_odd "
          have hq : stLst (s4 ++ [Ob.lst xs]) s4.length = some xs := stLst_last
          have hl : stLst (s4 ++ [Ob.lst xs]) l = some B := by rw [stLst_app (stLst_lt hl)]; exact hl
          have P5 : Pot (s4 ++ [Ob.lst xs]) p (c + 1 + 1) := pot_app P4
          have nq : s4.length ∉ U := fun h => by have := T4 _ h; omega
          have qp : s4.length ≠ p := by have := pot_lt P4; omega
          have T5 : ∀ t ∈ U, t < (s4 ++ [Ob.lst xs]).length := fun t ht => by have := T4 t ht; simp; omega
          have KB : Kp U s4 (s4 ++ [Ob.lst xs]) := Kp.app
          have KQ := KQ.trans (Kp.app (r := [Ob.lst xs]))
          have hd := hd.mono KB
          have oB : ∀ x ∈ B, Thg U (3 * m + 3) (b + 1) (s4 ++ [Ob.lst xs]) x := fun x hx => (oB x hx).mono KB
          generalize s4.length = l5 at *
          generalize s4 ++ [Ob.lst xs] = s5 at *
          clear P4 KB T4
          refine wp_law_odd P5 (by omega) T5 (fun o s6 ho P6 K6 => ?_) hpU
          have hl := K6.lst lpp hl
          have hq := K6.lst qp hq
          have hd := hd.kp K6 hpU
          have KQ := KQ.trans (K6.kp (T := [p, l]) (by simp))
          have oB : ∀ x ∈ B, Thg U (3 * m + 3) (b + 1) s6 x := fun x hx => (oB x hx).kp K6 hpU
          have T6 : ∀ t ∈ U, t < s6.length := fun t ht => by have := T5 t ht; have := K6.1; omega
          clear P5 K6 T5
          walk_at "e c17_law_draw c17_law_is_piece c17_law_put c17_law_other_piece c17_law_odd lenOk"
          refine ⟨by omega, ?_⟩
          walk_at "e c17_law_draw c17_law_is_piece c17_law_put c17_law_other_piece c17_law_odd "
          have oE : ∀ x ∈ [D.loc l5, o, D.tup (xs ++ [D.tup []]), D.tup [D.tup xs]], Thg U (3 * m + 3) (b + 1) s6 x := by
            intro x hx
            simp only [List.mem_cons, List.not_mem_nil, or_false] at hx
            rcases hx with rfl | rfl | rfl | rfl
            · exact .loc nq hq
            · exact ho.le (by omega) (by omega)
            · exact (hd.app (n := 1) (ys := [.tup []]) (.t1 (by decide) .nil)).le (by omega) (by omega)
            · exact .t1 (by omega) (hd.le (by omega) (by omega))
          have nE : ([D.loc l5, o, D.tup (xs ++ [D.tup []]), D.tup [D.tup xs]]).length = 4 := rfl
          generalize [D.loc l5, o, D.tup (xs ++ [D.tup []]), D.tup [D.tup xs]] = Ee at *
          have he : stLst (s6 ++ [Ob.lst Ee]) s6.length = some Ee := stLst_last
          have hl : stLst (s6 ++ [Ob.lst Ee]) l = some B := by rw [stLst_app (stLst_lt hl)]; exact hl
          have P7 : Pot (s6 ++ [Ob.lst Ee]) p (c + 1 + 1 + 1) := pot_app P6
          have ep : s6.length ≠ p := by have := pot_lt P6; omega
          have KB : Kp U s6 (s6 ++ [Ob.lst Ee]) := Kp.app
          have KQ := KQ.trans (Kp.app (r := [Ob.lst Ee]))
          have oB : ∀ x ∈ B, Thg U (3 * m + 3) (b + 1) (s6 ++ [Ob.lst Ee]) x := fun x hx => (oB x hx).mono KB
          have oE : ∀ x ∈ Ee, Thg U (3 * m + 3) (b + 1) (s6 ++ [Ob.lst Ee]) x := fun x hx => (oE x hx).mono KB
          generalize s6.length = l6 at *
          generalize s6 ++ [Ob.lst Ee] = s7 at *
          clear P6 KB hq ho
          walk_at "nx c17_law_draw c17_law_is_piece c17_law_put c17_law_other_piece c17_law_odd "
          rw [if_pos (show (stLst s7 l).isSome = true by rw [hl]; rfl)]
          refine wp_law_draw P7 (by omega) (by decide) (by decide) fun z s8 z0 z1 P8 K8 => ?_
          have he := K8.lst ep he
          have hl := K8.lst lpp hl
          walk_at "e c17_law_draw c17_law_is_piece c17_law_put c17_law_other_piece c17_law_odd he"
          refine mem_wp z0 (by omega) fun x hx => ?_
          walk_at "e c17_law_draw c17_law_is_piece c17_law_put c17_law_other_piece c17_law_odd hl"
          rw [if_pos (show B.length ≤ 1000000 by omega)]
          have oC : ∀ y ∈ B ++ [x], Thg U (3 * m + 3) (b + 1) (s8.set l (.lst (B ++ [x]))) y := by
            intro y hy
            refine Thg.mono ?_ (Kp.set hlU)
            rcases List.mem_append.mp hy with hy | hy
            · exact (oB y hy).kp K8 hpU
            · rw [List.mem_singleton] at hy; subst hy; exact (oE _ hx).kp K8 hpU
          have nC : (B ++ [x]).length = 4 := by rw [List.length_append, nB]; rfl
          have hl : stLst (s8.set l (.lst (B ++ [x]))) l = some (B ++ [x]) := stLst_same (stLst_lt hl)
          have P9 : Pot (s8.set l (.lst (B ++ [x]))) p (c + 1 + 1 + 1 + 1) := pot_put P8 pl
          have KQ := (KQ.trans (K8.kp (T := [p, l]) (by simp))).trans (Kp.set (l := l) (o := .lst (B ++ [x])) (by simp))
          generalize B ++ [x] = C at *
          generalize s8.set l (.lst C) = s9 at *
          walk_at "e c17_law_draw c17_law_is_piece c17_law_put c17_law_other_piece c17_law_odd "
          have fm := fm_pos (i := w) (p := 4) (by decide)
          walk_at "nx c17_law_draw c17_law_is_piece c17_law_put c17_law_other_piece c17_law_odd hl"
          refine mem_wp fm.1 (by rw [nC]; exact fm.2) fun y hy => ?_
          walk_at "e c17_law_draw c17_law_is_piece c17_law_put c17_law_other_piece c17_law_odd "
          exact k _ _ (down (oC y hy)) (pot_mono P9 (by omega)) (kp_keep KQ ls)
        by_cases w4 : w < 4
        · cases qy : isPcD y with
          | false =>
            walk_at "nx c17_law_draw c17_law_is_piece c17_law_put c17_law_other_piece c17_law_odd w4 ey ep qy"
            exact tail
          | true =>
            obtain ⟨pc, rfl, hs⟩ := isPcD_of qy
            walk_at "nx c17_law_draw c17_law_is_piece c17_law_put c17_law_other_piece c17_law_odd w4 ey ep qy"
            walk_at "nx c17_law_draw c17_law_is_piece c17_law_put c17_law_other_piece c17_law_odd ey"
            refine wp_law_other_piece P2 (by omega) hp T2 hs (h2 _ hy).2 b0 b1 fun o s3 ho P3 K3 => ?_
            obtain ⟨zs, ez, oz⟩ := law_put_ok (i := a) ((hd.kp K3 hp).le (Nat.le_refl _) (Nat.le_succ b)) (ho.le m9 (Nat.le_refl _)) (by omega)
            walk_at "e c17_law_draw c17_law_is_piece c17_law_put c17_law_other_piece c17_law_odd ez"
            exact k _ _ (oz.le (by omega) (Nat.le_refl _)) (pot_mono P3 (by omega)) (K12.trans K3)
        · walk_at "nx c17_law_draw c17_law_is_piece c17_law_put c17_law_other_piece c17_law_odd w4"
          exact tail

end K07

namespace K07
open PySem Ev
theorem law_amid_ok {a b : Fr} {st : Stt} (ha : Ib 64 (frD a)) (hb : Ib 64 (frD b)) (a0 : 0 < a.2) (b0 : 0 < b.2) : F_law_amid [frD a, frD b] st = .ok (frD (lowP (a.1 * b.2 + b.1 * a.2) (2 * a.2 * b.2))) st ∧ (lowP (a.1 * b.2 + b.1 * a.2) (2 * a.2 * b.2)).1.natAbs < 2 ^ 140 ∧ (lowP (a.1 * b.2 + b.1 * a.2) (2 * a.2 * b.2)).2.natAbs < 2 ^ 140 := by
  obtain ⟨a1, a2⟩ := a
  obtain ⟨b1, b2⟩ := b
  have ha := ha.fr
  have hb := hb.fr
  simp only at ha hb a0 b0 ⊢
  have n1 : (a1 * b2).natAbs < 2 ^ 128 := by
    rw [Int.natAbs_mul]
    exact Nat.lt_of_lt_of_le (Nat.mul_lt_mul'' ha.1 hb.2) (by decide)
  have n2 : (b1 * a2).natAbs < 2 ^ 128 := by
    rw [Int.natAbs_mul]
    exact Nat.lt_of_lt_of_le (Nat.mul_lt_mul'' hb.1 ha.2) (by decide)
  have n3 : (2 * a2 * b2).natAbs < 2 ^ 130 := by
    rw [Int.natAbs_mul]
    exact Nat.lt_of_lt_of_le (Nat.mul_lt_mul'' (show (2 * a2).natAbs < 2 ^ 65 by omega) hb.2) (by decide)
  have q0 : 0 < 2 * a2 * b2 := Int.mul_pos (by omega) b0
  have m1 : mulB a1 b2 := mulB_of (a := 64) (b := 64) ha.1 hb.2 (by decide)
  have m2 : mulB b1 a2 := mulB_of (a := 64) (b := 64) hb.1 ha.2 (by decide)
  have m3 : mulB 2 a2 := mulB_of (a := 64) (b := 64) (by decide) ha.2 (by decide)
  have m4 : mulB (2 * a2) b2 := mulB_of (a := 65) (b := 64) (by omega) hb.2 (by decide)
  have h := law_terms_ok (a := a1 * b2 + b1 * a2) (b := 2 * a2 * b2) (st := st) (by omega) (by omega)
  rw [lowF_eq] at h
  refine ⟨eq_of_wp ?_, ?_⟩
  · simp only [frD] at h ⊢
    unfold F_law_amid; refine evF_i rfl ?_
    walk_at "nx c18_law_terms m1 m2 m3 m4 h"
  · obtain ⟨_, _, _, l1, l2⟩ := lowP_facts (p := a1 * b2 + b1 * a2) q0
    exact ⟨by omega, by omega⟩

end K07

namespace K07
open PySem Ev
theorem wp_law_halved {T : List Nat} {p c : Nat} {st : Stt} {ps : List Pc} {Q : D → Stt → Prop} {E : Str → List D → Stt → Prop} (hP : Pot st p c) (hc : c < 700000000) (hne : ps ≠ []) (hl : ps.length ≤ 1000) (hs : ∀ q ∈ ps, srB q.1 q.2.1 = true) (hi : ∀ q ∈ ps, Ib 64 (pcD q))
    (k : ∀ d s, Thg T 2010 140 s d → Pot s p (c + 1) → Keep p st s → Q d s) : Wp (F_law_halved [.loc p, .tup (ps.map pcD)] st) Q E := by
  have hlen : 0 < ps.length := List.length_pos_iff.mpr hne
  have hlm : (ps.map pcD).length = ps.length := List.length_map _
  have hx : ∀ s, Thg T 1000 64 s (.tup (ps.map pcD)) := fun s => .tup (by omega) fun x hx => by
    obtain ⟨q, hq, rfl⟩ := List.mem_map.mp hx
    have := (hi q hq).pc
    exact .t3 (by decide) (.fr (by decide) this.1.fr.1 this.1.fr.2) (.fr (by decide) this.2.1.fr.1 this.2.1.fr.2) (.fr (by decide) this.2.2.fr.1 this.2.2.fr.2)
  unfold F_law_halved; refine evF_i rfl ?_
  walk_at "nx c19_law_draw c19_law_amid "
  refine wp_law_draw hP (by omega) (by omega) (by omega) fun i s1 i0 i1 P1 K1 => ?_
  walk_at "e c19_law_draw c19_law_amid "
  obtain ⟨x, ex, hm⟩ := atI_mem (xs := ps.map pcD) i0 i1
  obtain ⟨q, hq, rfl⟩ := List.mem_map.mp hm
  walk_at "nx c19_law_draw c19_law_amid ex pcD"
  have sr := srB_iff.mp (hs q hq)
  have ib := (hi q hq).pc
  obtain ⟨e1, n1, n2⟩ := law_amid_ok (st := s1) ib.1 ib.2.1 sr.1.1 sr.2.1.1
  walk_at "nx c19_law_draw c19_law_amid e1"
  walk_at "nx c19_law_draw c19_law_amid "
  walk_at "nx c19_law_draw c19_law_amid lenOk"
  have c1 := (hx s1).cut (lo := none) (hi := some i)
  have c2 := (hx s1).cut (lo := some (i + 1)) (hi := none)
  have l1 := c1.tup_in.1
  have l2 := c2.tup_in.1
  have g := lowP (q.1.1 * q.2.1.2 + q.2.1.1 * q.1.2) (2 * q.1.2 * q.2.1.2)
  refine ⟨by omega, by simp; omega, ?_⟩
  refine k _ _ ?_ P1 K1
  have f : ∀ a : Fr, Ib 64 (frD a) → Thg T 2010 140 s1 (frD a) := fun a h => .fr (by decide) (Nat.lt_of_lt_of_le h.fr.1 (by decide)) (Nat.lt_of_lt_of_le h.fr.2 (by decide))
  have fm : Thg T 2010 140 s1 (frD (lowP (q.1.1 * q.2.1.2 + q.2.1.1 * q.1.2) (2 * q.1.2 * q.2.1.2))) := .fr (by decide) n1 n2
  refine .tup (by simp; omega) fun y hy => ?_
  rcases List.mem_append.mp hy with hy | hy
  · rcases List.mem_append.mp hy with hy | hy
    · exact (c1.tup_in.2 y hy).le (by decide) (by decide)
    · simp only [List.mem_cons, List.not_mem_nil, or_false] at hy
      rcases hy with rfl | rfl
      · exact .t3 (by decide) (f _ ib.1) fm (f _ ib.2.2)
      · exact .t3 (by decide) fm (f _ ib.2.1) (f _ ib.2.2)
  · exact (c2.tup_in.2 y hy).le (by decide) (by decide)

end K07

namespace K07
open PySem Ev
theorem is_whole_ok {p : List Nat} {m : Nat} {st : Stt} {d : D} (h : Okd p m st d) : F_is_whole [d] st = .ok (.bl (isWhole d)) st := by
  refine eq_of_wp ?_
  unfold F_is_whole; refine evF_i rfl ?_
  have i1 := fun G => h.isi_int (G := G)
  have i2 := fun G => h.isi_bool (G := G)
  rw [isWhole_eq]
  walk_at "nx i1 i2"
  cases isInt d <;> simp [wp_ok, al_d]

end K07

namespace K07
open PySem Ev
theorem are_wholes_ok {p : List Nat} {m : Nat} {st : Stt} {d : D} {n : Int} (h : Okd p m st d) (hm : m ≤ 1000000) : F_are_wholes [d, .int n] st = .ok (.bl (areWholes d n)) st := by
  refine eq_of_wp ?_
  unfold F_are_wholes; refine evF_i rfl ?_
  have i1 := fun G => h.isi_tuple (G := G)
  cases q : isTpD d with
  | false =>
    walk_at "nx c21_is_whole i1 q"
    cases d <;> first | (simp [isTpD] at q; done) | exact ⟨rfl, rfl⟩
  | true =>
    obtain ⟨xs, rfl⟩ := isTpD_of q
    obtain ⟨h1, h2⟩ := h.tup_in
    walk_at "nx c21_is_whole i1 q"
    by_cases e : (xs.length : Int) = n
    · walk_at "e c21_is_whole e"
      walk_at "nx c21_is_whole "
      rw [lc_mp (f := fun x => .bl (isWhole x))]
      · walk_at "e c21_is_whole bools_map"
        rw [if_pos (show xs.length ≤ 1000000 by omega)]
        walk_at "e c21_is_whole bools_map"
        simp [areWholes, e]
      · intro x hx
        refine eq_of_wp ?_
        have := is_whole_ok (h2 x hx)
        walk_at "e c21_is_whole this"
    · walk_at "e c21_is_whole e"
      walk_at "nx c21_is_whole "
      simp [areWholes, e]
theorem are_wholes_ints {ns : List Int} {n : Int} {st : Stt} (hl : ns.length ≤ 1000000) : F_are_wholes [.tup (ns.map .int), .int n] st = .ok (.bl (decide ((ns.length : Int) = n))) st := by
  have h := are_wholes_ok (p := []) (m := 1000000) (st := st) (n := n) (.tup (xs := ns.map .int) (by simpa using hl) (by intro x hx; simp only [List.mem_map] at hx; obtain ⟨i, _, rfl⟩ := hx; exact .int i)) (Nat.le_refl _)
  rw [h]
  have : (ns.map D.int).all isWhole = true := by simp [isWhole]
  simp [areWholes, this]

end K07

namespace K07
open PySem Ev
theorem divisor_ok (a b : Int) (st : Stt) : F_divisor_of [.int a, .int b] st = .ok (.int (Int.gcd a b)) st := by
  refine eq_of_wp ?_
  unfold F_divisor_of
  rw [wp_evF (by rfl : [D.int a, D.int b].length = 2)]
  unfold b_divisor_of r_divisor_of_1
  walk_at "ev l_divisor_of_0 "
  refine ws_whl (I := fun n e s => ∃ a' b', e = [some (.int a'), some (.int b')] ∧ s = st ∧ n = b'.natAbs ∧ Int.gcd a' b' = Int.gcd a b) b.natAbs ⟨a, b, rfl, rfl, rfl, rfl⟩ ?_
  rintro n e s ⟨a', b', rfl, rfl, rfl, hg⟩
  walk_at "ev l_divisor_of_0 "
  split
  · rename_i hb
    exact ⟨hb, _, fmod_abs a' b' hb, _, _, rfl, rfl, (gcd_step a' b').trans hg⟩
  · rename_i hb
    have hb : b' = 0 := by omega
    subst hb
    rw [Int.gcd_zero_right] at hg
    rw [← hg, abs_if]

end K07

namespace K07
open PySem Ev
theorem is_fraction_ok {p : List Nat} {m : Nat} {st : Stt} {d : D} (h : Okd p m st d) (hm : m ≤ 1000000) : F_is_fraction [d] st = .ok (.bl (isFr d)) st := by
  refine eq_of_wp ?_
  unfold F_is_fraction; refine evF_i rfl ?_
  have h1 := are_wholes_ok (n := 2) h hm
  have h2 := divisor_ok
  walk_at "nx c23_are_wholes c23_divisor_of h1"
  cases q : areWholes d 2 with
  | false => simp only [Bool.false_eq_true, if_false, wp_ok, al_d, isFr_no q, and_self]
  | true =>
    obtain ⟨ns, rfl, hl⟩ := areWholes_of (n := 2) q
    match ns, hl with
    | [a, b], _ =>
      walk_at "e c23_are_wholes c23_divisor_of h2"
      by_cases b0 : 0 < b
      · walk_at "e c23_are_wholes c23_divisor_of b0"
        simp only [wp_ok, isFr, b0, decide_true, Bool.true_and, true_and]
        congr 2; apply propext; omega
      · walk_at "e c23_are_wholes c23_divisor_of b0"
        simp [isFr, b0]

end K07

namespace K07
open PySem Ev
theorem is_before_ok {a b x y : Int} (h1 : mulB a y) (h2 : mulB x b) (st : Stt) : F_is_before [.tup [.int a, .int b], .tup [.int x, .int y]] st = .ok (.bl (decide (a * y < x * b))) st := by
  refine eq_of_wp ?_
  unfold F_is_before; refine evF_i rfl ?_
  walk_at "nx h1 h2"

end K07

namespace K07
open PySem Ev
theorem is_stretch_ok {p : List Nat} {m : Nat} {st : Stt} {d : D} (h : Okd p m st d) (hb : Ib 200 d) (hm : m ≤ 1000000) : F_is_stretch [d] st = .ok (.bl (isSrD d)) st := by
  have i1 := fun G => h.isi_tuple (G := G)
  refine eq_of_wp ?_
  unfold F_is_stretch; refine evF_i rfl ?_
  cases q : isTpD d with
  | false =>
    walk_at "nx c25_is_fraction c25_is_before i1 q"
    walk_at "nx c25_is_fraction c25_is_before "
    cases d <;> first | (simp [isTpD] at q; done) | rfl
  | true =>
    obtain ⟨xs, rfl⟩ := isTpD_of q
    obtain ⟨h1, h2⟩ := h.tup_in
    by_cases e : (xs.length : Int) = 2
    · obtain ⟨x, y, rfl⟩ := two_l e
      have f1 := is_fraction_ok (h2 x (by simp)) hm
      have f2 := is_fraction_ok (h2 y (by simp)) hm
      walk_at "nx c25_is_fraction c25_is_before i1 q e"
      rw [lc_mp (f := fun x => .bl (isFr x))]
      · have bs : boolsOf [D.bl (isFr x), D.bl (isFr y)] = some [isFr x, isFr y] := rfl
        have ba : ∀ a b : Bool, [a, b].all id = (a && b) := by simp
        walk_at "e c25_is_fraction c25_is_before bs ba"
        cases qx : isFr x with
        | false =>
          have r := sr_no1 (y := y) qx
          walk_at "e c25_is_fraction c25_is_before r qx Bool.false_and Bool.true_and Bool.and_false Bool.and_true decide_false decide_true"
          walk_at "nx c25_is_fraction c25_is_before r"
        | true =>
          cases qy : isFr y with
          | false =>
            have r := sr_no2 (x := x) qy
            walk_at "e c25_is_fraction c25_is_before r qx qy Bool.false_and Bool.true_and Bool.and_false Bool.and_true decide_false decide_true"
            walk_at "nx c25_is_fraction c25_is_before r"
          | true =>
            obtain ⟨a, rfl, a1, a2⟩ := isFr_fr qx
            obtain ⟨b, rfl, b1, b2⟩ := isFr_fr qy
            have ba := (hb.tup_in (frD a) (by simp)).fr
            have bb := (hb.tup_in (frD b) (by simp)).fr
            have f4 := is_before_ok (mul_ib ba.1 bb.2) (mul_ib bb.1 ba.2) st
            rw [show D.tup [.int a.1, .int a.2] = frD a from rfl, show D.tup [.int b.1, .int b.2] = frD b from rfl] at f4
            walk_at "e c25_is_fraction c25_is_before qx qy Bool.false_and Bool.true_and Bool.and_false Bool.and_true decide_false decide_true"
            walk_at "nx c25_is_fraction c25_is_before f4"
            rw [isSrD_fr]
            simp [srB, a1, a2, b1, b2]
      · intro x hx
        simp only [List.mem_cons, List.not_mem_nil, or_false] at hx
        refine eq_of_wp ?_
        rcases hx with rfl | rfl
        · walk_at "e c25_is_fraction c25_is_before f1"
        · walk_at "e c25_is_fraction c25_is_before f2"
    · walk_at "nx c25_is_fraction c25_is_before i1 q e"
      walk_at "nx c25_is_fraction c25_is_before "
      unfold isSrD
      split
      · rename_i heq; cases heq; simp at e
      · rfl

end K07

namespace K07
open PySem Ev
theorem need_stretch_ok {p : List Nat} {m : Nat} {st : Stt} {d : D} (h : Okd p m st d) (hb : Ib 200 d) (hm : m ≤ 1000000) (hd : isSrD d = true) : F_need_stretch [d] st = .ok .non st := by
  have h := is_stretch_ok h hb hm
  rw [hd] at h
  refine eq_of_wp ?_
  unfold F_need_stretch; refine evF_i rfl ?_
  walk_at "nx c26_is_stretch h"
  exact ⟨rfl, rfl⟩

end K07

namespace K07
open PySem Ev
theorem is_piece_ok {p : List Nat} {m : Nat} {st : Stt} {d : D} (h : Okd p m st d) (hb : Ib 200 d) (hm : m ≤ 1000000) : F_is_piece [d] st = .ok (.bl (isPcD d)) st := by
  have i1 := fun G => h.isi_tuple (G := G)
  refine eq_of_wp ?_
  unfold F_is_piece; refine evF_i rfl ?_
  cases q : isTpD d with
  | false =>
    walk_at "nx c27_is_stretch c27_are_wholes i1 q"
    walk_at "nx c27_is_stretch c27_are_wholes "
    cases d <;> first | (simp [isTpD] at q; done) | rfl
  | true =>
    obtain ⟨xs, rfl⟩ := isTpD_of q
    obtain ⟨h1, h2⟩ := h.tup_in
    by_cases e : (xs.length : Int) = 3
    · obtain ⟨x, y, z, rfl⟩ := three_l e
      have hx := h2 x (by simp)
      have hy := h2 y (by simp)
      simp only [List.length_cons, List.length_nil] at h1
      have f1 := is_stretch_ok (d := .tup [x, y]) (.tup (by simp; omega) (by simp; exact ⟨hx, hy⟩)) (.tup (by simp; exact ⟨hb.tup_in x (by simp), hb.tup_in y (by simp)⟩)) hm
      have f2 := are_wholes_ok (n := 2) (h2 z (by simp)) hm
      have c : cutD [x, y, z] none (some 2) = [x, y] := rfl
      rw [isPcD_3]
      cases qs : isSrD (.tup [x, y]) with
      | false =>
        walk_at "nx c27_is_stretch c27_are_wholes i1 q c f1 qs"
        walk_at "nx c27_is_stretch c27_are_wholes "
        rw [Bool.false_and]
      | true =>
        walk_at "nx c27_is_stretch c27_are_wholes i1 q c f1 qs"
        walk_at "nx c27_is_stretch c27_are_wholes f2"
        rfl
    · walk_at "nx c27_is_stretch c27_are_wholes i1 q e"
      walk_at "nx c27_is_stretch c27_are_wholes "
      rw [isPcD_no e]

end K07

namespace K07
open PySem Ev
theorem weight_ok {a b p q : Int} (h1 : mulB a q) (h2 : mulB b p) (st : Stt) : F_weight [.tup [.int a, .int b], .tup [.int p, .int q]] st = .ok (.int (a * q + b * p)) st := by
  refine eq_of_wp ?_
  unfold F_weight; refine evF_i rfl ?_
  walk_at "nx h1 h2"

end K07

namespace K07
open PySem Ev
theorem is_bend_ok {p q : Pc} (hp : Ib 200 (pcD p)) (hq : Ib 200 (pcD q)) (st : Stt) : F_is_bend [pcD p, pcD q] st = .ok (.bl (bendB p q)) st := by
  obtain ⟨⟨p1, p2⟩, ⟨p3, p4⟩, ⟨p5, p6⟩⟩ := p
  obtain ⟨⟨q1, q2⟩, ⟨q3, q4⟩, ⟨q5, q6⟩⟩ := q
  have a2 := hp.pc.2.1.fr
  have a3 := hp.pc.2.2.fr
  have b3 := hq.pc.2.2.fr
  have m1 := weight_ok (a := p5) (b := p6) (p := p3) (q := p4) (mul_ib a3.1 a2.2) (mul_ib a3.2 a2.1) st
  have m2 := weight_ok (a := q5) (b := q6) (p := p3) (q := p4) (mul_ib b3.1 a2.2) (mul_ib b3.2 a2.1) st
  simp only [pcD, frD, bendB]
  refine eq_of_wp ?_
  unfold F_is_bend; refine evF_i rfl ?_
  by_cases e1 : p3 = q1
  · by_cases e2 : p4 = q2
    · by_cases e3 : q6 < p6
      · have e3' : ¬ p6 ≤ q6 := by omega
        walk_at "nx c29_weight e1 e2 e3 e3'"
        subst e1 e2
        walk_at "nx c29_weight m1 m2"
        simp [e3]
      · have e3' : p6 ≤ q6 := by omega
        walk_at "nx c29_weight e1 e2 e3 e3' Bool.false_and Bool.true_and Bool.and_false Bool.and_true decide_false decide_true"
        have e0 : (decide (p3 = q1) && decide (p4 = q2) && decide (q6 < p6) && decide (p5 * p4 + p6 * p3 = q5 * p4 + q6 * p3)) = false := by simp [e3]
        walk_at "nx c29_weight e0"
    · walk_at "nx c29_weight e1 e2 Bool.false_and Bool.true_and Bool.and_false Bool.and_true decide_false decide_true"
      have e0 : (decide (p3 = q1) && decide (p4 = q2) && decide (q6 < p6) && decide (p5 * p4 + p6 * p3 = q5 * p4 + q6 * p3)) = false := by simp [e2]
      walk_at "nx c29_weight e0"
  · walk_at "nx c29_weight e1 Bool.false_and Bool.true_and Bool.and_false Bool.and_true decide_false decide_true"
    have e0 : (decide (p3 = q1) && decide (p4 = q2) && decide (q6 < p6) && decide (p5 * p4 + p6 * p3 = q5 * p4 + q6 * p3)) = false := by simp [e1]
    walk_at "nx c29_weight e0"

end K07

namespace K07
open PySem Ev
theorem is_arch_of_ok {T : List Nat} {m : Nat} {st : Stt} {d : D} {a b : Fr} (h : Okd T m st d) (hb : Ib 200 d) (hm : m ≤ 1000000) : F_is_arch_of [.tup [frD a, frD b], d] st = .ok (.bl (isArchD a b d)) st := by
  have i1 := fun G => h.isi_tuple (G := G)
  refine eq_of_wp ?_
  unfold F_is_arch_of; refine evF_i rfl ?_
  cases q : isTpD d with
  | false =>
    walk_at "nx c30_is_piece c30_is_bend i1 q"
    walk_at "nx c30_is_piece c30_is_bend "
    cases d <;> first | (simp [isTpD] at q; done) | rfl
  | true =>
    obtain ⟨xs, rfl⟩ := isTpD_of q
    obtain ⟨h1, h2⟩ := h.tup_in
    by_cases e : xs.length = 0
    · walk_at "nx c30_is_piece c30_is_bend i1 q e"
      walk_at "nx c30_is_piece c30_is_bend "
      obtain rfl := List.eq_nil_of_length_eq_zero e
      rfl
    · walk_at "nx c30_is_piece c30_is_bend i1 q e"
      rw [lc_mp (f := fun x => .bl (isPcD x))]
      · walk_at "e c30_is_piece c30_is_bend "
        rw [if_pos (by omega)]
        walk_at "e c30_is_piece c30_is_bend bools_map all_id"
        cases qx : xs.all isPcD with
        | false =>
          walk_at "e c30_is_piece c30_is_bend "
          walk_at "nx c30_is_piece c30_is_bend "
          rw [arch_no qx]
        | true =>
          walk_at "e c30_is_piece c30_is_bend "
          obtain ⟨p, l, e1, e2, a0, a1⟩ := first_last qx e
          have hne : xs ≠ [] := by rintro rfl; exact e rfl
          rw [arch_yes qx e1 e2]
          cases c1 : (decide (p.1.1 = a.1) && decide (p.1.2 = a.2)) with
          | false =>
            walk_at "nx c30_is_piece c30_is_bend a0 a1 pcD eq_fr c1"
            walk_at "nx c30_is_piece c30_is_bend "
            simp
          | true =>
            cases c2 : (decide (l.2.1.1 = b.1) && decide (l.2.1.2 = b.2)) with
            | false =>
              walk_at "nx c30_is_piece c30_is_bend a0 a1 pcD eq_fr c1 c2"
              walk_at "nx c30_is_piece c30_is_bend "
              simp
            | true =>
              walk_at "nx c30_is_piece c30_is_bend a0 a1 pcD eq_fr c1 c2"
              have hc := cut_1 hne
              have hz : List.zipWith (fun u w => D.tup [u, w]) xs (xs.drop 1) = zipD xs := rfl
              walk_at "nx c30_is_piece c30_is_bend hc hz"
              have hlz : (zipD xs).length ≤ 1000000 := by unfold zipD; simp only [List.length_zipWith]; omega
              rw [lc_mp (f := fun z => .bl (bendZ z))]
              · walk_at "e c30_is_piece c30_is_bend "
                rw [if_pos hlz]
                walk_at "e c30_is_piece c30_is_bend bools_map all_id"
                simp
              · intro z hz
                obtain ⟨ps, rfl, _⟩ := pcs_of qx
                obtain ⟨p, q, hp, hq, rfl⟩ := zipD_of hz
                have := is_bend_ok (hb.tup_in _ (List.mem_map_of_mem hp)) (hb.tup_in _ (List.mem_map_of_mem hq)) st
                refine eq_of_wp ?_
                walk_at "e c30_is_piece c30_is_bend this"
                rfl
      · intro x hx
        have := is_piece_ok (h2 x hx) (hb.tup_in x hx) hm
        refine eq_of_wp ?_
        walk_at "e c30_is_piece c30_is_bend this"

end K07

namespace K07
open PySem Ev
theorem is_arch_ok {T : List Nat} {m : Nat} {st : Stt} {d : D} {a b : Fr} (hs : srB a b = true) (ba : Ib 200 (frD a)) (bb : Ib 200 (frD b)) (h : Okd T m st d) (hb : Ib 200 d) (hm : m ≤ 1000000) : F_is_arch [.tup [frD a, frD b], d] st = .ok (.bl (isArchD a b d)) st := by
  have f1 := need_stretch_ok (p := T) (m := 2) (st := st) (d := .tup [frD a, frD b]) (.tup (by simp) (by simp; exact ⟨okd_fr (by decide), okd_fr (by decide)⟩)) (.tup (by simp; exact ⟨ba, bb⟩)) (by decide) (by rw [isSrD_fr, hs])
  have f2 := is_arch_of_ok (a := a) (b := b) h hb hm
  refine eq_of_wp ?_
  unfold F_is_arch; refine evF_i rfl ?_
  walk_at "nx c31_need_stretch c31_is_arch_of f1"
  walk_at "nx c31_need_stretch c31_is_arch_of f2"

end K07

namespace K07
open PySem Ev
theorem law_at_ok {a b p q : Int} (h1 : mulB a q) (h2 : mulB b p) (st : Stt) : F_law_at [.tup [.int a, .int b], .tup [.int p, .int q]] st = .ok (.int (a * q + b * p)) st := by
  refine eq_of_wp ?_
  unfold F_law_at; refine evF_i rfl ?_
  walk_at "nx h1 h2"

end K07

namespace K07
open PySem Ev
theorem law_is_arch_ok {T : List Nat} {m : Nat} {st : Stt} {d : D} {a b : Fr} (h : Okd T m st d) (hb : Ib 200 d) (hm : m ≤ 1000000) : F_law_is_arch [.tup [frD a, frD b], d] st = .ok (.bl (isArchD a b d)) st := by
  have i1 := fun G => h.isi_tuple (G := G)
  refine eq_of_wp ?_
  unfold F_law_is_arch; refine evF_i rfl ?_
  cases q : isTpD d with
  | false =>
    walk_at "nx c33_law_is_piece c33_law_at i1 q"
    walk_at "nx c33_law_is_piece c33_law_at "
    cases d <;> first | (simp [isTpD] at q; done) | rfl
  | true =>
    obtain ⟨xs, rfl⟩ := isTpD_of q
    obtain ⟨h1, h2⟩ := h.tup_in
    by_cases e : xs.length = 0
    · walk_at "nx c33_law_is_piece c33_law_at i1 q e"
      walk_at "nx c33_law_is_piece c33_law_at "
      obtain rfl := List.eq_nil_of_length_eq_zero e
      rfl
    · walk_at "nx c33_law_is_piece c33_law_at i1 q e"
      rw [lc_mp (f := fun x => .bl (isPcD x))]
      · walk_at "e c33_law_is_piece c33_law_at "
        rw [if_pos (by omega)]
        walk_at "e c33_law_is_piece c33_law_at bools_map all_id"
        cases qx : xs.all isPcD with
        | false =>
          walk_at "e c33_law_is_piece c33_law_at "
          walk_at "nx c33_law_is_piece c33_law_at "
          rw [arch_no qx]
        | true =>
          walk_at "e c33_law_is_piece c33_law_at "
          obtain ⟨p, l, e1, e2, a0, a1⟩ := first_last qx e
          have hne : xs ≠ [] := by rintro rfl; exact e rfl
          rw [arch_yes qx e1 e2]
          cases c1 : (decide (p.1.1 = a.1) && decide (p.1.2 = a.2)) with
          | false =>
            walk_at "nx c33_law_is_piece c33_law_at a0 a1 pcD eq_fr c1"
            walk_at "nx c33_law_is_piece c33_law_at "
            simp
          | true =>
            cases c2 : (decide (l.2.1.1 = b.1) && decide (l.2.1.2 = b.2)) with
            | false =>
              walk_at "nx c33_law_is_piece c33_law_at a0 a1 pcD eq_fr c1 c2"
              walk_at "nx c33_law_is_piece c33_law_at "
              simp
            | true =>
              walk_at "nx c33_law_is_piece c33_law_at a0 a1 pcD eq_fr c1 c2"
              have hc := cut_1 hne
              have hz : List.zipWith (fun u w => D.tup [u, w]) xs (xs.drop 1) = zipD xs := rfl
              simp only [Bool.true_and]
              walk_at "nx c33_law_is_piece c33_law_at hc"
              refine for_I (xs := zipD xs) (fun i e s => s = st ∧ (∃ x y, e = [some (.tup [frD a, frD b]), some (.tup xs), x, y, none, none]) ∧ ∀ j z, j < i → (zipD xs)[j]? = some z → bendZ z = true) ⟨rfl, ⟨_, _, rfl⟩, by intro j z hj; omega⟩ ?_ ?_
              · rintro i z e s hz ⟨rfl, ⟨x, y, rfl⟩, hj⟩
                have hzm := List.mem_of_getElem? hz
                obtain ⟨ps, rfl, _⟩ := pcs_of qx
                obtain ⟨u, w, hp, hq, rfl⟩ := zipD_of hzm
                refine ⟨_, rfl, ?_⟩
                have bp := (hb.tup_in _ (List.mem_map_of_mem hp)).pc
                have bq := (hb.tup_in _ (List.mem_map_of_mem hq)).pc
                have m1 := law_at_ok (a := u.2.2.1) (b := u.2.2.2) (p := u.2.1.1) (q := u.2.1.2) (mul_ib bp.2.2.fr.1 bp.2.1.fr.2) (mul_ib bp.2.2.fr.2 bp.2.1.fr.1) s
                have m2 := law_at_ok (a := w.2.2.1) (b := w.2.2.2) (p := u.2.1.1) (q := u.2.1.2) (mul_ib bq.2.2.fr.1 bp.2.1.fr.2) (mul_ib bq.2.2.fr.2 bp.2.1.fr.1) s
                have no : bendB u w = false → (zipD (ps.map pcD)).all bendZ = false := fun h => by
                  rw [List.all_eq_false]
                  exact ⟨_, hzm, by simp [bendZ, unPc_pc, h]⟩
                have yes : bendB u w = true → ∀ j z, j < i + 1 → (zipD (ps.map pcD))[j]? = some z → bendZ z = true := fun h j z hj2 hz2 => by
                  by_cases e : j = i
                  · subst e
                    rw [hz] at hz2
                    cases hz2
                    exact h
                  · exact hj j z (by omega) hz2
                generalize (zipD (ps.map pcD)).all bendZ = Z at *
                generalize hX : ps.map pcD = X at *
                clear hj hzm hX hp hq bp bq
                obtain ⟨⟨p1, p2⟩, ⟨p3, p4⟩, ⟨p5, p6⟩⟩ := u
                obtain ⟨⟨q1, q2⟩, ⟨q3, q4⟩, ⟨q5, q6⟩⟩ := w
                simp only [pcD, frD] at m1 m2 ⊢
                have h0 := hK
                by_cases e1 : p3 = q1
                · by_cases e2 : p4 = q2
                  · by_cases e3 : q6 < p6
                    · have e3' : ¬ p6 ≤ q6 := by omega
                      by_cases e4 : p5 * p4 + p6 * p3 = q5 * p4 + q6 * p3
                      · have r := yes (by simp [bendB, e1, e2, e3]; subst e1 e2; exact e4)
                        walk_at "nx c33_law_is_piece c33_law_at e1 e2 e3 e3' Bool.false_and Bool.true_and Bool.and_false Bool.and_true decide_false decide_true"
                        subst e1 e2
                        walk_at "e c33_law_is_piece c33_law_at m1 m2 e4 Bool.false_and Bool.true_and Bool.and_false Bool.and_true decide_false decide_true"
                        exact ⟨rfl, ⟨_, _, rfl⟩, r⟩
                      · have r := no (by simp [bendB, e1, e2, e3]; subst e1 e2; exact e4)
                        walk_at "nx c33_law_is_piece c33_law_at e1 e2 e3 e3' Bool.false_and Bool.true_and Bool.and_false Bool.and_true decide_false decide_true"
                        subst e1 e2
                        walk_at "e c33_law_is_piece c33_law_at m1 m2 e4 Bool.false_and Bool.true_and Bool.and_false Bool.and_true decide_false decide_true"
                        walk_at "nx c33_law_is_piece c33_law_at r Bool.false_and Bool.true_and Bool.and_false Bool.and_true decide_false decide_true"
                    · have e3' : p6 ≤ q6 := by omega
                      have r := no (by simp [bendB, e3])
                      walk_at "nx c33_law_is_piece c33_law_at e1 e2 e3 e3' Bool.false_and Bool.true_and Bool.and_false Bool.and_true decide_false decide_true"
                      walk_at "nx c33_law_is_piece c33_law_at r Bool.false_and Bool.true_and Bool.and_false Bool.and_true decide_false decide_true"
                  · have r := no (by simp [bendB, e2])
                    walk_at "nx c33_law_is_piece c33_law_at e1 e2 Bool.false_and Bool.true_and Bool.and_false Bool.and_true decide_false decide_true"
                    walk_at "nx c33_law_is_piece c33_law_at r Bool.false_and Bool.true_and Bool.and_false Bool.and_true decide_false decide_true"
                · have r := no (by simp [bendB, e1])
                  walk_at "nx c33_law_is_piece c33_law_at e1 Bool.false_and Bool.true_and Bool.and_false Bool.and_true decide_false decide_true"
                  walk_at "nx c33_law_is_piece c33_law_at r Bool.false_and Bool.true_and Bool.and_false Bool.and_true decide_false decide_true"
              · rintro e s ⟨rfl, ⟨x, y, rfl⟩, hj⟩
                refine hK _ _ ?_
                walk_at "nx c33_law_is_piece c33_law_at "
                have : (zipD xs).all bendZ = true := by
                  rw [List.all_eq_true]
                  intro z hz
                  obtain ⟨j, hj1, rfl⟩ := List.mem_iff_getElem.mp hz
                  exact hj j _ hj1 (List.getElem?_eq_getElem hj1)
                rw [this]
      · intro x hx
        have := law_is_piece_ok (h2 x hx) (hb.tup_in x hx)
        refine eq_of_wp ?_
        walk_at "e c33_law_is_piece c33_law_at this"

end K07

namespace K07
open PySem Ev
theorem fr_trans {a b c : Fr} (h : srB a b = true) (k : srB b c = true) : srB a c = true := by
  have h := srB_iff.mp h
  have k := srB_iff.mp k
  refine srB_iff.mpr ⟨h.1, k.2.1, ?_⟩
  have b0 := h.2.1.1
  refine Int.lt_of_mul_lt_mul_right (a := b.2) ?_ (by omega)
  have h1 := Int.mul_lt_mul_of_pos_right h.2.2 k.2.1.1
  have h2 := Int.mul_lt_mul_of_pos_right k.2.2 h.1.1
  have e1 : a.1 * c.2 * b.2 = a.1 * b.2 * c.2 := Int.mul_right_comm _ _ _
  have e2 : b.1 * a.2 * c.2 = b.1 * c.2 * a.2 := Int.mul_right_comm _ _ _
  have e3 : c.1 * b.2 * a.2 = c.1 * a.2 * b.2 := Int.mul_right_comm _ _ _
  omega
theorem arch_sr : ∀ {ps : List Pc} {p q : Pc}, ps.head? = some p → ps.getLast? = some q → (∀ x ∈ ps, srB x.1 x.2.1 = true) → (zipD (ps.map pcD)).all bendZ = true → srB p.1 q.2.1 = true
  | [], _, _, h, _, _, _ => by cases h
  | [x], p, q, h, k, hs, _ => by
    cases h; cases k
    exact hs _ (by simp)
  | x :: y :: r, p, q, h, k, hs, hz => by
    cases h
    have e : zipD ((x :: y :: r).map pcD) = .tup [pcD x, pcD y] :: zipD ((y :: r).map pcD) := rfl
    rw [e, List.all_cons, Bool.and_eq_true] at hz
    have ih := arch_sr (ps := y :: r) (p := y) (q := q) rfl (by rw [List.getLast?_cons_cons] at k; exact k) (fun z hz => hs z (List.mem_cons_of_mem _ hz)) hz.2
    have hb : bendB x y = true := hz.1
    have hx := hs x (by simp)
    simp only [bendB, Bool.and_eq_true, decide_eq_true_eq] at hb
    have e2 : x.2.1 = y.1 := Prod.ext hb.1.1.1 hb.1.1.2
    rw [e2] at hx
    exact fr_trans hx ih
theorem longer_sr {a b : Fr} (h : srB a b = true) : srB a (lowP (b.1 + 1) b.2) = true := by
  have h := srB_iff.mp h
  have b0 := h.2.1.1
  obtain ⟨l1, l2, l3, _⟩ := lowP_facts (p := b.1 + 1) b0
  generalize lowP (b.1 + 1) b.2 = u at *
  refine srB_iff.mpr ⟨h.1, ⟨l1, l2⟩, ?_⟩
  refine Int.lt_of_mul_lt_mul_right (a := b.2) ?_ (by omega)
  have h1 := Int.mul_lt_mul_of_pos_right h.2.2 l1
  have e1 : a.1 * u.2 * b.2 = a.1 * b.2 * u.2 := Int.mul_right_comm _ _ _
  have e2 : u.1 * a.2 * b.2 = b.1 * a.2 * u.2 + u.2 * a.2 := by
    rw [Int.mul_right_comm, l3, Int.add_mul, Int.add_mul, Int.one_mul, Int.mul_right_comm]
  have e3 : 0 < u.2 * a.2 := Int.mul_pos l1 h.1.1
  omega
theorem law_asks {d : D} {T : List Nat} {s : Stt} {a b : Fr} {lt : Nat} {a1 a2 a3 a4 a6 a7 a8 a9 a10 a11 a12 : Option D} {zs : List D} {N : Ev.Env → Stt → Prop} (hl : stLst s lt = some zs) (hz : ∀ z ∈ zs, Thg T 3000 150 s z) (hs : srB a b = true) (ba : Ib 200 (frD a)) (bb : Ib 200 (frD b)) (k : ∀ a9 a10, N [some d, a1, a2, a3, a4, some (.tup [frD a, frD b]), a6, a7, a8, a9, a10, a11, a12] s) :
    Ws (forGo [(lt, zs)] (.nm 9) (fun e st => evSs G34 l_law_1x9 e st) zs [some d, a1, a2, a3, a4, some (.tup [frD a, frD b]), a6, a7, a8, a9, a10, a11, a12] s) N (fun d _ => d = .bl true) (fun _ _ _ _ => False) := by
  refine for_L (fun i e s' => (∃ a9 a10, e = [some d, a1, a2, a3, a4, some (.tup [frD a, frD b]), a6, a7, a8, a9, a10, a11, a12]) ∧ s' = s) ⟨⟨_, _, rfl⟩, rfl⟩ (by rintro i e s' ⟨_, rfl⟩; exact hl) ?_ ?_
  · rintro i z e s' hi ⟨⟨a9, a10, rfl⟩, rfl⟩
    have ho := hz z (List.mem_of_getElem? hi)
    have e1 := is_arch_ok hs ba bb ho.1 (ho.2.le (by decide)) (by decide)
    have e2 := law_is_arch_ok (a := a) (b := b) ho.1 (ho.2.le (by decide)) (by decide)
    refine ⟨_, rfl, ?_⟩
    walk_at "nx c34_law_pot_of c34_law_draw c34_law_arch c34_law_terms c34_law_stretch c34_law_spoilt c34_law_halved c34_law_odd c34_is_arch c34_law_is_arch e1"
    walk_at "nx c34_law_pot_of c34_law_draw c34_law_arch c34_law_terms c34_law_stretch c34_law_spoilt c34_law_halved c34_law_odd c34_is_arch c34_law_is_arch e2"
    exact ⟨⟨_, _, rfl⟩, rfl⟩
  · rintro e s' ⟨⟨a9, a10, rfl⟩, rfl⟩
    exact k _ _
theorem law_turn {d : D} {p c : Nat} {s : Stt} {t a3 a4 a5 a6 a7 a8 a9 a10 a11 a12 : Option D} (hc : c < 100000) (P : Pot s p c) :
    Ws (evSs G34 l_law_1 [some d, some (.loc p), t, a3, a4, a5, a6, a7, a8, a9, a10, a11, a12] s) (fun e s => ∃ t a3 a4 a5 a6 a7 a8 a9 a10 a11 a12, e = [some d, some (.loc p), t, a3, a4, a5, a6, a7, a8, a9, a10, a11, a12] ∧ Pot s p (c + 400)) (fun d _ => d = .bl true) (fun _ _ _ _ => False) := by
  walk_at "nx c34_law_pot_of c34_law_draw c34_law_arch c34_law_terms c34_law_stretch c34_law_spoilt c34_law_halved c34_law_odd c34_is_arch c34_law_is_arch "
  refine wp_law_draw P (by omega) (by decide) (by decide) fun kd s1 k0 k1 P1 _ => ?_
  walk_at "e c34_law_pot_of c34_law_draw c34_law_arch c34_law_terms c34_law_stretch c34_law_spoilt c34_law_halved c34_law_odd c34_is_arch c34_law_is_arch "
  walk_at "nx c34_law_pot_of c34_law_draw c34_law_arch c34_law_terms c34_law_stretch c34_law_spoilt c34_law_halved c34_law_odd c34_is_arch c34_law_is_arch "
  refine wp_law_arch P1 (by omega) fun ps s2 hne hlen hs hi hz P2 _ => ?_
  walk_at "e c34_law_pot_of c34_law_draw c34_law_arch c34_law_terms c34_law_stretch c34_law_spoilt c34_law_halved c34_law_odd c34_is_arch c34_law_is_arch "
  have hall : (ps.map pcD).all isPcD = true := by
    rw [List.all_eq_true]
    intro x hx
    obtain ⟨q, hq, rfl⟩ := List.mem_map.mp hx
    rw [isPcD_pc]
    exact hs q hq
  have hlm : (ps.map pcD).length = ps.length := List.length_map _
  have hl0 : 0 < ps.length := List.length_pos_iff.mpr hne
  obtain ⟨f, l, h1, h2, x0, x1⟩ := first_last hall (by omega)
  have hf : ps.head? = some f := by
    cases ps with
    | nil => cases h1
    | cons x r => simp only [List.map_cons, List.head?_cons, Option.some.injEq] at h1; rw [← unPc_pc (p := x), h1]; rfl
  have hla : ps.getLast? = some l := by
    rw [List.getLast?_map] at h2
    cases hh : ps.getLast? with
    | none => rw [hh] at h2; cases h2
    | some x => rw [hh] at h2; simp only [Option.map_some, Option.some.injEq] at h2; rw [← unPc_pc (p := x), h2]; rfl
  have sr := arch_sr hf hla hs hz
  have ia := (hi f (List.mem_of_head? hf)).pc.1
  have ib := (hi l (List.mem_of_getLast? hla)).pc.2.1
  have own : isArchD f.1 l.2.1 (.tup (ps.map pcD)) = true := by
    rw [arch_yes hall h1 h2, hz]
    simp
  have oarch : ∀ {U : List Nat} {s : Stt}, Thg U 9 140 s (.tup (ps.map pcD)) := .tup (by omega) fun x hx => by
    obtain ⟨q, hq, rfl⟩ := List.mem_map.mp hx
    have := (hi q hq).pc
    have g : ∀ a : Fr, Ib 64 (frD a) → ∀ {U : List Nat} {s : Stt}, Thg U 9 140 s (frD a) := fun a h U s => .fr (by decide) (Nat.lt_of_lt_of_le h.fr.1 (by decide)) (Nat.lt_of_lt_of_le h.fr.2 (by decide))
    exact .t3 (by decide) (g _ this.1) (g _ this.2.1) (g _ this.2.2)
  walk_at "nx c34_law_pot_of c34_law_draw c34_law_arch c34_law_terms c34_law_stretch c34_law_spoilt c34_law_halved c34_law_odd c34_is_arch c34_law_is_arch x0 x1 pcD"
  have b0 := (srB_iff.mp sr).2.1.1
  have e1 := law_terms_ok (a := l.2.1.1 + 1) (b := l.2.1.2) (st := s2) (by omega) (by have := ib.fr; omega)
  rw [lowF_eq] at e1
  have lo := longer_sr sr
  have ilo : Ib 200 (frD (lowP (l.2.1.1 + 1) l.2.1.2)) := by
    obtain ⟨_, _, _, l1, l2⟩ := lowP_facts (p := l.2.1.1 + 1) b0
    have := ib.fr
    exact .of_fr (by omega) (by omega)
  have ia : Ib 200 (frD f.1) := ia.le (by decide)
  have ib : Ib 200 (frD l.2.1) := ib.le (by decide)
  generalize lowP (l.2.1.1 + 1) l.2.1.2 = lg at *
  walk_at "nx c34_law_pot_of c34_law_draw c34_law_arch c34_law_terms c34_law_stretch c34_law_spoilt c34_law_halved c34_law_odd c34_is_arch c34_law_is_arch frD e1"
  rw [show D.tup [D.int f.1.1, D.int f.1.2] = frD f.1 from rfl, show D.tup [D.int l.2.1.1, D.int l.2.1.2] = frD l.2.1 from rfl, show D.tup [D.int lg.1, D.int lg.2] = frD lg from rfl]
  generalize f.1 = fa at *
  generalize l.2.1 = lb at *
  clear e1 x0 x1 h1 h2 hf hla P P1
  walk_at "nx c34_law_pot_of c34_law_draw c34_law_arch c34_law_terms c34_law_stretch c34_law_spoilt c34_law_halved c34_law_odd c34_is_arch c34_law_is_arch "
  refine wp_law_stretch P2 (by omega) fun oa ob s3 so ioa iob P3 _ => ?_
  walk_at "e c34_law_pot_of c34_law_draw c34_law_arch c34_law_terms c34_law_stretch c34_law_spoilt c34_law_halved c34_law_odd c34_is_arch c34_law_is_arch "
  refine mem_wp k0 (by exact k1) fun x hx => ?_
  have : ∃ a b : Fr, x = .tup [frD a, frD b] ∧ srB a b = true ∧ Ib 200 (frD a) ∧ Ib 200 (frD b) := by
    simp only [List.mem_cons, List.not_mem_nil, or_false] at hx
    rcases hx with rfl | rfl | rfl
    · exact ⟨_, _, rfl, sr, ia, ib⟩
    · exact ⟨_, _, rfl, lo, ia, ilo⟩
    · exact ⟨_, _, rfl, so, ioa.le (by decide), iob.le (by decide)⟩
  obtain ⟨qa, qb, rfl, sq, iqa, iqb⟩ := this
  clear hx so ioa iob
  walk_at "e c34_law_pot_of c34_law_draw c34_law_arch c34_law_terms c34_law_stretch c34_law_spoilt c34_law_halved c34_law_odd c34_is_arch c34_law_is_arch "
  walk_at "nx c34_law_pot_of c34_law_draw c34_law_arch c34_law_terms c34_law_stretch c34_law_spoilt c34_law_halved c34_law_odd c34_is_arch c34_law_is_arch "
  simp only [show rngOk 4 = true from rfl, if_true, wp_ok]
  refine lc_I (fun i acc s => i ≤ 4 ∧ acc.length = i ∧ (∀ x ∈ acc, Thg [p] 30 141 s x) ∧ Pot s p (c + 150 + 12 * i)) ⟨by decide, rfl, by simp, pot_mono P3 (by omega)⟩ (fun _ _ _ _ => rfl) ?_ ?_
  · rintro i w acc s hw ⟨hi4, hal, hao, P4⟩
    obtain ⟨hi2, rfl⟩ := rngI_at hw
    have hi2 : i < 4 := hi2
    walk_at "e c34_law_pot_of c34_law_draw c34_law_arch c34_law_terms c34_law_stretch c34_law_spoilt c34_law_halved c34_law_odd c34_is_arch c34_law_is_arch "
    refine wp_law_spoilt (T := [p]) (m := 9) (b := 140) P4 (by omega) (by simp) (by simp; exact pot_lt P4) oarch (by decide) (by decide) (by decide) (by decide) fun d1 s5 hd1 P5 K5 => ?_
    walk_at "e c34_law_pot_of c34_law_draw c34_law_arch c34_law_terms c34_law_stretch c34_law_spoilt c34_law_halved c34_law_odd c34_is_arch c34_law_is_arch "
    refine ⟨by omega, by simp [hal], ?_, pot_mono P5 (by omega)⟩
    intro x hx
    rcases List.mem_append.mp hx with hx | hx
    · exact (hao x hx).kp K5 (by simp)
    · simp only [Option.toList_some, List.mem_singleton] at hx; subst hx; exact hd1
  · rintro zs s4 ⟨_, hzl, hzo, P4⟩
    have hzl : zs.length = 4 := hzl
    have P4 : Pot s4 p (c + 200) := pot_mono P4 (by have : (rngI 0 (4 : Int).toNat).length = 4 := rfl; omega)
    clear P2 P3
    have hln : (rngI 0 (4 : Int).toNat).length ≤ 1000000 := by decide
    walk_at "e c34_law_pot_of c34_law_draw c34_law_arch c34_law_terms c34_law_stretch c34_law_spoilt c34_law_halved c34_law_odd c34_is_arch c34_law_is_arch "
    have hl : stLst (s4 ++ [Ob.lst zs]) s4.length = some zs := stLst_last
    have pl : p < s4.length := pot_lt P4
    have P5 : Pot (s4 ++ [Ob.lst zs]) p (c + 200) := pot_app P4
    have hzo : ∀ x ∈ zs, Thg [p, s4.length] 30 141 (s4 ++ [Ob.lst zs]) x := fun x hx => ((hzo x hx).more fun y hy => by
      simp only [List.mem_cons, List.not_mem_nil, or_false] at hy
      rcases hy with rfl | rfl
      · exact .inl (by simp)
      · exact .inr (Nat.le_refl _)).mono Kp.app
    have T5 : ∀ t ∈ [p, s4.length], t < (s4 ++ [Ob.lst zs]).length := fun t ht => by
      simp only [List.mem_cons, List.not_mem_nil, or_false] at ht
      rcases ht with rfl | rfl
      · simp; omega
      · simp
    generalize s4.length = lt at *
    generalize s4 ++ [Ob.lst zs] = s5 at *
    clear P4
    have ltp : lt ≠ p := by omega
    walk_at "nx c34_law_pot_of c34_law_draw c34_law_arch c34_law_terms c34_law_stretch c34_law_spoilt c34_law_halved c34_law_odd c34_is_arch c34_law_is_arch hl"
    refine wp_law_spoilt (T := [p, lt]) (m := 9) (b := 140) P5 (by omega) (by simp) T5 oarch (by decide) (by decide) (by decide) (by decide) fun d1 s6 hd1 P6 K6 => ?_
    walk_at "e c34_law_pot_of c34_law_draw c34_law_arch c34_law_terms c34_law_stretch c34_law_spoilt c34_law_halved c34_law_odd c34_is_arch c34_law_is_arch "
    refine wp_law_spoilt (T := [p, lt]) (m := 30) (b := 141) P6 (by omega) (by simp) (fun t ht => by have := T5 t ht; have := K6.1; omega) hd1 (by decide) (by decide) (by decide) (by decide) fun d2 s7 hd2 P7 K7 => ?_
    have K67 := K6.trans K7
    have hl := K67.lst ltp hl
    walk_at "e c34_law_pot_of c34_law_draw c34_law_arch c34_law_terms c34_law_stretch c34_law_spoilt c34_law_halved c34_law_odd c34_is_arch c34_law_is_arch hl"
    rw [if_pos (show zs.length ≤ 1000000 by omega)]
    have oB : ∀ y ∈ zs ++ [d2], Thg [p, lt] 93 142 (s7.set lt (.lst (zs ++ [d2]))) y := by
      intro y hy
      refine Thg.mono ?_ (Kp.set (by simp))
      rcases List.mem_append.mp hy with hy | hy
      · exact ((hzo y hy).kp K67 (by simp)).le (by decide) (by decide)
      · rw [List.mem_singleton] at hy; subst hy; exact hd2
    have nB : (zs ++ [d2]).length = 5 := by rw [List.length_append, hzl]; rfl
    have hl : stLst (s7.set lt (.lst (zs ++ [d2]))) lt = some (zs ++ [d2]) := stLst_same (stLst_lt hl)
    have P8 : Pot (s7.set lt (.lst (zs ++ [d2]))) p (c + 224) := pot_mono (pot_put P7 pl) (by omega)
    generalize zs ++ [d2] = B at *
    generalize s7.set lt (.lst B) = s8 at *
    clear hzo T5 P5 P6 P7 K6 K7 K67 hd1 hd2
    walk_at "e c34_law_pot_of c34_law_draw c34_law_arch c34_law_terms c34_law_stretch c34_law_spoilt c34_law_halved c34_law_odd c34_is_arch c34_law_is_arch "
    walk_at "nx c34_law_pot_of c34_law_draw c34_law_arch c34_law_terms c34_law_stretch c34_law_spoilt c34_law_halved c34_law_odd c34_is_arch c34_law_is_arch "
    refine wp_law_halved (T := [p, lt]) P8 (by omega) hne (by omega) hs hi fun d3 s9 hd3 P9 K9 => ?_
    have hl := K9.lst ltp hl
    walk_at "e c34_law_pot_of c34_law_draw c34_law_arch c34_law_terms c34_law_stretch c34_law_spoilt c34_law_halved c34_law_odd c34_is_arch c34_law_is_arch "
    rw [bin_locl hl]
    refine ⟨lenOk_of (by rw [nB]; simp), ?_⟩
    walk_at "e c34_law_pot_of c34_law_draw c34_law_arch c34_law_terms c34_law_stretch c34_law_spoilt c34_law_halved c34_law_odd c34_is_arch c34_law_is_arch "
    have oE : ∀ y ∈ B ++ [d3, D.tup (ps.map pcD), D.tup []], Thg [p, lt] 2500 145 s9 y := by
      intro y hy
      rcases List.mem_append.mp hy with hy | hy
      · exact ((oB y hy).kp K9 (by simp)).le (by decide) (by decide)
      · simp only [List.mem_cons, List.not_mem_nil, or_false] at hy
        rcases hy with rfl | rfl | rfl
        · exact hd3.le (by decide) (by decide)
        · exact oarch.le (by decide) (by decide)
        · exact .nil
    have nE : (B ++ [d3, D.tup (ps.map pcD), D.tup []]).length = 8 := by rw [List.length_append, nB]; rfl
    generalize B ++ [d3, D.tup (ps.map pcD), D.tup []] = Ee at *
    have hl : stLst (s9 ++ [Ob.lst Ee]) s9.length = some Ee := stLst_last
    have pl : p < s9.length := pot_lt P9
    have P10 : Pot (s9 ++ [Ob.lst Ee]) p (c + 224 + 1) := pot_app P9
    have oE : ∀ x ∈ Ee, Thg [p, s9.length] 2500 145 (s9 ++ [Ob.lst Ee]) x := fun x hx => ((oE x hx).more fun y hy => by
      simp only [List.mem_cons, List.not_mem_nil, or_false] at hy
      rcases hy with rfl | rfl
      · exact .inl (by simp)
      · exact .inr (Nat.le_refl _)).mono Kp.app
    have T5 : ∀ t ∈ [p, s9.length], t < (s9 ++ [Ob.lst Ee]).length := fun t ht => by
      simp only [List.mem_cons, List.not_mem_nil, or_false] at ht
      rcases ht with rfl | rfl
      · simp; omega
      · simp
    generalize s9.length = l2 at *
    generalize s9 ++ [Ob.lst Ee] = s10 at *
    clear P9 oB nB hd3 K9 P8
    have l2p : l2 ≠ p := by omega
    walk_at "nx c34_law_pot_of c34_law_draw c34_law_arch c34_law_terms c34_law_stretch c34_law_spoilt c34_law_halved c34_law_odd c34_is_arch c34_law_is_arch hl"
    refine wp_law_odd (T := [p, l2]) P10 (by omega) T5 (fun o s11 ho P11 K11 => ?_) (by simp)
    have hl := K11.lst l2p hl
    walk_at "e c34_law_pot_of c34_law_draw c34_law_arch c34_law_terms c34_law_stretch c34_law_spoilt c34_law_halved c34_law_odd c34_is_arch c34_law_is_arch hl"
    rw [if_pos (show Ee.length ≤ 1000000 by omega)]
    have oF : ∀ y ∈ Ee ++ [o], Thg [p, l2] 3000 150 (s11.set l2 (.lst (Ee ++ [o]))) y := by
      intro y hy
      refine Thg.mono ?_ (Kp.set (by simp))
      rcases List.mem_append.mp hy with hy | hy
      · exact ((oE y hy).kp K11 (by simp)).le (by decide) (by decide)
      · rw [List.mem_singleton] at hy; subst hy; exact ho.le (by decide) (by decide)
    have nF : (Ee ++ [o]).length = 9 := by rw [List.length_append, nE]; rfl
    have hl : stLst (s11.set l2 (.lst (Ee ++ [o]))) l2 = some (Ee ++ [o]) := stLst_same (stLst_lt hl)
    have P12 : Pot (s11.set l2 (.lst (Ee ++ [o]))) p (c + 400) := pot_mono (pot_put P11 pl) (by omega)
    generalize Ee ++ [o] = Ff at *
    generalize s11.set l2 (.lst Ff) = s12 at *
    clear oE nE P11 P10 K11 T5 ho
    walk_at "e c34_law_pot_of c34_law_draw c34_law_arch c34_law_terms c34_law_stretch c34_law_spoilt c34_law_halved c34_law_odd c34_is_arch c34_law_is_arch "
    walk_at "nx c34_law_pot_of c34_law_draw c34_law_arch c34_law_terms c34_law_stretch c34_law_spoilt c34_law_halved c34_law_odd c34_is_arch c34_law_is_arch hl"
    refine law_asks hl oF sr ia ib ?_
    intro b9 b10
    refine hK _ _ ?_
    have oa : Thg [p] 9 140 s12 (.tup (ps.map pcD)) := oarch
    have e1 := is_arch_ok sr ia ib oa.1 (oa.2.le (by decide)) (by decide)
    have e2 := is_arch_ok sq iqa iqb oa.1 (oa.2.le (by decide)) (by decide)
    have e3 := law_is_arch_ok (a := qa) (b := qb) oa.1 (oa.2.le (by decide)) (by decide)
    rw [own] at e1
    walk_at "nx c34_law_pot_of c34_law_draw c34_law_arch c34_law_terms c34_law_stretch c34_law_spoilt c34_law_halved c34_law_odd c34_is_arch c34_law_is_arch e1 e2 e3"
    exact ⟨_, _, _, _, _, _, _, _, _, _, _, rfl, P12⟩
theorem law_ok (d : D) (st : Stt) (ns : List Int) (h : lstOf st (.d d) = some (ns.map D.int)) (hl : ns.length ≤ 63) : ∃ st', F_law [d] st = .ok (.bl true) st' := by
  have main : Wp (F_law [d] st) (fun d s => d = .bl true) (fun _ _ _ => False) := by
    unfold F_law; refine evF_i rfl ?_
    walk_at "nx c34_law_pot_of c34_law_draw c34_law_arch c34_law_terms c34_law_stretch c34_law_spoilt c34_law_halved c34_law_odd c34_is_arch c34_law_is_arch "
    refine wp_law_pot_of h hl fun p s1 P => ?_
    walk_at "e c34_law_pot_of c34_law_draw c34_law_arch c34_law_terms c34_law_stretch c34_law_spoilt c34_law_halved c34_law_odd c34_is_arch c34_law_is_arch "
    walk_at "nx c34_law_pot_of c34_law_draw c34_law_arch c34_law_terms c34_law_stretch c34_law_spoilt c34_law_halved c34_law_odd c34_is_arch c34_law_is_arch "
    simp only [show rngOk 4 = true from rfl, if_true, wp_ok]
    refine for_R (fun k e s => k ≤ 4 ∧ ∃ t a3 a4 a5 a6 a7 a8 a9 a10 a11 a12, e = [some d, some (.loc p), t, a3, a4, a5, a6, a7, a8, a9, a10, a11, a12] ∧ Pot s p (400 * k)) ⟨by decide, _, _, _, _, _, _, _, _, _, _, _, rfl, P⟩ ?_ ?_
    · rintro i e s hi ⟨_, t, a3, a4, a5, a6, a7, a8, a9, a10, a11, a12, rfl, P⟩
      refine ⟨by simp, ?_⟩
      simp only [List.set_cons_succ, List.set_cons_zero]
      refine ws_mono (law_turn (c := 400 * i) (by have : i < 4 := hi; omega) P) ?_ (fun _ _ h => h) (fun _ _ _ _ h => h)
      rintro e s ⟨t, a3, a4, a5, a6, a7, a8, a9, a10, a11, a12, rfl, P⟩
      exact ⟨by have : i < 4 := hi; omega, _, _, _, _, _, _, _, _, _, _, _, rfl, pot_mono P (by omega)⟩
    · rintro e s ⟨_, t, a3, a4, a5, a6, a7, a8, a9, a10, a11, a12, rfl, P⟩
      refine hK _ _ ?_
      walk_at "nx c34_law_pot_of c34_law_draw c34_law_arch c34_law_terms c34_law_stretch c34_law_spoilt c34_law_halved c34_law_odd c34_is_arch c34_law_is_arch "
  obtain ⟨a, s, h1, rfl⟩ := ex_of_wp main
  exact ⟨s, h1⟩

end K07

namespace K07
open PySem PySem.Spec PyProof.Rows L2 Ev
def topS (i : Nat) : Stmt := PySem.Challenge.pw_tollmoves_k07_arches_known.main.body.getD i (.Pass ⟨0, 0, 0, 0⟩)
theorem e_law_pot_of : trD 60 (["_law_script"] : List Str) G0.cl (topS 19) = b_law_pot_of := by kernel_rfl!
theorem s_law_pot_of : FnScope (["_law_script"] : List Str) (["_law_script"] : List Str) (defScope (topS 19)) := scope_by (by decide +kernel)
theorem e_law_mixed : trD 60 (["_law_seed", "_law_turn", "_law_primes", "_law_one", "_law_two"] : List Str) G1.cl (topS 20) = b_law_mixed := by kernel_rfl!
theorem s_law_mixed : FnScope (["_law_seed", "_law_turn", "_law_primes", "_law_one", "_law_two"] : List Str) (["_law_seed", "_law_turn"] : List Str) (defScope (topS 20)) := scope_by (by decide +kernel)
theorem e_law_draw : trD 60 (["_law_pot", "_law_many", "_law_cell", "_law_digit"] : List Str) G2.cl (topS 21) = b_law_draw := by kernel_rfl!
theorem s_law_draw : FnScope (["_law_pot", "_law_many", "_law_cell", "_law_digit"] : List Str) (["_law_pot", "_law_many"] : List Str) (defScope (topS 21)) := scope_by (by decide +kernel)
theorem e_law_wide : trD 60 (["_law_pot", "_law_many", "_law_number", "_law_turn"] : List Str) G3.cl (topS 22) = b_law_wide := by kernel_rfl!
theorem s_law_wide : FnScope (["_law_pot", "_law_many", "_law_number", "_law_turn"] : List Str) (["_law_pot", "_law_many"] : List Str) (defScope (topS 22)) := scope_by (by decide +kernel)
theorem e_law_common : trD 60 (["_law_one", "_law_other"] : List Str) G4.cl (topS 23) = b_law_common := by kernel_rfl!
theorem s_law_common : FnScope (["_law_one", "_law_other"] : List Str) (["_law_one", "_law_other"] : List Str) (defScope (topS 23)) := scope_by (by decide +kernel)
theorem e_law_terms : trD 60 (["_law_top", "_law_bottom", "_law_by"] : List Str) G5.cl (topS 24) = b_law_terms := by kernel_rfl!
theorem s_law_terms : FnScope (["_law_top", "_law_bottom", "_law_by"] : List Str) (["_law_top", "_law_bottom"] : List Str) (defScope (topS 24)) := scope_by (by decide +kernel)
theorem e_law_arch : trD 60 (["_law_pot", "_law_most", "_law_bottom", "_law_far", "_law_base", "_law_rise", "_law_top", "_law_pieces", "_law_turn", "_law_end", "_law_fall"] : List Str) G6.cl (topS 36) = b_law_arch := by kernel_rfl!
theorem s_law_arch : FnScope (["_law_pot", "_law_most", "_law_bottom", "_law_far", "_law_base", "_law_rise", "_law_top", "_law_pieces", "_law_turn", "_law_end", "_law_fall"] : List Str) (["_law_pot", "_law_most"] : List Str) (defScope (topS 36)) := scope_by (by decide +kernel)
theorem e_law_size : trD 60 (["_law_pot"] : List Str) G7.cl (topS 25) = b_law_size := by kernel_rfl!
theorem s_law_size : FnScope (["_law_pot"] : List Str) (["_law_pot"] : List Str) (defScope (topS 25)) := scope_by (by decide +kernel)
theorem e_law_stretch : trD 60 (["_law_pot", "_law_far", "_law_bottom", "_law_top"] : List Str) G8.cl (topS 27) = b_law_stretch := by kernel_rfl!
theorem s_law_stretch : FnScope (["_law_pot", "_law_far", "_law_bottom", "_law_top"] : List Str) (["_law_pot"] : List Str) (defScope (topS 27)) := scope_by (by decide +kernel)
theorem e_law_plain : trD 60 (["_law_number"] : List Str) G9.cl (topS 31) = b_law_plain := by kernel_rfl!
theorem s_law_plain : FnScope (["_law_number"] : List Str) (["_law_number"] : List Str) (defScope (topS 31)) := scope_by (by decide +kernel)
theorem e_law_is_line : trD 60 (["_law_thing"] : List Str) G10.cl (topS 33) = b_law_is_line := by kernel_rfl!
theorem s_law_is_line : FnScope (["_law_thing"] : List Str) (["_law_thing"] : List Str) (defScope (topS 33)) := scope_by (by decide +kernel)
theorem e_law_is_fraction : trD 60 (["_law_thing"] : List Str) G11.cl (topS 32) = b_law_is_fraction := by kernel_rfl!
theorem s_law_is_fraction : FnScope (["_law_thing"] : List Str) (["_law_thing"] : List Str) (defScope (topS 32)) := scope_by (by decide +kernel)
theorem e_law_less : trD 60 (["_law_one", "_law_other"] : List Str) G12.cl (topS 29) = b_law_less := by kernel_rfl!
theorem s_law_less : FnScope (["_law_one", "_law_other"] : List Str) (["_law_one", "_law_other"] : List Str) (defScope (topS 29)) := scope_by (by decide +kernel)
theorem e_law_is_piece : trD 60 (["_law_thing"] : List Str) G13.cl (topS 34) = b_law_is_piece := by kernel_rfl!
theorem s_law_is_piece : FnScope (["_law_thing"] : List Str) (["_law_thing"] : List Str) (defScope (topS 34)) := scope_by (by decide +kernel)
theorem e_law_put : trD 60 (["_law_row", "_law_at_here", "_law_thing"] : List Str) G14.cl (topS 38) = b_law_put := by kernel_rfl!
theorem s_law_put : FnScope (["_law_row", "_law_at_here", "_law_thing"] : List Str) (["_law_row", "_law_at_here", "_law_thing"] : List Str) (defScope (topS 38)) := scope_by (by decide +kernel)
theorem e_law_odd : trD 60 (["_law_pot", "_law_some"] : List Str) G15.cl (topS 37) = b_law_odd := by kernel_rfl!
theorem s_law_odd : FnScope (["_law_pot", "_law_some"] : List Str) (["_law_pot"] : List Str) (defScope (topS 37)) := scope_by (by decide +kernel)
theorem e_law_other_piece : trD 60 (["_law_pot", "_law_piece", "_law_kind", "_law_near", "_law_low", "_law_high", "_law_line", "_law_odd_here", "_law_some", "_law_bent"] : List Str) G16.cl (topS 39) = b_law_other_piece := by kernel_rfl!
theorem s_law_other_piece : FnScope (["_law_pot", "_law_piece", "_law_kind", "_law_near", "_law_low", "_law_high", "_law_line", "_law_odd_here", "_law_some", "_law_bent"] : List Str) (["_law_pot", "_law_piece"] : List Str) (defScope (topS 39)) := scope_by (by decide +kernel)
theorem e_law_spoilt : trD 60 (["_law_pot", "_law_arch_here", "_law_kind", "_law_at_here", "_law_some", "_law_two", "_law_whole"] : List Str) G17.cl (topS 40) = b_law_spoilt := by kernel_rfl!
theorem s_law_spoilt : FnScope (["_law_pot", "_law_arch_here", "_law_kind", "_law_at_here", "_law_some", "_law_two", "_law_whole"] : List Str) (["_law_pot", "_law_arch_here"] : List Str) (defScope (topS 40)) := scope_by (by decide +kernel)
theorem e_law_amid : trD 60 (["_law_one", "_law_other"] : List Str) G18.cl (topS 30) = b_law_amid := by kernel_rfl!
theorem s_law_amid : FnScope (["_law_one", "_law_other"] : List Str) (["_law_one", "_law_other"] : List Str) (defScope (topS 30)) := scope_by (by decide +kernel)
theorem e_law_halved : trD 60 (["_law_pot", "_law_arch_here", "_law_at_here", "_law_low", "_law_high", "_law_line", "_law_amid_here", "_law_halves"] : List Str) G19.cl (topS 41) = b_law_halved := by kernel_rfl!
theorem s_law_halved : FnScope (["_law_pot", "_law_arch_here", "_law_at_here", "_law_low", "_law_high", "_law_line", "_law_amid_here", "_law_halves"] : List Str) (["_law_pot", "_law_arch_here"] : List Str) (defScope (topS 41)) := scope_by (by decide +kernel)
theorem e_is_whole : trD 60 (["thing"] : List Str) G20.cl (topS 4) = b_is_whole := by kernel_rfl!
theorem s_is_whole : FnScope (["thing"] : List Str) (["thing"] : List Str) (defScope (topS 4)) := scope_by (by decide +kernel)
theorem e_are_wholes : trD 60 (["thing", "many", ".0", "number"] : List Str) G21.cl (topS 5) = b_are_wholes := by kernel_rfl!
theorem s_are_wholes : FnScope (["thing", "many", ".0", "number"] : List Str) (["thing", "many"] : List Str) (defScope (topS 5)) := scope_by (by decide +kernel)
theorem e_divisor_of : trD 60 (["one", "other"] : List Str) G22.cl (topS 6) = b_divisor_of := by kernel_rfl!
theorem s_divisor_of : FnScope (["one", "other"] : List Str) (["one", "other"] : List Str) (defScope (topS 6)) := scope_by (by decide +kernel)
theorem e_is_fraction : trD 60 (["thing"] : List Str) G23.cl (topS 7) = b_is_fraction := by kernel_rfl!
theorem s_is_fraction : FnScope (["thing"] : List Str) (["thing"] : List Str) (defScope (topS 7)) := scope_by (by decide +kernel)
theorem e_is_before : trD 60 (["one", "other"] : List Str) G24.cl (topS 8) = b_is_before := by kernel_rfl!
theorem s_is_before : FnScope (["one", "other"] : List Str) (["one", "other"] : List Str) (defScope (topS 8)) := scope_by (by decide +kernel)
theorem e_is_stretch : trD 60 (["thing", ".0", "end"] : List Str) G25.cl (topS 12) = b_is_stretch := by kernel_rfl!
theorem s_is_stretch : FnScope (["thing", ".0", "end"] : List Str) (["thing"] : List Str) (defScope (topS 12)) := scope_by (by decide +kernel)
theorem e_need_stretch : trD 60 (["thing"] : List Str) G26.cl (topS 13) = b_need_stretch := by kernel_rfl!
theorem s_need_stretch : FnScope (["thing"] : List Str) (["thing"] : List Str) (defScope (topS 13)) := scope_by (by decide +kernel)
theorem e_is_piece : trD 60 (["thing"] : List Str) G27.cl (topS 14) = b_is_piece := by kernel_rfl!
theorem s_is_piece : FnScope (["thing"] : List Str) (["thing"] : List Str) (defScope (topS 14)) := scope_by (by decide +kernel)
theorem e_weight : trD 60 (["line", "price"] : List Str) G28.cl (topS 10) = b_weight := by kernel_rfl!
theorem s_weight : FnScope (["line", "price"] : List Str) (["line", "price"] : List Str) (defScope (topS 10)) := scope_by (by decide +kernel)
theorem e_is_bend : trD 60 (["one", "other"] : List Str) G29.cl (topS 15) = b_is_bend := by kernel_rfl!
theorem s_is_bend : FnScope (["one", "other"] : List Str) (["one", "other"] : List Str) (defScope (topS 15)) := scope_by (by decide +kernel)
theorem e_is_arch_of : trD 60 (["stretch", "thing", ".0", "piece", "one", "other"] : List Str) G30.cl (topS 16) = b_is_arch_of := by kernel_rfl!
theorem s_is_arch_of : FnScope (["stretch", "thing", ".0", "piece", "one", "other"] : List Str) (["stretch", "thing"] : List Str) (defScope (topS 16)) := scope_by (by decide +kernel)
theorem e_is_arch : trD 60 (["stretch", "thing"] : List Str) G31.cl (topS 17) = b_is_arch := by kernel_rfl!
theorem s_is_arch : FnScope (["stretch", "thing"] : List Str) (["stretch", "thing"] : List Str) (defScope (topS 17)) := scope_by (by decide +kernel)
theorem e_law_at : trD 60 (["_law_line", "_law_price_here"] : List Str) G32.cl (topS 28) = b_law_at := by kernel_rfl!
theorem s_law_at : FnScope (["_law_line", "_law_price_here"] : List Str) (["_law_line", "_law_price_here"] : List Str) (defScope (topS 28)) := scope_by (by decide +kernel)
theorem e_law_is_arch : trD 60 (["_law_stretch_here", "_law_thing", "_law_one", "_law_other", ".0", "_law_piece"] : List Str) G33.cl (topS 35) = b_law_is_arch := by kernel_rfl!
theorem s_law_is_arch : FnScope (["_law_stretch_here", "_law_thing", "_law_one", "_law_other", ".0", "_law_piece"] : List Str) (["_law_stretch_here", "_law_thing"] : List Str) (defScope (topS 35)) := scope_by (by decide +kernel)
theorem e_law : trD 60 (["_law_script", "_law_pot", "_law_turn", "_law_kind", "_law_arch_here", "_law_stretch_here", "_law_longer", "_law_other", "_law_spoilt_here", "_law_thing", "_law_found", ".0", "_law_k"] : List Str) G34.cl (topS 42) = b_law := by kernel_rfl!
theorem s_law : FnScope (["_law_script", "_law_pot", "_law_turn", "_law_kind", "_law_arch_here", "_law_stretch_here", "_law_longer", "_law_other", "_law_spoilt_here", "_law_thing", "_law_found", ".0", "_law_k"] : List Str) (["_law_script"] : List Str) (defScope (topS 42)) := scope_by (by decide +kernel)
theorem all_mk {P : Program} {w : World} {K : PySem.W.Frag} {h : Heap} {mg : Str → Option Value} {fa : Addr} (X : K.In h) (G : h.Ns mainGlobals mg) (hfa : mg "law" = some (.ref fa))
    {f0 : Addr} {od0 an0 : Option Addr} {sl0 : Array (Option Value)} {oc0 kV0 dc0 pm0 cd0 ct0 : Value} (a0 : PySem.W.nsIn K mainGlobals "_law_pot_of" = some (some (.ref f0))) (l0 : K.lookup f0 = some ⟨oc0, od0, .func (PySem.W.fnOf "_law_pot_of" "_law_pot_of" (defArgs (topS 19)) (defBody (topS 19)) (defScope (topS 19)) .none kV0 dc0 pm0 an0 cd0 ct0), sl0⟩) (c0 : PySem.W.codeIn K cd0 "_law_pot_of" = true) (k0 : PySem.W.keepIn K (.ref f0) = true)
    {f1 : Addr} {od1 an1 : Option Addr} {sl1 : Array (Option Value)} {oc1 kV1 dc1 pm1 cd1 ct1 : Value} (a1 : PySem.W.nsIn K mainGlobals "_law_mixed" = some (some (.ref f1))) (l1 : K.lookup f1 = some ⟨oc1, od1, .func (PySem.W.fnOf "_law_mixed" "_law_mixed" (defArgs (topS 20)) (defBody (topS 20)) (defScope (topS 20)) .none kV1 dc1 pm1 an1 cd1 ct1), sl1⟩) (c1 : PySem.W.codeIn K cd1 "_law_mixed" = true) (k1 : PySem.W.keepIn K (.ref f1) = true)
    {f2 : Addr} {od2 an2 : Option Addr} {sl2 : Array (Option Value)} {oc2 kV2 dc2 pm2 cd2 ct2 : Value} (a2 : PySem.W.nsIn K mainGlobals "_law_draw" = some (some (.ref f2))) (l2 : K.lookup f2 = some ⟨oc2, od2, .func (PySem.W.fnOf "_law_draw" "_law_draw" (defArgs (topS 21)) (defBody (topS 21)) (defScope (topS 21)) .none kV2 dc2 pm2 an2 cd2 ct2), sl2⟩) (c2 : PySem.W.codeIn K cd2 "_law_draw" = true) (k2 : PySem.W.keepIn K (.ref f2) = true)
    {f3 : Addr} {od3 an3 : Option Addr} {sl3 : Array (Option Value)} {oc3 kV3 dc3 pm3 cd3 ct3 : Value} (a3 : PySem.W.nsIn K mainGlobals "_law_wide" = some (some (.ref f3))) (l3 : K.lookup f3 = some ⟨oc3, od3, .func (PySem.W.fnOf "_law_wide" "_law_wide" (defArgs (topS 22)) (defBody (topS 22)) (defScope (topS 22)) .none kV3 dc3 pm3 an3 cd3 ct3), sl3⟩) (c3 : PySem.W.codeIn K cd3 "_law_wide" = true) (k3 : PySem.W.keepIn K (.ref f3) = true)
    {f4 : Addr} {od4 an4 : Option Addr} {sl4 : Array (Option Value)} {oc4 kV4 dc4 pm4 cd4 ct4 : Value} (a4 : PySem.W.nsIn K mainGlobals "_law_common" = some (some (.ref f4))) (l4 : K.lookup f4 = some ⟨oc4, od4, .func (PySem.W.fnOf "_law_common" "_law_common" (defArgs (topS 23)) (defBody (topS 23)) (defScope (topS 23)) .none kV4 dc4 pm4 an4 cd4 ct4), sl4⟩) (c4 : PySem.W.codeIn K cd4 "_law_common" = true) (k4 : PySem.W.keepIn K (.ref f4) = true)
    {f5 : Addr} {od5 an5 : Option Addr} {sl5 : Array (Option Value)} {oc5 kV5 dc5 pm5 cd5 ct5 : Value} (a5 : PySem.W.nsIn K mainGlobals "_law_terms" = some (some (.ref f5))) (l5 : K.lookup f5 = some ⟨oc5, od5, .func (PySem.W.fnOf "_law_terms" "_law_terms" (defArgs (topS 24)) (defBody (topS 24)) (defScope (topS 24)) .none kV5 dc5 pm5 an5 cd5 ct5), sl5⟩) (c5 : PySem.W.codeIn K cd5 "_law_terms" = true) (k5 : PySem.W.keepIn K (.ref f5) = true)
    {f6 : Addr} {od6 an6 : Option Addr} {sl6 : Array (Option Value)} {oc6 kV6 dc6 pm6 cd6 ct6 : Value} (a6 : PySem.W.nsIn K mainGlobals "_law_arch" = some (some (.ref f6))) (l6 : K.lookup f6 = some ⟨oc6, od6, .func (PySem.W.fnOf "_law_arch" "_law_arch" (defArgs (topS 36)) (defBody (topS 36)) (defScope (topS 36)) .none kV6 dc6 pm6 an6 cd6 ct6), sl6⟩) (c6 : PySem.W.codeIn K cd6 "_law_arch" = true) (k6 : PySem.W.keepIn K (.ref f6) = true)
    {f7 : Addr} {od7 an7 : Option Addr} {sl7 : Array (Option Value)} {oc7 kV7 dc7 pm7 cd7 ct7 : Value} (a7 : PySem.W.nsIn K mainGlobals "_law_size" = some (some (.ref f7))) (l7 : K.lookup f7 = some ⟨oc7, od7, .func (PySem.W.fnOf "_law_size" "_law_size" (defArgs (topS 25)) (defBody (topS 25)) (defScope (topS 25)) .none kV7 dc7 pm7 an7 cd7 ct7), sl7⟩) (c7 : PySem.W.codeIn K cd7 "_law_size" = true) (k7 : PySem.W.keepIn K (.ref f7) = true)
    {f8 : Addr} {od8 an8 : Option Addr} {sl8 : Array (Option Value)} {oc8 kV8 dc8 pm8 cd8 ct8 : Value} (a8 : PySem.W.nsIn K mainGlobals "_law_stretch" = some (some (.ref f8))) (l8 : K.lookup f8 = some ⟨oc8, od8, .func (PySem.W.fnOf "_law_stretch" "_law_stretch" (defArgs (topS 27)) (defBody (topS 27)) (defScope (topS 27)) .none kV8 dc8 pm8 an8 cd8 ct8), sl8⟩) (c8 : PySem.W.codeIn K cd8 "_law_stretch" = true) (k8 : PySem.W.keepIn K (.ref f8) = true)
    {f9 : Addr} {od9 an9 : Option Addr} {sl9 : Array (Option Value)} {oc9 kV9 dc9 pm9 cd9 ct9 : Value} (a9 : PySem.W.nsIn K mainGlobals "_law_plain" = some (some (.ref f9))) (l9 : K.lookup f9 = some ⟨oc9, od9, .func (PySem.W.fnOf "_law_plain" "_law_plain" (defArgs (topS 31)) (defBody (topS 31)) (defScope (topS 31)) .none kV9 dc9 pm9 an9 cd9 ct9), sl9⟩) (c9 : PySem.W.codeIn K cd9 "_law_plain" = true) (k9 : PySem.W.keepIn K (.ref f9) = true)
    {f10 : Addr} {od10 an10 : Option Addr} {sl10 : Array (Option Value)} {oc10 kV10 dc10 pm10 cd10 ct10 : Value} (a10 : PySem.W.nsIn K mainGlobals "_law_is_line" = some (some (.ref f10))) (l10 : K.lookup f10 = some ⟨oc10, od10, .func (PySem.W.fnOf "_law_is_line" "_law_is_line" (defArgs (topS 33)) (defBody (topS 33)) (defScope (topS 33)) .none kV10 dc10 pm10 an10 cd10 ct10), sl10⟩) (c10 : PySem.W.codeIn K cd10 "_law_is_line" = true) (k10 : PySem.W.keepIn K (.ref f10) = true)
    {f11 : Addr} {od11 an11 : Option Addr} {sl11 : Array (Option Value)} {oc11 kV11 dc11 pm11 cd11 ct11 : Value} (a11 : PySem.W.nsIn K mainGlobals "_law_is_fraction" = some (some (.ref f11))) (l11 : K.lookup f11 = some ⟨oc11, od11, .func (PySem.W.fnOf "_law_is_fraction" "_law_is_fraction" (defArgs (topS 32)) (defBody (topS 32)) (defScope (topS 32)) .none kV11 dc11 pm11 an11 cd11 ct11), sl11⟩) (c11 : PySem.W.codeIn K cd11 "_law_is_fraction" = true) (k11 : PySem.W.keepIn K (.ref f11) = true)
    {f12 : Addr} {od12 an12 : Option Addr} {sl12 : Array (Option Value)} {oc12 kV12 dc12 pm12 cd12 ct12 : Value} (a12 : PySem.W.nsIn K mainGlobals "_law_less" = some (some (.ref f12))) (l12 : K.lookup f12 = some ⟨oc12, od12, .func (PySem.W.fnOf "_law_less" "_law_less" (defArgs (topS 29)) (defBody (topS 29)) (defScope (topS 29)) .none kV12 dc12 pm12 an12 cd12 ct12), sl12⟩) (c12 : PySem.W.codeIn K cd12 "_law_less" = true) (k12 : PySem.W.keepIn K (.ref f12) = true)
    {f13 : Addr} {od13 an13 : Option Addr} {sl13 : Array (Option Value)} {oc13 kV13 dc13 pm13 cd13 ct13 : Value} (a13 : PySem.W.nsIn K mainGlobals "_law_is_piece" = some (some (.ref f13))) (l13 : K.lookup f13 = some ⟨oc13, od13, .func (PySem.W.fnOf "_law_is_piece" "_law_is_piece" (defArgs (topS 34)) (defBody (topS 34)) (defScope (topS 34)) .none kV13 dc13 pm13 an13 cd13 ct13), sl13⟩) (c13 : PySem.W.codeIn K cd13 "_law_is_piece" = true) (k13 : PySem.W.keepIn K (.ref f13) = true)
    {f14 : Addr} {od14 an14 : Option Addr} {sl14 : Array (Option Value)} {oc14 kV14 dc14 pm14 cd14 ct14 : Value} (a14 : PySem.W.nsIn K mainGlobals "_law_put" = some (some (.ref f14))) (l14 : K.lookup f14 = some ⟨oc14, od14, .func (PySem.W.fnOf "_law_put" "_law_put" (defArgs (topS 38)) (defBody (topS 38)) (defScope (topS 38)) .none kV14 dc14 pm14 an14 cd14 ct14), sl14⟩) (c14 : PySem.W.codeIn K cd14 "_law_put" = true) (k14 : PySem.W.keepIn K (.ref f14) = true)
    {f15 : Addr} {od15 an15 : Option Addr} {sl15 : Array (Option Value)} {oc15 kV15 dc15 pm15 cd15 ct15 : Value} (a15 : PySem.W.nsIn K mainGlobals "_law_odd" = some (some (.ref f15))) (l15 : K.lookup f15 = some ⟨oc15, od15, .func (PySem.W.fnOf "_law_odd" "_law_odd" (defArgs (topS 37)) (defBody (topS 37)) (defScope (topS 37)) .none kV15 dc15 pm15 an15 cd15 ct15), sl15⟩) (c15 : PySem.W.codeIn K cd15 "_law_odd" = true) (k15 : PySem.W.keepIn K (.ref f15) = true)
    {f16 : Addr} {od16 an16 : Option Addr} {sl16 : Array (Option Value)} {oc16 kV16 dc16 pm16 cd16 ct16 : Value} (a16 : PySem.W.nsIn K mainGlobals "_law_other_piece" = some (some (.ref f16))) (l16 : K.lookup f16 = some ⟨oc16, od16, .func (PySem.W.fnOf "_law_other_piece" "_law_other_piece" (defArgs (topS 39)) (defBody (topS 39)) (defScope (topS 39)) .none kV16 dc16 pm16 an16 cd16 ct16), sl16⟩) (c16 : PySem.W.codeIn K cd16 "_law_other_piece" = true) (k16 : PySem.W.keepIn K (.ref f16) = true)
    {f17 : Addr} {od17 an17 : Option Addr} {sl17 : Array (Option Value)} {oc17 kV17 dc17 pm17 cd17 ct17 : Value} (a17 : PySem.W.nsIn K mainGlobals "_law_spoilt" = some (some (.ref f17))) (l17 : K.lookup f17 = some ⟨oc17, od17, .func (PySem.W.fnOf "_law_spoilt" "_law_spoilt" (defArgs (topS 40)) (defBody (topS 40)) (defScope (topS 40)) .none kV17 dc17 pm17 an17 cd17 ct17), sl17⟩) (c17 : PySem.W.codeIn K cd17 "_law_spoilt" = true) (k17 : PySem.W.keepIn K (.ref f17) = true)
    {f18 : Addr} {od18 an18 : Option Addr} {sl18 : Array (Option Value)} {oc18 kV18 dc18 pm18 cd18 ct18 : Value} (a18 : PySem.W.nsIn K mainGlobals "_law_amid" = some (some (.ref f18))) (l18 : K.lookup f18 = some ⟨oc18, od18, .func (PySem.W.fnOf "_law_amid" "_law_amid" (defArgs (topS 30)) (defBody (topS 30)) (defScope (topS 30)) .none kV18 dc18 pm18 an18 cd18 ct18), sl18⟩) (c18 : PySem.W.codeIn K cd18 "_law_amid" = true) (k18 : PySem.W.keepIn K (.ref f18) = true)
    {f19 : Addr} {od19 an19 : Option Addr} {sl19 : Array (Option Value)} {oc19 kV19 dc19 pm19 cd19 ct19 : Value} (a19 : PySem.W.nsIn K mainGlobals "_law_halved" = some (some (.ref f19))) (l19 : K.lookup f19 = some ⟨oc19, od19, .func (PySem.W.fnOf "_law_halved" "_law_halved" (defArgs (topS 41)) (defBody (topS 41)) (defScope (topS 41)) .none kV19 dc19 pm19 an19 cd19 ct19), sl19⟩) (c19 : PySem.W.codeIn K cd19 "_law_halved" = true) (k19 : PySem.W.keepIn K (.ref f19) = true)
    {f20 : Addr} {od20 an20 : Option Addr} {sl20 : Array (Option Value)} {oc20 kV20 dc20 pm20 cd20 ct20 : Value} (a20 : PySem.W.nsIn K mainGlobals "is_whole" = some (some (.ref f20))) (l20 : K.lookup f20 = some ⟨oc20, od20, .func (PySem.W.fnOf "is_whole" "is_whole" (defArgs (topS 4)) (defBody (topS 4)) (defScope (topS 4)) .none kV20 dc20 pm20 an20 cd20 ct20), sl20⟩) (c20 : PySem.W.codeIn K cd20 "is_whole" = true) (k20 : PySem.W.keepIn K (.ref f20) = true)
    {f21 : Addr} {od21 an21 : Option Addr} {sl21 : Array (Option Value)} {oc21 kV21 dc21 pm21 cd21 ct21 : Value} (a21 : PySem.W.nsIn K mainGlobals "are_wholes" = some (some (.ref f21))) (l21 : K.lookup f21 = some ⟨oc21, od21, .func (PySem.W.fnOf "are_wholes" "are_wholes" (defArgs (topS 5)) (defBody (topS 5)) (defScope (topS 5)) .none kV21 dc21 pm21 an21 cd21 ct21), sl21⟩) (c21 : PySem.W.codeIn K cd21 "are_wholes" = true) (k21 : PySem.W.keepIn K (.ref f21) = true)
    {f22 : Addr} {od22 an22 : Option Addr} {sl22 : Array (Option Value)} {oc22 kV22 dc22 pm22 cd22 ct22 : Value} (a22 : PySem.W.nsIn K mainGlobals "divisor_of" = some (some (.ref f22))) (l22 : K.lookup f22 = some ⟨oc22, od22, .func (PySem.W.fnOf "divisor_of" "divisor_of" (defArgs (topS 6)) (defBody (topS 6)) (defScope (topS 6)) .none kV22 dc22 pm22 an22 cd22 ct22), sl22⟩) (c22 : PySem.W.codeIn K cd22 "divisor_of" = true) (k22 : PySem.W.keepIn K (.ref f22) = true)
    {f23 : Addr} {od23 an23 : Option Addr} {sl23 : Array (Option Value)} {oc23 kV23 dc23 pm23 cd23 ct23 : Value} (a23 : PySem.W.nsIn K mainGlobals "is_fraction" = some (some (.ref f23))) (l23 : K.lookup f23 = some ⟨oc23, od23, .func (PySem.W.fnOf "is_fraction" "is_fraction" (defArgs (topS 7)) (defBody (topS 7)) (defScope (topS 7)) .none kV23 dc23 pm23 an23 cd23 ct23), sl23⟩) (c23 : PySem.W.codeIn K cd23 "is_fraction" = true) (k23 : PySem.W.keepIn K (.ref f23) = true)
    {f24 : Addr} {od24 an24 : Option Addr} {sl24 : Array (Option Value)} {oc24 kV24 dc24 pm24 cd24 ct24 : Value} (a24 : PySem.W.nsIn K mainGlobals "is_before" = some (some (.ref f24))) (l24 : K.lookup f24 = some ⟨oc24, od24, .func (PySem.W.fnOf "is_before" "is_before" (defArgs (topS 8)) (defBody (topS 8)) (defScope (topS 8)) .none kV24 dc24 pm24 an24 cd24 ct24), sl24⟩) (c24 : PySem.W.codeIn K cd24 "is_before" = true) (k24 : PySem.W.keepIn K (.ref f24) = true)
    {f25 : Addr} {od25 an25 : Option Addr} {sl25 : Array (Option Value)} {oc25 kV25 dc25 pm25 cd25 ct25 : Value} (a25 : PySem.W.nsIn K mainGlobals "is_stretch" = some (some (.ref f25))) (l25 : K.lookup f25 = some ⟨oc25, od25, .func (PySem.W.fnOf "is_stretch" "is_stretch" (defArgs (topS 12)) (defBody (topS 12)) (defScope (topS 12)) .none kV25 dc25 pm25 an25 cd25 ct25), sl25⟩) (c25 : PySem.W.codeIn K cd25 "is_stretch" = true) (k25 : PySem.W.keepIn K (.ref f25) = true)
    {f26 : Addr} {od26 an26 : Option Addr} {sl26 : Array (Option Value)} {oc26 kV26 dc26 pm26 cd26 ct26 : Value} (a26 : PySem.W.nsIn K mainGlobals "need_stretch" = some (some (.ref f26))) (l26 : K.lookup f26 = some ⟨oc26, od26, .func (PySem.W.fnOf "need_stretch" "need_stretch" (defArgs (topS 13)) (defBody (topS 13)) (defScope (topS 13)) .none kV26 dc26 pm26 an26 cd26 ct26), sl26⟩) (c26 : PySem.W.codeIn K cd26 "need_stretch" = true) (k26 : PySem.W.keepIn K (.ref f26) = true)
    {f27 : Addr} {od27 an27 : Option Addr} {sl27 : Array (Option Value)} {oc27 kV27 dc27 pm27 cd27 ct27 : Value} (a27 : PySem.W.nsIn K mainGlobals "is_piece" = some (some (.ref f27))) (l27 : K.lookup f27 = some ⟨oc27, od27, .func (PySem.W.fnOf "is_piece" "is_piece" (defArgs (topS 14)) (defBody (topS 14)) (defScope (topS 14)) .none kV27 dc27 pm27 an27 cd27 ct27), sl27⟩) (c27 : PySem.W.codeIn K cd27 "is_piece" = true) (k27 : PySem.W.keepIn K (.ref f27) = true)
    {f28 : Addr} {od28 an28 : Option Addr} {sl28 : Array (Option Value)} {oc28 kV28 dc28 pm28 cd28 ct28 : Value} (a28 : PySem.W.nsIn K mainGlobals "weight" = some (some (.ref f28))) (l28 : K.lookup f28 = some ⟨oc28, od28, .func (PySem.W.fnOf "weight" "weight" (defArgs (topS 10)) (defBody (topS 10)) (defScope (topS 10)) .none kV28 dc28 pm28 an28 cd28 ct28), sl28⟩) (c28 : PySem.W.codeIn K cd28 "weight" = true) (k28 : PySem.W.keepIn K (.ref f28) = true)
    {f29 : Addr} {od29 an29 : Option Addr} {sl29 : Array (Option Value)} {oc29 kV29 dc29 pm29 cd29 ct29 : Value} (a29 : PySem.W.nsIn K mainGlobals "is_bend" = some (some (.ref f29))) (l29 : K.lookup f29 = some ⟨oc29, od29, .func (PySem.W.fnOf "is_bend" "is_bend" (defArgs (topS 15)) (defBody (topS 15)) (defScope (topS 15)) .none kV29 dc29 pm29 an29 cd29 ct29), sl29⟩) (c29 : PySem.W.codeIn K cd29 "is_bend" = true) (k29 : PySem.W.keepIn K (.ref f29) = true)
    {f30 : Addr} {od30 an30 : Option Addr} {sl30 : Array (Option Value)} {oc30 kV30 dc30 pm30 cd30 ct30 : Value} (a30 : PySem.W.nsIn K mainGlobals "is_arch_of" = some (some (.ref f30))) (l30 : K.lookup f30 = some ⟨oc30, od30, .func (PySem.W.fnOf "is_arch_of" "is_arch_of" (defArgs (topS 16)) (defBody (topS 16)) (defScope (topS 16)) .none kV30 dc30 pm30 an30 cd30 ct30), sl30⟩) (c30 : PySem.W.codeIn K cd30 "is_arch_of" = true) (k30 : PySem.W.keepIn K (.ref f30) = true)
    {f31 : Addr} {od31 an31 : Option Addr} {sl31 : Array (Option Value)} {oc31 kV31 dc31 pm31 cd31 ct31 : Value} (a31 : PySem.W.nsIn K mainGlobals "is_arch" = some (some (.ref f31))) (l31 : K.lookup f31 = some ⟨oc31, od31, .func (PySem.W.fnOf "is_arch" "is_arch" (defArgs (topS 17)) (defBody (topS 17)) (defScope (topS 17)) .none kV31 dc31 pm31 an31 cd31 ct31), sl31⟩) (c31 : PySem.W.codeIn K cd31 "is_arch" = true) (k31 : PySem.W.keepIn K (.ref f31) = true)
    {f32 : Addr} {od32 an32 : Option Addr} {sl32 : Array (Option Value)} {oc32 kV32 dc32 pm32 cd32 ct32 : Value} (a32 : PySem.W.nsIn K mainGlobals "_law_at" = some (some (.ref f32))) (l32 : K.lookup f32 = some ⟨oc32, od32, .func (PySem.W.fnOf "_law_at" "_law_at" (defArgs (topS 28)) (defBody (topS 28)) (defScope (topS 28)) .none kV32 dc32 pm32 an32 cd32 ct32), sl32⟩) (c32 : PySem.W.codeIn K cd32 "_law_at" = true) (k32 : PySem.W.keepIn K (.ref f32) = true)
    {f33 : Addr} {od33 an33 : Option Addr} {sl33 : Array (Option Value)} {oc33 kV33 dc33 pm33 cd33 ct33 : Value} (a33 : PySem.W.nsIn K mainGlobals "_law_is_arch" = some (some (.ref f33))) (l33 : K.lookup f33 = some ⟨oc33, od33, .func (PySem.W.fnOf "_law_is_arch" "_law_is_arch" (defArgs (topS 35)) (defBody (topS 35)) (defScope (topS 35)) .none kV33 dc33 pm33 an33 cd33 ct33), sl33⟩) (c33 : PySem.W.codeIn K cd33 "_law_is_arch" = true) (k33 : PySem.W.keepIn K (.ref f33) = true)
    {f34 : Addr} {od34 an34 : Option Addr} {sl34 : Array (Option Value)} {oc34 kV34 dc34 pm34 cd34 ct34 : Value} (a34 : PySem.W.nsIn K mainGlobals "law" = some (some (.ref f34))) (l34 : K.lookup f34 = some ⟨oc34, od34, .func (PySem.W.fnOf "law" "law" (defArgs (topS 42)) (defBody (topS 42)) (defScope (topS 42)) .none kV34 dc34 pm34 an34 cd34 ct34), sl34⟩) (c34 : PySem.W.codeIn K cd34 "law" = true) (k34 : PySem.W.keepIn K (.ref f34) = true)
    (z0 : PySem.W.nsIn K mainGlobals "len" = some none)
    (z1 : PySem.W.nsIn K mainGlobals "all" = some none)
    (z2 : PySem.W.nsIn K mainGlobals "any" = some none)
    (z3 : PySem.W.nsIn K mainGlobals "sum" = some none)
    (z4 : PySem.W.nsIn K mainGlobals "abs" = some none)
    (z5 : PySem.W.nsIn K mainGlobals "max" = some none)
    (z6 : PySem.W.nsIn K mainGlobals "min" = some none)
    (z7 : PySem.W.nsIn K mainGlobals "int" = some none)
    (z8 : PySem.W.nsIn K mainGlobals "str" = some none)
    (z9 : PySem.W.nsIn K mainGlobals "list" = some none)
    (z10 : PySem.W.nsIn K mainGlobals "tuple" = some none)
    (z11 : PySem.W.nsIn K mainGlobals "bool" = some none)
    (z12 : PySem.W.nsIn K mainGlobals "dict" = some none)
    (z13 : PySem.W.nsIn K mainGlobals "isinstance" = some none)
    (z14 : PySem.W.nsIn K mainGlobals "range" = some none)
    (z15 : PySem.W.nsIn K mainGlobals "zip" = some none)
    (z16 : PySem.W.nsIn K mainGlobals "enumerate" = some none)
    (z17 : PySem.W.nsIn K mainGlobals "sorted" = some none)
    (z18 : PySem.W.nsIn K mainGlobals "set" = some none)
    (z19 : PySem.W.nsIn K mainGlobals "repr" = some none)
    (z20 : PySem.W.nsIn K mainGlobals "ValueError" = some none)
    (hL : ∀ (d : D) (st : Stt) (ns : List Int), lstOf st (.d d) = some (ns.map D.int) → ns.length ≤ 63 → ∃ st', F_law [d] st = .ok (.bl true) st') :
    ∃ fd : FuncData, (∀ (s : Shared) (v : Value), BindsTo s fd ⟨[v], []⟩ [("_law_script", v)]) ∧ ∀ base : Heap, K.In base → base.Ns mainGlobals mg → FnOk P w K mg base (L2.CX P w) 36 fa fd ["_law_script"] (spLaw K) := by
  have bt : ∀ x ∈ Ev.allB, mg x = none := by
    intro x hx
    simp only [Ev.allB, List.mem_cons, List.not_mem_nil, or_false] at hx
    rcases hx with rfl | rfl | rfl | rfl | rfl | rfl | rfl | rfl | rfl | rfl | rfl | rfl | rfl | rfl | rfl | rfl | rfl | rfl | rfl | rfl | rfl
    · exact PySem.W.mg_none_of X G z0
    · exact PySem.W.mg_none_of X G z1
    · exact PySem.W.mg_none_of X G z2
    · exact PySem.W.mg_none_of X G z3
    · exact PySem.W.mg_none_of X G z4
    · exact PySem.W.mg_none_of X G z5
    · exact PySem.W.mg_none_of X G z6
    · exact PySem.W.mg_none_of X G z7
    · exact PySem.W.mg_none_of X G z8
    · exact PySem.W.mg_none_of X G z9
    · exact PySem.W.mg_none_of X G z10
    · exact PySem.W.mg_none_of X G z11
    · exact PySem.W.mg_none_of X G z12
    · exact PySem.W.mg_none_of X G z13
    · exact PySem.W.mg_none_of X G z14
    · exact PySem.W.mg_none_of X G z15
    · exact PySem.W.mg_none_of X G z16
    · exact PySem.W.mg_none_of X G z17
    · exact PySem.W.mg_none_of X G z18
    · exact PySem.W.mg_none_of X G z19
    · exact PySem.W.mg_none_of X G z20
  have F0 := fun_mk l0 c0 k0
  have B0 : Binds K _ (["_law_script"] : List Str) [] := F0.binds fun _ _ _ _ _ _ us hl => match us, hl with | [_], _ => rfl
  have M0 := PySem.W.mg_of X G a0
  have F1 := fun_mk l1 c1 k1
  have B1 : Binds K _ (["_law_seed", "_law_turn"] : List Str) [] := F1.binds fun _ _ _ _ _ _ us hl => match us, hl with | [_, _], _ => rfl
  have M1 := PySem.W.mg_of X G a1
  have F2 := fun_mk l2 c2 k2
  have B2 : Binds K _ (["_law_pot", "_law_many"] : List Str) [] := F2.binds fun _ _ _ _ _ _ us hl => match us, hl with | [_, _], _ => rfl
  have M2 := PySem.W.mg_of X G a2
  have F3 := fun_mk l3 c3 k3
  have B3 : Binds K _ (["_law_pot", "_law_many"] : List Str) [] := F3.binds fun _ _ _ _ _ _ us hl => match us, hl with | [_, _], _ => rfl
  have M3 := PySem.W.mg_of X G a3
  have F4 := fun_mk l4 c4 k4
  have B4 : Binds K _ (["_law_one", "_law_other"] : List Str) [] := F4.binds fun _ _ _ _ _ _ us hl => match us, hl with | [_, _], _ => rfl
  have M4 := PySem.W.mg_of X G a4
  have F5 := fun_mk l5 c5 k5
  have B5 : Binds K _ (["_law_top", "_law_bottom"] : List Str) [] := F5.binds fun _ _ _ _ _ _ us hl => match us, hl with | [_, _], _ => rfl
  have M5 := PySem.W.mg_of X G a5
  have F6 := fun_mk l6 c6 k6
  have B6 : Binds K _ (["_law_pot", "_law_most"] : List Str) [] := F6.binds fun _ _ _ _ _ _ us hl => match us, hl with | [_, _], _ => rfl
  have M6 := PySem.W.mg_of X G a6
  have F7 := fun_mk l7 c7 k7
  have B7 : Binds K _ (["_law_pot"] : List Str) [] := F7.binds fun _ _ _ _ _ _ us hl => match us, hl with | [_], _ => rfl
  have M7 := PySem.W.mg_of X G a7
  have F8 := fun_mk l8 c8 k8
  have B8 : Binds K _ (["_law_pot"] : List Str) [] := F8.binds fun _ _ _ _ _ _ us hl => match us, hl with | [_], _ => rfl
  have M8 := PySem.W.mg_of X G a8
  have F9 := fun_mk l9 c9 k9
  have B9 : Binds K _ (["_law_number"] : List Str) [] := F9.binds fun _ _ _ _ _ _ us hl => match us, hl with | [_], _ => rfl
  have M9 := PySem.W.mg_of X G a9
  have F10 := fun_mk l10 c10 k10
  have B10 : Binds K _ (["_law_thing"] : List Str) [] := F10.binds fun _ _ _ _ _ _ us hl => match us, hl with | [_], _ => rfl
  have M10 := PySem.W.mg_of X G a10
  have F11 := fun_mk l11 c11 k11
  have B11 : Binds K _ (["_law_thing"] : List Str) [] := F11.binds fun _ _ _ _ _ _ us hl => match us, hl with | [_], _ => rfl
  have M11 := PySem.W.mg_of X G a11
  have F12 := fun_mk l12 c12 k12
  have B12 : Binds K _ (["_law_one", "_law_other"] : List Str) [] := F12.binds fun _ _ _ _ _ _ us hl => match us, hl with | [_, _], _ => rfl
  have M12 := PySem.W.mg_of X G a12
  have F13 := fun_mk l13 c13 k13
  have B13 : Binds K _ (["_law_thing"] : List Str) [] := F13.binds fun _ _ _ _ _ _ us hl => match us, hl with | [_], _ => rfl
  have M13 := PySem.W.mg_of X G a13
  have F14 := fun_mk l14 c14 k14
  have B14 : Binds K _ (["_law_row", "_law_at_here", "_law_thing"] : List Str) [] := F14.binds fun _ _ _ _ _ _ us hl => match us, hl with | [_, _, _], _ => rfl
  have M14 := PySem.W.mg_of X G a14
  have F15 := fun_mk l15 c15 k15
  have B15 : Binds K _ (["_law_pot"] : List Str) [] := F15.binds fun _ _ _ _ _ _ us hl => match us, hl with | [_], _ => rfl
  have M15 := PySem.W.mg_of X G a15
  have F16 := fun_mk l16 c16 k16
  have B16 : Binds K _ (["_law_pot", "_law_piece"] : List Str) [] := F16.binds fun _ _ _ _ _ _ us hl => match us, hl with | [_, _], _ => rfl
  have M16 := PySem.W.mg_of X G a16
  have F17 := fun_mk l17 c17 k17
  have B17 : Binds K _ (["_law_pot", "_law_arch_here"] : List Str) [] := F17.binds fun _ _ _ _ _ _ us hl => match us, hl with | [_, _], _ => rfl
  have M17 := PySem.W.mg_of X G a17
  have F18 := fun_mk l18 c18 k18
  have B18 : Binds K _ (["_law_one", "_law_other"] : List Str) [] := F18.binds fun _ _ _ _ _ _ us hl => match us, hl with | [_, _], _ => rfl
  have M18 := PySem.W.mg_of X G a18
  have F19 := fun_mk l19 c19 k19
  have B19 : Binds K _ (["_law_pot", "_law_arch_here"] : List Str) [] := F19.binds fun _ _ _ _ _ _ us hl => match us, hl with | [_, _], _ => rfl
  have M19 := PySem.W.mg_of X G a19
  have F20 := fun_mk l20 c20 k20
  have B20 : Binds K _ (["thing"] : List Str) [] := F20.binds fun _ _ _ _ _ _ us hl => match us, hl with | [_], _ => rfl
  have M20 := PySem.W.mg_of X G a20
  have F21 := fun_mk l21 c21 k21
  have B21 : Binds K _ (["thing", "many"] : List Str) [] := F21.binds fun _ _ _ _ _ _ us hl => match us, hl with | [_, _], _ => rfl
  have M21 := PySem.W.mg_of X G a21
  have F22 := fun_mk l22 c22 k22
  have B22 : Binds K _ (["one", "other"] : List Str) [] := F22.binds fun _ _ _ _ _ _ us hl => match us, hl with | [_, _], _ => rfl
  have M22 := PySem.W.mg_of X G a22
  have F23 := fun_mk l23 c23 k23
  have B23 : Binds K _ (["thing"] : List Str) [] := F23.binds fun _ _ _ _ _ _ us hl => match us, hl with | [_], _ => rfl
  have M23 := PySem.W.mg_of X G a23
  have F24 := fun_mk l24 c24 k24
  have B24 : Binds K _ (["one", "other"] : List Str) [] := F24.binds fun _ _ _ _ _ _ us hl => match us, hl with | [_, _], _ => rfl
  have M24 := PySem.W.mg_of X G a24
  have F25 := fun_mk l25 c25 k25
  have B25 : Binds K _ (["thing"] : List Str) [] := F25.binds fun _ _ _ _ _ _ us hl => match us, hl with | [_], _ => rfl
  have M25 := PySem.W.mg_of X G a25
  have F26 := fun_mk l26 c26 k26
  have B26 : Binds K _ (["thing"] : List Str) [] := F26.binds fun _ _ _ _ _ _ us hl => match us, hl with | [_], _ => rfl
  have M26 := PySem.W.mg_of X G a26
  have F27 := fun_mk l27 c27 k27
  have B27 : Binds K _ (["thing"] : List Str) [] := F27.binds fun _ _ _ _ _ _ us hl => match us, hl with | [_], _ => rfl
  have M27 := PySem.W.mg_of X G a27
  have F28 := fun_mk l28 c28 k28
  have B28 : Binds K _ (["line", "price"] : List Str) [] := F28.binds fun _ _ _ _ _ _ us hl => match us, hl with | [_, _], _ => rfl
  have M28 := PySem.W.mg_of X G a28
  have F29 := fun_mk l29 c29 k29
  have B29 : Binds K _ (["one", "other"] : List Str) [] := F29.binds fun _ _ _ _ _ _ us hl => match us, hl with | [_, _], _ => rfl
  have M29 := PySem.W.mg_of X G a29
  have F30 := fun_mk l30 c30 k30
  have B30 : Binds K _ (["stretch", "thing"] : List Str) [] := F30.binds fun _ _ _ _ _ _ us hl => match us, hl with | [_, _], _ => rfl
  have M30 := PySem.W.mg_of X G a30
  have F31 := fun_mk l31 c31 k31
  have B31 : Binds K _ (["stretch", "thing"] : List Str) [] := F31.binds fun _ _ _ _ _ _ us hl => match us, hl with | [_, _], _ => rfl
  have M31 := PySem.W.mg_of X G a31
  have F32 := fun_mk l32 c32 k32
  have B32 : Binds K _ (["_law_line", "_law_price_here"] : List Str) [] := F32.binds fun _ _ _ _ _ _ us hl => match us, hl with | [_, _], _ => rfl
  have M32 := PySem.W.mg_of X G a32
  have F33 := fun_mk l33 c33 k33
  have B33 : Binds K _ (["_law_stretch_here", "_law_thing"] : List Str) [] := F33.binds fun _ _ _ _ _ _ us hl => match us, hl with | [_, _], _ => rfl
  have M33 := PySem.W.mg_of X G a33
  have F34 := fun_mk l34 c34 k34
  have B34 : Binds K _ (["_law_script"] : List Str) [] := F34.binds fun _ _ _ _ _ _ us hl => match us, hl with | [_], _ => rfl
  have M34 := PySem.W.mg_of X G a34
  have gk0 : ∀ base : Heap, GOk P w K mg base 0 G0 := fun base => GOk.base0 bt
  have gk1 : ∀ base : Heap, GOk P w K mg base 1 G1 := fun base => (gk0 base).add F0 s_law_pot_of 60 "_law_pot_of" M0 B0 e_law_pot_of
  have gk2 : ∀ base : Heap, GOk P w K mg base 2 G2 := fun base => (gk1 base).add F1 s_law_mixed 60 "_law_mixed" M1 B1 e_law_mixed
  have gk3 : ∀ base : Heap, GOk P w K mg base 3 G3 := fun base => (gk2 base).add F2 s_law_draw 60 "_law_draw" M2 B2 e_law_draw
  have gk4 : ∀ base : Heap, GOk P w K mg base 4 G4 := fun base => (gk3 base).add F3 s_law_wide 60 "_law_wide" M3 B3 e_law_wide
  have gk5 : ∀ base : Heap, GOk P w K mg base 5 G5 := fun base => (gk4 base).add F4 s_law_common 60 "_law_common" M4 B4 e_law_common
  have gk6 : ∀ base : Heap, GOk P w K mg base 6 G6 := fun base => (gk5 base).add F5 s_law_terms 60 "_law_terms" M5 B5 e_law_terms
  have gk7 : ∀ base : Heap, GOk P w K mg base 7 G7 := fun base => (gk6 base).add F6 s_law_arch 60 "_law_arch" M6 B6 e_law_arch
  have gk8 : ∀ base : Heap, GOk P w K mg base 8 G8 := fun base => (gk7 base).add F7 s_law_size 60 "_law_size" M7 B7 e_law_size
  have gk9 : ∀ base : Heap, GOk P w K mg base 9 G9 := fun base => (gk8 base).add F8 s_law_stretch 60 "_law_stretch" M8 B8 e_law_stretch
  have gk10 : ∀ base : Heap, GOk P w K mg base 10 G10 := fun base => (gk9 base).add F9 s_law_plain 60 "_law_plain" M9 B9 e_law_plain
  have gk11 : ∀ base : Heap, GOk P w K mg base 11 G11 := fun base => (gk10 base).add F10 s_law_is_line 60 "_law_is_line" M10 B10 e_law_is_line
  have gk12 : ∀ base : Heap, GOk P w K mg base 12 G12 := fun base => (gk11 base).add F11 s_law_is_fraction 60 "_law_is_fraction" M11 B11 e_law_is_fraction
  have gk13 : ∀ base : Heap, GOk P w K mg base 13 G13 := fun base => (gk12 base).add F12 s_law_less 60 "_law_less" M12 B12 e_law_less
  have gk14 : ∀ base : Heap, GOk P w K mg base 14 G14 := fun base => (gk13 base).add F13 s_law_is_piece 60 "_law_is_piece" M13 B13 e_law_is_piece
  have gk15 : ∀ base : Heap, GOk P w K mg base 15 G15 := fun base => (gk14 base).add F14 s_law_put 60 "_law_put" M14 B14 e_law_put
  have gk16 : ∀ base : Heap, GOk P w K mg base 16 G16 := fun base => (gk15 base).add F15 s_law_odd 60 "_law_odd" M15 B15 e_law_odd
  have gk17 : ∀ base : Heap, GOk P w K mg base 17 G17 := fun base => (gk16 base).add F16 s_law_other_piece 60 "_law_other_piece" M16 B16 e_law_other_piece
  have gk18 : ∀ base : Heap, GOk P w K mg base 18 G18 := fun base => (gk17 base).add F17 s_law_spoilt 60 "_law_spoilt" M17 B17 e_law_spoilt
  have gk19 : ∀ base : Heap, GOk P w K mg base 19 G19 := fun base => (gk18 base).add F18 s_law_amid 60 "_law_amid" M18 B18 e_law_amid
  have gk20 : ∀ base : Heap, GOk P w K mg base 20 G20 := fun base => (gk19 base).add F19 s_law_halved 60 "_law_halved" M19 B19 e_law_halved
  have gk21 : ∀ base : Heap, GOk P w K mg base 21 G21 := fun base => (gk20 base).add F20 s_is_whole 60 "is_whole" M20 B20 e_is_whole
  have gk22 : ∀ base : Heap, GOk P w K mg base 22 G22 := fun base => (gk21 base).add F21 s_are_wholes 60 "are_wholes" M21 B21 e_are_wholes
  have gk23 : ∀ base : Heap, GOk P w K mg base 23 G23 := fun base => (gk22 base).add F22 s_divisor_of 60 "divisor_of" M22 B22 e_divisor_of
  have gk24 : ∀ base : Heap, GOk P w K mg base 24 G24 := fun base => (gk23 base).add F23 s_is_fraction 60 "is_fraction" M23 B23 e_is_fraction
  have gk25 : ∀ base : Heap, GOk P w K mg base 25 G25 := fun base => (gk24 base).add F24 s_is_before 60 "is_before" M24 B24 e_is_before
  have gk26 : ∀ base : Heap, GOk P w K mg base 26 G26 := fun base => (gk25 base).add F25 s_is_stretch 60 "is_stretch" M25 B25 e_is_stretch
  have gk27 : ∀ base : Heap, GOk P w K mg base 27 G27 := fun base => (gk26 base).add F26 s_need_stretch 60 "need_stretch" M26 B26 e_need_stretch
  have gk28 : ∀ base : Heap, GOk P w K mg base 28 G28 := fun base => (gk27 base).add F27 s_is_piece 60 "is_piece" M27 B27 e_is_piece
  have gk29 : ∀ base : Heap, GOk P w K mg base 29 G29 := fun base => (gk28 base).add F28 s_weight 60 "weight" M28 B28 e_weight
  have gk30 : ∀ base : Heap, GOk P w K mg base 30 G30 := fun base => (gk29 base).add F29 s_is_bend 60 "is_bend" M29 B29 e_is_bend
  have gk31 : ∀ base : Heap, GOk P w K mg base 31 G31 := fun base => (gk30 base).add F30 s_is_arch_of 60 "is_arch_of" M30 B30 e_is_arch_of
  have gk32 : ∀ base : Heap, GOk P w K mg base 32 G32 := fun base => (gk31 base).add F31 s_is_arch 60 "is_arch" M31 B31 e_is_arch
  have gk33 : ∀ base : Heap, GOk P w K mg base 33 G33 := fun base => (gk32 base).add F32 s_law_at 60 "_law_at" M32 B32 e_law_at
  have gk34 : ∀ base : Heap, GOk P w K mg base 34 G34 := fun base => (gk33 base).add F33 s_law_is_arch 60 "_law_is_arch" M33 B33 e_law_is_arch
  have gk35 : ∀ base : Heap, GOk P w K mg base 35 G35 := fun base => (gk34 base).add F34 s_law 60 "law" M34 B34 e_law
  rw [M34] at hfa
  cases hfa
  have q : ∀ base : Heap, FnOk P w K mg base (L2.CX P w) 36 fa _ ["_law_script"] (spLaw K) := fun base => by
    have q := fn_ev F34 s_law (gk34 base) 60
    rw [e_law] at q
    exact (q.mono (by decide)).imp (law_sp hL)
  exact ⟨_, fun s v => BindsTo.of_eq rfl, fun base _ _ => q base⟩
end K07
open PySem PySem.W PyProof.Rows
set_option maxHeartbeats 0 in
theorem PySem.Challenge.cw_tollmoves_k07_arches_known_holds : PySem.Challenge.rw_tollmoves_k07_arches_known.Holds := by
  w_on; o_law; k_head; (case hw => w_witness2)
  k_fill
  refine L2.walk_of (l := PySem.Challenge.rw_tollmoves_k07_arches_known) (n := 63) (k := 36) (x := "_law_script") (CX := fun w => L2.CX PySem.Challenge.rw_tollmoves_k07_arches_known.prog w) (sp := fun w => Ev.spLaw _) rfl (by decide) rfl ⟨rfl, by decide, by decide⟩ (fun w h Y => PySem.W.kIn_of Y) ?F (fun _ _ a ns hl _ hS => ⟨a, ns, rfl, hS, hl, fun _ => rfl⟩) (fun _ _ _ _ _ h => Ev.cx_none h)
  case F =>
    intro w mg fa h KX G hmg
    refine' K07.all_mk KX G hmg ?a0 ?l0 ?c0 ?k0 ?a1 ?l1 ?c1 ?k1 ?a2 ?l2 ?c2 ?k2 ?a3 ?l3 ?c3 ?k3 ?a4 ?l4 ?c4 ?k4 ?a5 ?l5 ?c5 ?k5 ?a6 ?l6 ?c6 ?k6 ?a7 ?l7 ?c7 ?k7 ?a8 ?l8 ?c8 ?k8 ?a9 ?l9 ?c9 ?k9 ?a10 ?l10 ?c10 ?k10 ?a11 ?l11 ?c11 ?k11 ?a12 ?l12 ?c12 ?k12 ?a13 ?l13 ?c13 ?k13 ?a14 ?l14 ?c14 ?k14 ?a15 ?l15 ?c15 ?k15 ?a16 ?l16 ?c16 ?k16 ?a17 ?l17 ?c17 ?k17 ?a18 ?l18 ?c18 ?k18 ?a19 ?l19 ?c19 ?k19 ?a20 ?l20 ?c20 ?k20 ?a21 ?l21 ?c21 ?k21 ?a22 ?l22 ?c22 ?k22 ?a23 ?l23 ?c23 ?k23 ?a24 ?l24 ?c24 ?k24 ?a25 ?l25 ?c25 ?k25 ?a26 ?l26 ?c26 ?k26 ?a27 ?l27 ?c27 ?k27 ?a28 ?l28 ?c28 ?k28 ?a29 ?l29 ?c29 ?k29 ?a30 ?l30 ?c30 ?k30 ?a31 ?l31 ?c31 ?k31 ?a32 ?l32 ?c32 ?k32 ?a33 ?l33 ?c33 ?k33 ?a34 ?l34 ?c34 ?k34 ?z0 ?z1 ?z2 ?z3 ?z4 ?z5 ?z6 ?z7 ?z8 ?z9 ?z10 ?z11 ?z12 ?z13 ?z14 ?z15 ?z16 ?z17 ?z18 ?z19 ?z20 K07.law_ok
    (case a0 => k_is)
    (case l0 => k_is)
    (case c0 => k_is)
    (case k0 => k_is)
    (case a1 => k_is)
    (case l1 => k_is)
    (case c1 => k_is)
    (case k1 => k_is)
    (case a2 => k_is)
    (case l2 => k_is)
    (case c2 => k_is)
    (case k2 => k_is)
    (case a3 => k_is)
    (case l3 => k_is)
    (case c3 => k_is)
    (case k3 => k_is)
    (case a4 => k_is)
    (case l4 => k_is)
    (case c4 => k_is)
    (case k4 => k_is)
    (case a5 => k_is)
    (case l5 => k_is)
    (case c5 => k_is)
    (case k5 => k_is)
    (case a6 => k_is)
    (case l6 => k_is)
    (case c6 => k_is)
    (case k6 => k_is)
    (case a7 => k_is)
    (case l7 => k_is)
    (case c7 => k_is)
    (case k7 => k_is)
    (case a8 => k_is)
    (case l8 => k_is)
    (case c8 => k_is)
    (case k8 => k_is)
    (case a9 => k_is)
    (case l9 => k_is)
    (case c9 => k_is)
    (case k9 => k_is)
    (case a10 => k_is)
    (case l10 => k_is)
    (case c10 => k_is)
    (case k10 => k_is)
    (case a11 => k_is)
    (case l11 => k_is)
    (case c11 => k_is)
    (case k11 => k_is)
    (case a12 => k_is)
    (case l12 => k_is)
    (case c12 => k_is)
    (case k12 => k_is)
    (case a13 => k_is)
    (case l13 => k_is)
    (case c13 => k_is)
    (case k13 => k_is)
    (case a14 => k_is)
    (case l14 => k_is)
    (case c14 => k_is)
    (case k14 => k_is)
    (case a15 => k_is)
    (case l15 => k_is)
    (case c15 => k_is)
    (case k15 => k_is)
    (case a16 => k_is)
    (case l16 => k_is)
    (case c16 => k_is)
    (case k16 => k_is)
    (case a17 => k_is)
    (case l17 => k_is)
    (case c17 => k_is)
    (case k17 => k_is)
    (case a18 => k_is)
    (case l18 => k_is)
    (case c18 => k_is)
    (case k18 => k_is)
    (case a19 => k_is)
    (case l19 => k_is)
    (case c19 => k_is)
    (case k19 => k_is)
    (case a20 => k_is)
    (case l20 => k_is)
    (case c20 => k_is)
    (case k20 => k_is)
    (case a21 => k_is)
    (case l21 => k_is)
    (case c21 => k_is)
    (case k21 => k_is)
    (case a22 => k_is)
    (case l22 => k_is)
    (case c22 => k_is)
    (case k22 => k_is)
    (case a23 => k_is)
    (case l23 => k_is)
    (case c23 => k_is)
    (case k23 => k_is)
    (case a24 => k_is)
    (case l24 => k_is)
    (case c24 => k_is)
    (case k24 => k_is)
    (case a25 => k_is)
    (case l25 => k_is)
    (case c25 => k_is)
    (case k25 => k_is)
    (case a26 => k_is)
    (case l26 => k_is)
    (case c26 => k_is)
    (case k26 => k_is)
    (case a27 => k_is)
    (case l27 => k_is)
    (case c27 => k_is)
    (case k27 => k_is)
    (case a28 => k_is)
    (case l28 => k_is)
    (case c28 => k_is)
    (case k28 => k_is)
    (case a29 => k_is)
    (case l29 => k_is)
    (case c29 => k_is)
    (case k29 => k_is)
    (case a30 => k_is)
    (case l30 => k_is)
    (case c30 => k_is)
    (case k30 => k_is)
    (case a31 => k_is)
    (case l31 => k_is)
    (case c31 => k_is)
    (case k31 => k_is)
    (case a32 => k_is)
    (case l32 => k_is)
    (case c32 => k_is)
    (case k32 => k_is)
    (case a33 => k_is)
    (case l33 => k_is)
    (case c33 => k_is)
    (case k33 => k_is)
    (case a34 => k_is)
    (case l34 => k_is)
    (case c34 => k_is)
    (case k34 => k_is)
    (case z0 => k_is)
    (case z1 => k_is)
    (case z2 => k_is)
    (case z3 => k_is)
    (case z4 => k_is)
    (case z5 => k_is)
    (case z6 => k_is)
    (case z7 => k_is)
    (case z8 => k_is)
    (case z9 => k_is)
    (case z10 => k_is)
    (case z11 => k_is)
    (case z12 => k_is)
    (case z13 => k_is)
    (case z14 => k_is)
    (case z15 => k_is)
    (case z16 => k_is)
    (case z17 => k_is)
    (case z18 => k_is)
    (case z19 => k_is)
    (case z20 => k_is)

