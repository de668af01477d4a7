import PyProof.Rows.All
import Wide.All
import OpenK.AllK
import Wide.FinOn
import HandS.ForExc
import HandS.ForMost
import HandS.Wide
import HandS.IsInst
import HandS.TupAny
import HandS.TupMul
import HandS.TupLe
import HandS.Style
import HandS.Zip
import HandS.ExcIs
import HandS.SortInts
import HandS.Conv
import HandS.Lambda
import HandS.Nested
import HandS.Flow
import KE.GoesMore
import KE.GoesEnum
import HandS.TupSets
import HandS.SetFor
import HandS.More
import HandS.Strs
import HandS.Dict
import PyProof.ReprRoads
import KE.DataMinMax
import KE.SortData
import HandS.ExcInit
import HandS.ExcField
import HandS.Walk
import HandS.Comp
import HandS.TryOnly
import HandS.RaiseMore
import KE.KMinKey
import PyProof.WalksMore
import HandS.SortKw
import KE.KSortKeySt
import HandS.WordsExc
import HandS.Ends
import HandS.EndOwn
import KE.KNestM
import PySem.Challenge.RW_tollmoves_k74_forest_shares
set_option Elab.async false
set_option linter.all false
set_option maxRecDepth 100000
set_option maxHeartbeats 4000000
namespace Ev
open PySem PySem.Spec PyProof.Rows L2
inductive D where
  | non | bl (b : Bool) | int (i : Int) | str (x : Str) | ty (n : String)
  | tup (xs : List D) | rol (xs : List D) | loc (l : Nat) | obj (x : Str) | exn (c : Str) (fs : List D) | clo (k : Nat) (cs : List D)
inductive Ob where
  | lst (xs : List D) | dic (kvs : List (Key × D)) | ins (c : Str) (fs : List (Str × D))
noncomputable abbrev Stt := List Ob
noncomputable abbrev Env := List (Option D)
/-- a value, or a new list that nobody holds -/
inductive A where
  | d (x : D) | l (xs : List D)
inductive Rs (α : Type) where
  | ok (a : α) (s : Stt) | exc (c : Str) (fs : List D) (s : Stt) | bad
noncomputable abbrev M (α : Type) := Stt → Rs α
/-- how a statement ends -/
inductive Fl where
  | nx | rt (d : D) | bk | ct
inductive Rf where
  | ok (f : Fl) (e : Env) (s : Stt) | exc (c : Str) (fs : List D) (e : Env) (s : Stt) | bad
noncomputable def Rs.bind {α β : Type} (r : Rs α) (k : α → M β) : Rs β :=
  match r with
  | .ok a s => k a s
  | .exc c fs s => .exc c fs s
  | .bad => .bad
/-- .. of an expression in a statement -/
noncomputable def Rs.then {α : Type} (r : Rs α) (e : Env) (k : α → Stt → Rf) : Rf :=
  match r with
  | .ok a s => k a s
  | .exc c fs s => .exc c fs e s
  | .bad => .bad
noncomputable def Rf.then (r : Rf) (k : Env → Stt → Rf) : Rf :=
  match r with
  | .ok .nx e s => k e s
  | r => r
noncomputable def ofO {α : Type} (o : Option α) (s : Stt) : Rs α :=
  match o with
  | some a => .ok a s
  | none => .bad
structure Gam where
  fn : Str → Option (List D → M D) := fun _ => none
  gc : Str → Option D := fun _ => none
  mt : Str → Str → Option (List D → M D) := fun _ _ => none
  sub : Str → Str → Option Bool := fun _ _ => none
  xc : Str → Bool := fun _ => false
  xr : Str → Bool := fun _ => false
  ist : Str → Str → Option Bool := fun _ _ => none
  cl : List Str := []
  hf : Str → Option ((List D → M D) → List D → M D) := fun _ => none
mutual
inductive Ex where
  | v (i : Nat) | c (d : D) | g (x : Str)
  | bin (op : Operator) (a b : Ex) | neg (a : Ex) | nt (a : Ex)
  | and (es : Es) | or (es : Es)
  | cmp (a : Ex) (op : CmpOp) (b : Ex) | cmp2 (a : Ex) (op : CmpOp) (b : Ex) (op2 : CmpOp) (c : Ex)
  | call (f : Str) (es : Es) | callv (i : Nat) (es : Es) | bi (f : Str) (es : Es) | mt (m : Str) (o : Ex) (es : Es)
  | isi (a : Ex) (ts : List Str)
  | ix (a i : Ex) | sl (a : Ex) (lo hi : Eo)
  | tup (es : Es) | lst (es : Es) | dict0 | rev (a : Ex) | dic1 (k : Int) (d : D) | dicE (k v : Ex)
  | cmp3 (a : Ex) (op : CmpOp) (b : Ex) (op2 : CmpOp) (c : Ex) (op3 : CmpOp) (d : Ex) | nset (a : Ex) | sset (a : Ex) | rgl (t : Bool) (a : Ex) (b : Eo)
  | lc (elt : Ex) (t : Tg) (it : It) (ifs : Eo) (own : List Nat)
  | ife (t a b : Ex)
  | lamc (f : Str) (caps : List Nat) (body : Ex) (es : Es)
  | lam0 (f : Str) (caps : List Nat) (body : Ex)
  | minl (caps : List Nat) (body : Ex) (a : Ex)
  | srtk (rg : Bool) (caps : List Nat) (body : Ex) (a : Ex)
  | maxd (a : Ex) (k : Int)
  | ring (a : Ex)
inductive Es where
  | nil | cons (e : Ex) (r : Es)
inductive Eo where
  | no | so (e : Ex)
inductive It where
  | val (a : Ex) | rng (a : Ex) | rng2 (a b : Ex) | zip (a b : Ex) | enum (a : Ex)
inductive Tg where
  | nm (i : Nat) | tup (ts : Tgs)
inductive Tgs where
  | nil | cons (t : Tg) (r : Tgs)
end
mutual
inductive Sx where
  | asg (t : Tg) (e : Ex) | st (o i e : Ex) | ret (e : Ex) | ret0 | ex (e : Ex)
  | ife (t : Ex) (a b : Ss) | for (t : Tg) (it : It) (b : Ss) | whl (t : Ex) (b : Ss)
  | brk | cont | pass
  | raise (c : Str) (es : Es)
  | «try» (b : Ss) (c : Str) (i : Nat) (h : Ss)
  | nev
inductive Ss where
  | nil | cons (s : Sx) (r : Ss)
end
noncomputable def stLst (st : Stt) (l : Nat) : Option (List D) :=
  match st[l]? with
  | some (.lst xs) => some xs
  | _ => none
/-- a dict's entries -/
noncomputable def dicOf (st : Stt) (l : Nat) : Option (List (Key × D)) :=
  match st[l]? with
  | some (.dic kvs) => some kvs
  | _ => none
noncomputable def dget (kvs : List (Key × D)) (k : Key) : Option D := (kvs.find? fun kv => decide (kv.1 = k)).map (·.2)
/-- in its place, or at the end -/
noncomputable def dput (kvs : List (Key × D)) (k : Key) (v : D) : List (Key × D) :=
  if (kvs.any fun kv => decide (kv.1 = k)) = true then kvs.map (fun kv => if kv.1 = k then (kv.1, v) else kv) else kvs ++ [(k, v)]
/-- the keys, all whole numbers -/
noncomputable def keysI : List (Key × D) → Option (List Int)
  | [] => some []
  | (.inl i, _) :: r => (keysI r).map (i :: ·)
  | _ :: _ => none
/-- a list's items -/
noncomputable def lstOf (st : Stt) : A → Option (List D)
  | .l xs => some xs
  | .d (.loc l) => stLst st l
  | .d (.rol xs) => some xs
  | _ => none
/-- .. of one that may change -/
noncomputable def lstM (st : Stt) : A → Option (List D)
  | .l xs => some xs
  | .d (.loc l) => stLst st l
  | _ => none
noncomputable def tupOf : A → Option (List D)
  | .d (.tup xs) => some xs
  | _ => none
noncomputable def seqOf (st : Stt) (a : A) : Option (List D) :=
  match tupOf a with
  | some xs => some xs
  | none => lstOf st a
mutual
noncomputable def toPy (st : Stt) : Nat → D → Option PyData
  | 0, _ => none
  | n + 1, d =>
    match d with
    | .non => some .none
    | .bl b => some (.bool b)
    | .int i => some (.int i)
    | .str x => some (.str x)
    | .tup xs => (toPys st n xs).map .tuple
    | .rol xs => (toPys st n xs).map .list
    | .loc l => match stLst st l with
      | some xs => (toPys st n xs).map .list
      | none => none
    | _ => none
noncomputable def toPys (st : Stt) : Nat → List D → Option (List PyData)
  | 0, _ => none
  | _ + 1, [] => some []
  | n + 1, x :: xs => match toPy st n x, toPys st n xs with
    | some a, some b => some (a :: b)
    | _, _ => none
end
open Classical in
/-- .. however long its rows -/
noncomputable def toPyX (st : Stt) (x : D) : Option PyData := match toPy st 1000 x with
  | some d => some d
  | none => if h : ∃ d n, toPy st n x = some d then some (Classical.choose h) else none
noncomputable def toPyA (st : Stt) : A → Option PyData
  | .d x => toPyX st x
  | .l xs => (toPys st 1000 xs).map .list
mutual
/-- .. for its text: an empty dict, too -/
noncomputable def toPyR (st : Stt) : Nat → D → Option PyData
  | 0, _ => none
  | n + 1, d =>
    match d with
    | .non => some .none
    | .bl b => some (.bool b)
    | .int i => some (.int i)
    | .str x => some (.str x)
    | .tup xs => (toPysR st n xs).map .tuple
    | .loc l => match st[l]? with
      | some (.lst xs) => (toPysR st n xs).map .list
      | some (.dic []) => some (.dict [])
      | _ => none
    | _ => none
noncomputable def toPysR (st : Stt) : Nat → List D → Option (List PyData)
  | 0, _ => none
  | _ + 1, [] => some []
  | n + 1, x :: xs => match toPyR st n x, toPysR st n xs with
    | some a, some b => some (a :: b)
    | _, _ => none
end
open Classical in
noncomputable def toPyRX (st : Stt) (x : D) : Option PyData := match toPyR st 1000 x with
  | some d => some d
  | none => if h : ∃ d n, toPyR st n x = some d then some (Classical.choose h) else none
/-- == of two texts -/
noncomputable def strs2 : A → A → Option Bool
  | .d (.str x), .d (.str y) => some (decide (x = y))
  | _, _ => none
noncomputable def eqA (st : Stt) (a b : A) : Option Bool :=
  match toPyA st a, toPyA st b with
  | some x, some y => if SeqAt.shaped x = true ∧ SeqAt.shaped y = true then some (PyData.eqv x y) else strs2 a b
  | _, _ => none
/-- == of two rows, one of them empty -/
noncomputable def emp2 (st : Stt) (a b : A) : Option Bool :=
  match tupOf a, tupOf b with
  | some xs, some ys => if (xs.isEmpty || ys.isEmpty) = true then some (decide (xs.length = ys.length)) else none
  | none, none => match lstOf st a, lstOf st b with
    | some xs, some ys => if (xs.isEmpty || ys.isEmpty) = true then some (decide (xs.length = ys.length)) else none
    | _, _ => none
  | _, _ => none
noncomputable def eqB (st : Stt) (a b : A) : Option Bool :=
  match emp2 st a b with
  | some r => some r
  | none => eqA st a b
noncomputable def lenOk (n : Nat) : Bool := decide (n ≤ 1000000)
noncomputable def binA (op : Operator) (a b : A) (st : Stt) : Rs A :=
  match op, a, b with
  | .Add, .d (.int i), .d (.int j) => .ok (.d (.int (i + j))) st
  | .Sub, .d (.int i), .d (.int j) => .ok (.d (.int (i - j))) st
  | .Mult, .d (.int i), .d (.int j) => if i.natAbs.log2 + j.natAbs.log2 < 1000000 then .ok (.d (.int (i * j))) st else .bad
  | .FloorDiv, .d (.int i), .d (.int j) => if j ≠ 0 ∧ j.natAbs.log2 < 9000 then .ok (.d (.int (i.fdiv j))) st else .bad
  | .Mod, .d (.int i), .d (.int j) => if j ≠ 0 then .ok (.d (.int (i.fmod j))) st else .bad
  | .Pow, .d (.int i), .d (.int j) => if 0 ≤ j ∧ (Builtin.Int.intBits i : Int) * j ≤ 2 ^ 27 then .ok (.d (.int (i ^ j.toNat))) st else .bad
  | .Add, .d (.str x), .d (.str y) => if lenOk (x.length + y.length) then .ok (.d (.str (x ++ y))) st else .bad
  | .Add, .d (.tup xs), .d (.tup ys) => if lenOk (xs.length + ys.length) then .ok (.d (.tup (xs ++ ys))) st else .bad
  | .Mult, .d (.tup xs), .d (.int k) => if lenOk xs.length = true ∧ lenOk (xs.length * k.toNat) = true ∧ -(2 ^ 62) ≤ k ∧ k < 2 ^ 62 then .ok (.d (.tup (List.replicate k.toNat xs).flatten)) st else .bad
  | .Add, a, b => match lstM st a, lstM st b with
    | some xs, some ys => if lenOk (xs.length + ys.length) then .ok (.l (xs ++ ys)) st else .bad
    | _, _ => .bad
  | .Mult, a, .d (.int k) => match lstM st a with
    | some xs => if lenOk (xs.length * k.toNat) ∧ -(2 ^ 62) ≤ k ∧ k < 2 ^ 62 then .ok (.l (List.replicate k.toNat xs).flatten) st else .bad
    | none => .bad
  | _, _, _ => .bad
mutual
noncomputable def same : D → D → Bool
  | .non, .non => true
  | .bl a, .bl b => a == b
  | .int a, .int b => a == b
  | .str a, .str b => decide (a = b)
  | .ty a, .ty b => a == b
  | .tup a, .tup b => sames a b
  | .rol a, .rol b => sames a b
  | .loc a, .loc b => a == b
  | .obj a, .obj b => decide (a = b)
  | .exn a fs, .exn b gs => decide (a = b) && sames fs gs
  | .clo a fs, .clo b gs => (a == b) && sames fs gs
  | _, _ => false
noncomputable def sames : List D → List D → Bool
  | [], [] => true
  | a :: r, b :: q => same a b && sames r q
  | _, _ => false
end
noncomputable def allocA (a : A) (st : Stt) : Rs D :=
  match a with
  | .d x => .ok x st
  | .l xs => .ok (.loc st.length) (st ++ [.lst xs])
noncomputable def truA (a : A) (st : Stt) : Rs Bool :=
  match a with
  | .d .non => .ok false st
  | .d (.bl b) => .ok b st
  | .d (.int i) => .ok (i != 0) st
  | .d (.str x) => if lenOk x.length then .ok (x.length != 0) st else .bad
  | .d (.tup xs) => .ok (!xs.isEmpty) st
  | a => match lstOf st a with
    | some xs => .ok (!xs.isEmpty) st
    | none => .bad
/-- a type's name -/
noncomputable def tyA (st : Stt) : A → Option String
  | .l _ => some "list"
  | .d .non => some "NoneType"
  | .d (.bl _) => some "bool"
  | .d (.int _) => some "int"
  | .d (.str _) => some "str"
  | .d (.tup _) => some "tuple"
  | .d (.rol _) => some "list"
  | .d (.loc l) => match st[l]? with
    | some (.lst _) => some "list"
    | some (.dic _) => some "dict"
    | _ => none
  | _ => none
noncomputable def tyNames : List String := ["int", "bool", "str", "tuple", "list", "dict"]
noncomputable def tyName (x : Str) : Option String := tyNames.find? fun n => decide (Str.ofString n = x)
noncomputable def isiOne (G : Gam) (st : Stt) (a : A) (c : Str) : Option Bool :=
  match tyName c with
  | some n => match tyA st a with
    | some t => kitB t n
    | none => none
  | none => match a with
    | .d (.exn e _) => G.ist e c
    | _ => none
/-- one of some classes -/
noncomputable def istAny (G : Gam) (e : Str) : List Str → Option Bool
  | [] => some false
  | c :: r => if (tyName c).isSome = true then none else match G.ist e c with
    | some true => some true
    | some false => istAny G e r
    | none => none
noncomputable def isiA (G : Gam) (st : Stt) (a : A) (cs : List Str) : Option Bool :=
  match cs with
  | [c] => isiOne G st a c
  | [] => none
  | cs => match a with
    | .d (.exn e _) => istAny G e cs
    | _ => none
/-- flat things, == of such -/
noncomputable def flatD : D → Bool
  | .non => true
  | .bl _ => true
  | .int _ => true
  | .str _ => true
  | _ => false
noncomputable def vF : D → V
  | .non => .non
  | .bl b => .bl b
  | .int i => .int i
  | .str x => .str x
  | _ => .non
noncomputable def eqF (x y : D) : Bool := eqV (vF x) (vF y)
/-- in a row of plain data -/
noncomputable def inD (st : Stt) (a b : A) : Option Bool :=
  match toPyA st a, toPyA st b with
  | some d, some (.tuple ds) => if SeqAt.shaped d = true ∧ SeqAt.shaped (.tuple ds) = true ∧ d.depth ≤ 8 then some (ds.any fun z => PyData.eqv z d) else none
  | some d, some (.list ds) => if SeqAt.shaped d = true ∧ SeqAt.shaped (.list ds) = true ∧ d.depth ≤ 8 then some (ds.any fun z => PyData.eqv z d) else none
  | _, _ => none
noncomputable def inA (st : Stt) (a b : A) : Option Bool :=
  match a, seqOf st b with
  | .d x, some ys => if flatD x = true ∧ ys.all flatD = true then some (ys.any fun y => eqF y x) else inD st (.d x) b
  | .d (.int i), none => match b with
    | .d (.loc l) => (dicOf st l).map fun kvs => (dget kvs (.inl i)).isSome
    | _ => none
  | _, _ => none
noncomputable def boolsOf : List D → Option (List Bool)
  | [] => some []
  | .bl b :: r => (boolsOf r).map (b :: ·)
  | _ => none
noncomputable def intsOf : List D → Option (List Int)
  | [] => some []
  | .int i :: r => (intsOf r).map (i :: ·)
  | _ => none
/-- rows of whole numbers, compared -/
noncomputable def lexA (le : Bool) (xs ys : List D) : Option Bool :=
  match intsOf xs, intsOf ys with
  | some ns, some ms => some (if le = true then Ob.lexAt (fun j => decide (ns.getD j 0 = ms.getD j 0)) (fun j => decide (ns.getD j 0 ≤ ms.getD j 0)) (decide (ns.length ≤ ms.length)) 0 (min ns.length ms.length) else HT.lexLt ns ms)
  | _, _ => none
noncomputable def cmpA (op : CmpOp) (a b : A) (st : Stt) : Option Bool :=
  match op, a, b with
  | .Lt, .d (.int i), .d (.int j) => some (decide (i < j))
  | .LtE, .d (.int i), .d (.int j) => some (decide (i ≤ j))
  | .Gt, .d (.int i), .d (.int j) => some (decide (j < i))
  | .GtE, .d (.int i), .d (.int j) => some (decide (j ≤ i))
  | .Lt, .d (.tup xs), .d (.tup ys) => lexA false xs ys
  | .LtE, .d (.tup xs), .d (.tup ys) => lexA true xs ys
  | .Eq, a, b => eqB st a b
  | .NotEq, a, b => (eqB st a b).map not
  | .In, a, b => inA st a b
  | .NotIn, a, b => (inA st a b).map not
  | .Is, .d .non, .d .non => some true
  | .Is, .d (.bl x), .d (.bl y) => some (decide (x = y))
  | .Is, _, .d .non => some false
  | .IsNot, .d .non, .d .non => some false
  | .IsNot, .d (.bl x), .d (.bl y) => some (!decide (x = y))
  | .IsNot, _, .d .non => some true
  | _, _, _ => none
/-- the greatest, the least -/
noncomputable def maxI : List Int → Option Int
  | [] => none
  | i :: r => match maxI r with
    | none => some i
    | some m => some (if m < i then i else m)
noncomputable def minI : List Int → Option Int
  | [] => none
  | i :: r => match minI r with
    | none => some i
    | some m => some (if i < m then i else m)
/-- rows of numbers, and the least of them -/
noncomputable def tupsI : List D → Option (List (List Int))
  | [] => some []
  | .tup xs :: r => (intsOf xs).bind fun is => (tupsI r).map (is :: ·)
  | _ :: _ => none
noncomputable def minR (x : List Int) (r : List (List Int)) : List Int := r.foldl (fun a y => if y < a then y else a) x
noncomputable def minT : List (List Int) → Option (List Int)
  | [] => none
  | x :: r => some (minR x r)
/-- more of them -/
noncomputable def bi1b (f : Str) (a : A) (st : Stt) : Option A :=
  if f = "repr" then
    match a with
    | .d d => (toPyRX st d).bind fun p => if PyData.showable p = true ∧ p.depth ≤ 20 ∧ p.shown.length ≤ 1000000 then some (.d (.str p.shown)) else none
    | _ => none
  else if f = "max" then (lstOf st a).bind fun xs => (intsOf xs).bind fun is => (maxI is).map fun m => .d (.int m)
  else if f = "min" then (lstOf st a).bind fun xs =>
    match intsOf xs with
    | some is => (minI is).map fun m => .d (.int m)
    | none => (tupsI xs).bind fun ts => (minT ts).map fun m => .d (.tup (m.map .int))
  else none
/-- sorted(..) of a list, of a dict -/
noncomputable def sortA (a : A) (st : Stt) : Option A :=
  match lstOf st a with
  | some xs => (intsOf xs).map fun is => .l ((is.mergeSort (fun a b => decide (a ≤ b))).map .int)
  | none => match a with
    | .d (.loc l) => (dicOf st l).bind fun kvs => (keysI kvs).bind fun is => if is.length < 64 then some (.l ((is.mergeSort (fun a b => decide (a ≤ b))).map .int)) else none
    | .d (.tup xs) => (intsOf xs).map fun is => .l ((is.mergeSort (fun a b => decide (a ≤ b))).map .int)
    | _ => none
noncomputable def bi1 (f : Str) (a : A) (st : Stt) : Option A :=
  if f = "len" then
    match a with
    | .d (.str x) => if lenOk x.length then some (.d (.int x.length)) else none
    | a => (seqOf st a).map fun xs => .d (.int xs.length)
  else if f = "all" then (lstOf st a).bind fun xs => (boolsOf xs).map fun bs => .d (.bl (bs.all id))
  else if f = "any" then (lstOf st a).bind fun xs => (boolsOf xs).map fun bs => .d (.bl (bs.any id))
  else if f = "sum" then (lstOf st a).bind fun xs => (intsOf xs).map fun is => .d (.int is.sum)
  else if f = "abs" then
    match a with
    | .d (.int i) => some (.d (.int (if i < 0 then -i else i)))
    | _ => none
  else if f = "int" then
    match a with
    | .d (.int i) => some (.d (.int i))
    | .d (.bl b) => some (.d (.int (if b = true then 1 else 0)))
    | _ => none
  else if f = "str" then
    match a with
    | .d (.int i) => if i.natAbs.log2 < 1920 then some (.d (.str (toString i))) else none
    | _ => none
  else if f = "list" then (seqOf st a).map .l
  else if f = "tuple" then (seqOf st a).map fun xs => .d (.tup xs)
  else if f = "sorted" then sortA a st
  else bi1b f a st
noncomputable def bi2 (f : Str) (a b : A) (st : Stt) : Option A :=
  if f = "max" then
    match a, b with
    | .d (.int i), .d (.int j) => some (.d (.int (if j > i then j else i)))
    | _, _ => none
  else if f = "min" then
    match a, b with
    | .d (.int i), .d (.int j) => some (.d (.int (if j < i then j else i)))
    | _, _ => none
  else none
noncomputable def biA (f : Str) (as : List A) (st : Stt) : Rs A :=
  match as with
  | [a] => ofO (bi1 f a st) st
  | [a, b] => ofO (bi2 f a b st) st
  | _ => .bad
noncomputable def mtab : List (Str × (String × String)) := [("append", ("list", "list.append")), ("pop", ("list", "list.pop")), ("extend", ("list", "list.extend")), ("insert", ("list", "list.insert")), ("count", ("list", "list.count")), ("index", ("list", "list.index"))]
/-- may the method be asked of it -/
noncomputable def rcv (m : Str) (x : A) (st : Stt) : Bool :=
  match mtab.lookup m with
  | some (T, _) => if T = "list" then (lstOf st x).isSome else false
  | none => false
/-- a method of a list -/
noncomputable def mtA (m : Str) (o : A) (as : List A) (st : Stt) : Rs A :=
  if m = "append" then
    match o, as with
    | .d (.loc l), [a] => (allocA a st).bind fun y st => match stLst st l with
      | some xs => if lenOk xs.length then .ok (.d .non) (st.set l (.lst (xs ++ [y]))) else .bad
      | none => .bad
    | _, _ => .bad
  else if m = "pop" then
    match o, as with
    | .d (.loc l), [] => match stLst st l with
      | some xs => match xs[xs.length - 1]? with
        | some y => .ok (.d y) (st.set l (.lst xs.dropLast))
        | none => .bad
      | none => .bad
    | .d (.loc l), [.d (.int i)] => match stLst st l with
      | some xs => if -(2 ^ 62) ≤ i ∧ i < 2 ^ 62 then match seqIndex? i xs.length with
        | some k => match xs[k]? with
          | some y => .ok (.d y) (st.set l (.lst (xs.eraseIdx k)))
          | none => .bad
        | none => .bad else .bad
      | none => .bad
    | _, _ => .bad
  else if m = "extend" then
    match o, as with
    | .d (.loc l), [a] => match stLst st l, lstM st a with
      | some xs, some zs => if lenOk (xs.length + zs.length) then .ok (.d .non) (st.set l (.lst (xs ++ zs))) else .bad
      | _, _ => .bad
    | _, _ => .bad
  else if m = "insert" then
    match o, as with
    | .d (.loc l), [.d (.int i), .d y] => match stLst st l with
      | some xs => if lenOk xs.length ∧ 0 ≤ i ∧ i < 2 ^ 62 then .ok (.d .non) (st.set l (.lst (xs.take i.toNat ++ [y] ++ xs.drop i.toNat))) else .bad
      | none => .bad
    | _, _ => .bad
  else if m = "count" then
    match lstOf st o, as with
    | some xs, [.d y] => if flatD y = true ∧ xs.all flatD = true then .ok (.d (.int (xs.countP fun z => eqF z y : Nat))) st else .bad
    | _, _ => .bad
  else if m = "index" then
    match lstOf st o, as with
    | some xs, [.d y] => if flatD y = true ∧ xs.all flatD = true then match xs.findIdx? (fun z => eqF z y) with
      | some j => .ok (.d (.int (j : Nat))) st
      | none => .bad else .bad
    | _, _ => .bad
  else .bad
noncomputable def ixA (a i : A) (st : Stt) : Option A :=
  match i with
  | .d (.int k) => match seqOf st a with
    | some xs => (atI xs k).map .d
    | none => match a with
      | .d (.str x) => if lenOk x.length then (atI x.cps.toList k).map fun c => .d (.str ⟨#[c]⟩) else none
      | .d (.loc l) => (dicOf st l).bind fun kvs => (dget kvs (.inl k)).map .d
      | _ => none
  | _ => none
noncomputable def cutD (xs : List D) (lo hi : Option Int) : List D := (xs.drop (HT.sIx xs.length 0 lo)).take (HT.sIx xs.length xs.length hi - HT.sIx xs.length 0 lo)
noncomputable def slA (a : A) (lo hi : Option Int) (st : Stt) : Option A :=
  match tupOf a with
  | some xs => some (.d (.tup (cutD xs lo hi)))
  | none => (lstOf st a).map fun xs => .l (cutD xs lo hi)
noncomputable def partA (a : A) : Option (Option Int) :=
  match a with
  | .d (.int i) => some (some i)
  | _ => none
structure Its where
  xs : List D
  live : List (Nat × List D) := []
noncomputable def srcA (st : Stt) (a : A) : Option Its :=
  match a with
  | .d (.loc l) => (stLst st l).map fun xs => ⟨xs, [(l, xs)]⟩
  | a => (seqOf st a).map fun xs => ⟨xs, []⟩
noncomputable def liveOk (st : Stt) (ls : List (Nat × List D)) : Bool := ls.all fun p => match stLst st p.1 with
  | some zs => sames zs p.2
  | none => false
noncomputable def rngOk (i : Int) : Bool := decide (-(2 ^ 62) ≤ i ∧ i < 2 ^ 62)
noncomputable def rgOk (a b : Int) : Bool := decide (-(2 ^ 62) ≤ a ∧ a < 2 ^ 62 ∧ -(2 ^ 62) ≤ b ∧ b < 2 ^ 62 ∧ (b - a).toNat ≤ 1000000)
/-- how many unlike ones -/
noncomputable def ndist : List Int → Nat
  | [] => 0
  | x :: r => if x ∈ r then ndist r else ndist r + 1
/-- one of each -/
noncomputable def dedI : List Int → List Int
  | [] => []
  | x :: r => if x ∈ r then dedI r else x :: dedI r
/-- .. in order -/
noncomputable def sortS (is : List Int) : List Int := (dedI is).mergeSort (fun a b => decide (a ≤ b))
noncomputable def rngI (i : Int) (n : Nat) : List D := (List.range n).map fun k => .int (i + (k : Nat))
noncomputable def enumI (k : Nat) : List D → List D
  | [] => []
  | x :: r => .tup [.int k, x] :: enumI (k + 1) r
mutual
noncomputable def asgD : Tg → D → Env → Option Env
  | .nm i, x, e => if i < e.length then some (e.set i (some x)) else none
  | .tup ts, x, e => match x with
    | .tup xs => asgDs ts xs e
    | _ => none
noncomputable def asgDs : Tgs → List D → Env → Option Env
  | .nil, [], e => some e
  | .cons t r, x :: xs, e => (asgD t x e).bind (asgDs r xs)
  | _, _, _ => none
end
noncomputable def asgA (t : Tg) (a : A) (e : Env) (st : Stt) : Rs Env :=
  match t with
  | .nm i => (allocA a st).bind fun x st => ofO (asgD (.nm i) x e) st
  | .tup ts => match seqOf st a with
    | some xs => ofO (asgDs ts xs e) st
    | none => .bad
mutual
/-- data without places and exceptions -/
noncomputable def still : D → Bool
  | .non => true
  | .bl _ => true
  | .int _ => true
  | .str _ => true
  | .tup xs => stills xs
  | .obj _ => true
  | _ => false
noncomputable def stills : List D → Bool
  | [] => true
  | x :: r => still x && stills r
end
/-- what a lambda keeps -/
noncomputable def capsOf (env : Env) : List Nat → Option (List D)
  | [] => some []
  | i :: r => match env[i]? with
    | some (some d) => if still d = true then (capsOf env r).map (d :: ·) else none
    | _ => none
mutual
/-- .. with what stands in the store, by its place -/
noncomputable def still0 : D → Bool
  | .non => true
  | .bl _ => true
  | .int _ => true
  | .str _ => true
  | .tup xs => stills0 xs
  | .obj _ => true
  | .loc _ => true
  | _ => false
noncomputable def stills0 : List D → Bool
  | [] => true
  | x :: r => still0 x && stills0 r
end
noncomputable def capsOf0 (env : Env) : List Nat → Option (List D)
  | [] => some []
  | i :: r => match env[i]? with
    | some (some d) => if still0 d = true then (capsOf0 env r).map (d :: ·) else none
    | _ => none
/-- the names of a parameter that holds a lambda -/
noncomputable def askB (x : Str) : Bool := x == ("asked" : Str) || x == ("_law_call" : Str)
/-- the first one with the least key -/
noncomputable def minGo (key : D → Stt → Rs Int) : List D → D → Int → Stt → Rs D
  | [], b, _, st => .ok b st
  | z :: r, b, kb, st => match key z st with
    | .ok kz st => if kz < kb then minGo key r z kz st else minGo key r b kb st
    | _ => .bad
noncomputable def keyI (r : Rs A) : Rs Int := r.bind fun k st => match k with
  | .d (.int i) => .ok i st
  | _ => .bad
noncomputable def minTop (key : D → Stt → Rs Int) (xs : List D) (st : Stt) : Rs D := match xs with
  | y :: ys => match key y st with
    | .ok ky st => minGo key ys y ky st
    | _ => .bad
  | [] => .bad
/-- the keys, one behind the other -/
noncomputable def keysGo (key : D → Stt → Rs Int) : List D → Stt → Rs (List Int)
  | [], st => .ok [] st
  | x :: r, st => match key x st with
    | .ok k st => match keysGo key r st with
      | .ok ks st => .ok (k :: ks) st
      | _ => .bad
    | _ => .bad
/-- the order of the keys; alike ones stay as they stand -/
noncomputable def srtN (ks : List Int) : List Nat := (List.range ks.length).mergeSort fun i j => decide (ks.getD i 0 ≤ ks.getD j 0)
noncomputable def srtBy (ks : List Int) (xs : List D) : List D := (srtN ks).map fun i => xs.getD i .non
/-- what is sorted by keys: the numbers below one, or a list -/
noncomputable def srtI (rg : Bool) (x : A) (st : Stt) : Option (List D) :=
  if rg = true then (match x with
    | .d (.int i) => if rgOk 0 i = true then some (rngI 0 i.toNat) else none
    | _ => none)
  else (lstOf st x).bind fun xs => if lenOk xs.length = true then some xs else none
noncomputable def wipeE (e : Env) : List Nat → Env
  | [] => e
  | i :: r => (wipeE e r).set i none
mutual
/-- the slots that a target stores -/
noncomputable def slots : Tg → List Nat
  | .nm i => [i]
  | .tup ts => slotss ts
noncomputable def slotss : Tgs → List Nat
  | .nil => []
  | .cons t r => slots t ++ slotss r
end
/-- raise: which are told, and what comes of it -/
noncomputable def raiB (G : Gam) (c : Str) : Es → Bool
  | .nil => G.xc c
  | .cons _ .nil => G.xr c
  | _ => false
noncomputable def raiK (c : Str) : Es → List D → Env → Stt → Rf
  | .nil, [], e, st => .exc c [] e st
  | .cons _ .nil, [y], e, st => .exc c [y] e st
  | _, _, _, _ => .bad
/-- e.ring -/
noncomputable def ringK (G : Gam) (x : A) (st : Stt) : Rs A := match x with
  | .d (.exn c [r]) => if G.xr c = true then .ok (.d r) st else .bad
  | _ => .bad
noncomputable def lcGo (live : List (Nat × List D)) (step : D → Stt → Rs (Option D)) : List D → Stt → Rs (List D)
  | [], st => if liveOk st live = true then .ok [] st else .bad
  | x :: r, st => if liveOk st live = true then
      match step x st with
      | .ok y st => match lcGo live step r st with
        | .ok ys st => .ok (match y with
          | some z => z :: ys
          | none => ys) st
        | _ => .bad
      | _ => .bad
    else .bad
mutual
noncomputable def evA (G : Gam) (env : Env) : Ex → Stt → Rs A
  | .v i, st => match env[i]? with
    | some (some x) => .ok (.d x) st
    | _ => .bad
  | .c x, st => .ok (.d x) st
  | .g x, st => match G.gc x with
    | some d => .ok (.d d) st
    | none => if (G.fn x).isSome = true then .ok (.d (.obj x)) st else .bad
  | .bin op a b, st => (evA G env a st).bind fun x st => (evA G env b st).bind fun y st => binA op x y st
  | .neg a, st => (evA G env a st).bind fun x st => match x with
    | .d (.int i) => .ok (.d (.int (-i))) st
    | _ => .bad
  | .nt a, st => (evA G env a st).bind fun x st => (truA x st).bind fun b st => .ok (.d (.bl (!b))) st
  | .and es, st => evAnd G env es st
  | .or es, st => evOr G env es st
  | .cmp a op b, st => (evA G env a st).bind fun x st => (evA G env b st).bind fun y st => ofO ((cmpA op x y st).map fun r => .d (.bl r)) st
  | .cmp2 a op b op2 c, st => (evA G env a st).bind fun x st => (evA G env b st).bind fun y st => (ofO (cmpA op x y st) st).bind fun r st =>
    if r = true then (evA G env c st).bind fun z st => ofO ((cmpA op2 y z st).map fun r => .d (.bl r)) st else .ok (.d (.bl false)) st
  | .call f es, st => match G.fn f with
    | some F => (evEs G env es st).bind fun xs st => (F xs st).bind fun y st => .ok (.d y) st
    | none => .bad
  | .callv i es, st => match env[i]? with
    | some (some (.obj f)) => match G.fn f with
      | some F => (evEs G env es st).bind fun xs st => (F xs st).bind fun y st => .ok (.d y) st
      | none => .bad
    | _ => .bad
  | .bi f es, st => (evAs G env es st).bind fun xs st => biA f xs st
  | .mt m o es, st => (evA G env o st).bind fun x st => if rcv m x st = true then (evAs G env es st).bind fun ys st => mtA m x ys st else .bad
  | .isi a cs, st => (evA G env a st).bind fun x st => ofO ((isiA G st x cs).map fun r => .d (.bl r)) st
  | .ix a i, st => (evA G env a st).bind fun x st => (evA G env i st).bind fun y st => ofO (ixA x y st) st
  | .sl a lo hi, st => (evA G env a st).bind fun x st => (evO G env lo st).bind fun l st => (evO G env hi st).bind fun h st => ofO (slA x l h st) st
  | .tup es, st => (evEs G env es st).bind fun xs st => if lenOk xs.length = true then .ok (.d (.tup xs)) st else .bad
  | .lst es, st => (evEs G env es st).bind fun xs st => if lenOk xs.length = true then .ok (.l xs) st else .bad
  | .rev a, st => (evA G env a st).bind fun x st => match tupOf x with
    | some xs => .ok (.d (.tup xs.reverse)) st
    | none => match lstOf st x with
      | some xs => .ok (.l xs.reverse) st
      | none => .bad
  | .cmp3 a op b op2 c op3 d, st => (evA G env a st).bind fun x st => (evA G env b st).bind fun y st => (ofO (cmpA op x y st) st).bind fun r st =>
    if r = true then (evA G env c st).bind fun z st => (ofO (cmpA op2 y z st) st).bind fun r st =>
      if r = true then (evA G env d st).bind fun u st => ofO ((cmpA op3 z u st).map fun r => .d (.bl r)) st else .ok (.d (.bl false)) st
    else .ok (.d (.bl false)) st
  | .nset a, st => (evA G env a st).bind fun x st => ofO ((seqOf st x).bind fun xs => (intsOf xs).bind fun is => if is.length ≤ 1000 then some (.d (.int (ndist is))) else none) st
  | .sset a, st => (evA G env a st).bind fun x st => ofO ((tupOf x).bind fun xs => (intsOf xs).bind fun is => if is.length < 64 then some (.l ((sortS is).map .int)) else none) st
  | .rgl t a b, st => (evA G env a st).bind fun x st => (evO G env b st).bind fun y st => match x with
    | .d (.int i) => match y with
      | none => if rgOk 0 i = true then .ok (if t = true then .d (.tup (rngI 0 i.toNat)) else .l (rngI 0 i.toNat)) st else .bad
      | some j => if rgOk i j = true then .ok (if t = true then .d (.tup (rngI i (j - i).toNat)) else .l (rngI i (j - i).toNat)) st else .bad
    | _ => .bad
  | .dic1 k d, st => .ok (.d (.loc st.length)) (st ++ [.dic [(Sum.inl k, d)]])
  | .dict0, st => .ok (.d (.loc st.length)) (st ++ [.dic []])
  | .dicE k v, st => (evA G env k st).bind fun x st => (evA G env v st).bind fun y st => (allocA y st).bind fun z st => match x with
    | .d (.int i) => .ok (.d (.loc st.length)) (st ++ [.dic [(Sum.inl i, z)]])
    | _ => .bad
  | .lc elt t it ifs own, st => (evIt G env it st).bind fun I st =>
    (lcGo I.live (fun x st => (ofO (asgD t x (wipeE env own)) st).bind fun e2 st =>
      (match ifs with
        | .no => .ok true st
        | .so c => (evA G e2 c st).bind truA : Rs Bool).bind fun b st => if b = true then (evA G e2 elt st).bind fun y st => (allocA y st).bind fun z st => .ok (some z) st else .ok none st) I.xs st).bind fun ys st => if lenOk I.xs.length = true then .ok (.l ys) st else .bad
  | .ife t a b, st => (evA G env t st).bind fun x st => (truA x st).bind fun r st => if r = true then evA G env a st else evA G env b st
  | .lamc f caps body es, st => match capsOf env caps, G.hf f with
    | some cs, some FH => (evEs G env es st).bind fun xs st => (FH (fun ys st => match ys with
      | [y] => (evA G (some y :: cs.map some) body st).bind allocA
      | _ => .bad) xs st).bind fun y st => .ok (.d y) st
    | _, _ => .bad
  | .lam0 f caps body, st => match capsOf0 env caps, G.hf f with
    | some cs, some FH => (FH (fun ys st => match ys with
      | [] => (evA G (cs.map some) body st).bind allocA
      | _ => .bad) [] st).bind fun y st => .ok (.d y) st
    | _, _ => .bad
  | .ring a, st => (evA G env a st).bind fun x st => ringK G x st
  | .maxd a k, st => (evA G env a st).bind fun x st => ofO ((lstOf st x).bind fun xs => (intsOf xs).map fun is => .d (.int ((maxI is).getD k))) st
  | .minl caps body a, st => (evA G env a st).bind fun x st => match capsOf env caps, tupOf x with
    | some cs, some xs => if lenOk xs.length = true then (minTop (fun y st => keyI (evA G (some y :: cs.map some) body st)) xs st).bind fun y st => .ok (.d y) st else .bad
    | _, _ => .bad
  | .srtk rg caps body a, st => (evA G env a st).bind fun x st => match capsOf0 env caps, srtI rg x st with
    | some cs, some xs => (keysGo (fun y st => keyI (evA G (some y :: cs.map some) body st)) xs st).bind fun ks st => .ok (.l (srtBy ks xs)) st
    | _, _ => .bad
noncomputable def evAnd (G : Gam) (env : Env) : Es → Stt → Rs A
  | .nil, _ => .bad
  | .cons a r, st => match r with
    | .nil => evA G env a st
    | .cons _ _ => (evA G env a st).bind fun x st => (truA x st).bind fun t st => if t = true then evAnd G env r st else .ok x st
noncomputable def evOr (G : Gam) (env : Env) : Es → Stt → Rs A
  | .nil, _ => .bad
  | .cons a r, st => match r with
    | .nil => evA G env a st
    | .cons _ _ => (evA G env a st).bind fun x st => (truA x st).bind fun t st => if t = true then .ok x st else evOr G env r st
noncomputable def evEs (G : Gam) (env : Env) : Es → Stt → Rs (List D)
  | .nil, st => .ok [] st
  | .cons a r, st => (evA G env a st).bind fun x st => (allocA x st).bind fun y st => (evEs G env r st).bind fun ys st => .ok (y :: ys) st
noncomputable def evAs (G : Gam) (env : Env) : Es → Stt → Rs (List A)
  | .nil, st => .ok [] st
  | .cons a r, st => (evA G env a st).bind fun x st => (evAs G env r st).bind fun ys st => .ok (x :: ys) st
noncomputable def evO (G : Gam) (env : Env) : Eo → Stt → Rs (Option Int)
  | .no, st => .ok none st
  | .so e, st => (evA G env e st).bind fun x st => ofO (partA x) st
noncomputable def evIt (G : Gam) (env : Env) : It → Stt → Rs Its
  | .val a, st => (evA G env a st).bind fun x st => ofO (srcA st x) st
  | .rng a, st => (evA G env a st).bind fun x st => match x with
    | .d (.int n) => if rngOk n = true then .ok ⟨rngI 0 n.toNat, []⟩ st else .bad
    | _ => .bad
  | .rng2 a b, st => (evA G env a st).bind fun x st => (evA G env b st).bind fun y st => match x, y with
    | .d (.int i), .d (.int j) => if rngOk i = true ∧ rngOk j = true then .ok ⟨rngI i (j - i).toNat, []⟩ st else .bad
    | _, _ => .bad
  | .zip a b, st => (evA G env a st).bind fun x st => (evA G env b st).bind fun y st => match srcA st x, srcA st y with
    | some I, some J => .ok ⟨List.zipWith (fun u w => .tup [u, w]) I.xs J.xs, I.live ++ J.live⟩ st
    | _, _ => .bad
  | .enum a, st => (evA G env a st).bind fun x st => match srcA st x with
    | some I => .ok ⟨enumI 0 I.xs, I.live⟩ st
    | none => .bad
end
noncomputable def evE (G : Gam) (env : Env) (e : Ex) (st : Stt) : Rs D := (evA G env e st).bind allocA
noncomputable def tst (G : Gam) (env : Env) (e : Ex) (st : Stt) : Rs Bool := (evA G env e st).bind truA
noncomputable def forGo (live : List (Nat × List D)) (tg : Tg) (body : Env → Stt → Rf) : List D → Env → Stt → Rf
  | [], e, st => if liveOk st live = true then .ok .nx e st else .bad
  | x :: r, e, st => if liveOk st live = true then
      match asgD tg x e with
      | some e => match body e st with
        | .ok .nx e st => forGo live tg body r e st
        | .ok .ct e st => forGo live tg body r e st
        | .ok .bk e st => .ok .nx e st
        | r => r
      | none => .bad
    else .bad
noncomputable def whlN (t : Env → Stt → Rs Bool) (body : Env → Stt → Rf) : Nat → Env → Stt → Option Rf
  | 0, _, _ => none
  | n + 1, e, st => match t e st with
    | .ok true st => match body e st with
      | .ok .nx e st => whlN t body n e st
      | .ok .ct e st => whlN t body n e st
      | .ok .bk e st => some (.ok .nx e st)
      | r => some r
    | .ok false st => some (.ok .nx e st)
    | .exc c fs st => some (.exc c fs e st)
    | .bad => some .bad
open Classical in
noncomputable def whl (t : Env → Stt → Rs Bool) (body : Env → Stt → Rf) (e : Env) (st : Stt) : Rf :=
  if h : ∃ n, (whlN t body n e st).isSome = true then (whlN t body (Classical.choose h) e st).getD .bad else .bad
mutual
noncomputable def evS (G : Gam) : Sx → Env → Stt → Rf
  | .asg t x, e, st => (evA G e x st).then e fun a st => match asgA t a e st with
    | .ok e st => .ok .nx e st
    | _ => .bad
  | .st o i x, e, st => (evE G e x st).then e fun y st => (evA G e o st).then e fun a st => (evA G e i st).then e fun k st => match a, k with
    | .d (.loc l), .d (.int k) => match stLst st l with
      | some xs => match ixN xs.length k with
        | some j => .ok .nx e (st.set l (.lst (xs.set j y)))
        | none => .bad
      | none => match dicOf st l with
        | some kvs => if lenOk (kvs.length + 1) = true then .ok .nx e (st.set l (.dic (dput kvs (Sum.inl k) y))) else .bad
        | none => .bad
    | _, _ => .bad
  | .ret x, e, st => (evE G e x st).then e fun d st => .ok (.rt d) e st
  | .ret0, e, st => .ok (.rt .non) e st
  | .ex x, e, st => (evA G e x st).then e fun _ st => .ok .nx e st
  | .ife t a b, e, st => (tst G e t st).then e fun r st => if r = true then evSs G a e st else evSs G b e st
  | .for t it b, e, st => (evIt G e it st).then e fun I st => forGo I.live t (fun e st => evSs G b e st) I.xs e st
  | .whl t b, e, st => whl (fun e st => tst G e t st) (fun e st => evSs G b e st) e st
  | .brk, e, st => .ok .bk e st
  | .cont, e, st => .ok .ct e st
  | .pass, e, st => .ok .nx e st
  | .raise c es, e, st => if raiB G c es = true then (evEs G e es st).then e fun xs st => raiK c es xs e st else .bad
  | .try b c i h, e, st => match evSs G b e st with
    | .exc c' fs e' st' => match G.sub c' c with
      | some true => match evSs G h (e'.set i (some (.exn c' fs))) st' with
        | .ok .nx e2 s2 => .ok .nx (e2.set i none) s2
        | .ok (.rt d) e2 s2 => .ok (.rt d) e2 s2
        | _ => .bad
      | some false => .exc c' fs e' st'
      | none => .bad
    | r => r
  | .nev, _, _ => .bad
noncomputable def evSs (G : Gam) : Ss → Env → Stt → Rf
  | .nil, e, st => .ok .nx e st
  | .cons s r, e, st => (evS G s e st).then fun e st => evSs G r e st
end
/-- a def's body, from its arguments -/
noncomputable def evF (G : Gam) (m n : Nat) (b : Ss) (xs : List D) (st : Stt) : Rs D :=
  if xs.length = m then
    match evSs G b (xs.map some ++ List.replicate (n - xs.length) none) st with
    | .ok .nx _ st => .ok .non st
    | .ok (.rt d) _ st => .ok d st
    | .exc c fs _ st => .exc c fs st
    | _ => .bad
  else .bad
end Ev
namespace Ev
open PySem PySem.Spec PyProof.Rows L2
/-- the defs that make a lambda -/
noncomputable def lamDefs : List Str := ["least_of", "cheapest_of", "pieces_on", "moved_forests", "moved_joinings", "moved_cuts", "_law_good", "_law_none", "law", "cheapest", "least_by", "_law_least", "_law_things", "_law_cheapest", "_law_some_least", "_law_others", "_law_odd_pieces"]
/-- a def's table, and the name that its lambdas bear -/
noncomputable def tabAt (K : PySem.W.Frag) (mg : Str → Option Value) (x : Str) : Option (Addr × Str) := match mg x with
  | some (.ref f) => match K.lookup f with
    | some ⟨_, _, .func fd, _⟩ => match fd.code with
      | .ref c => match K.lookup c with
        | some ⟨_, _, .fields vs, _⟩ => match (vs[11]? : Option Value) with
          | some (.ref P) => some (P, fd.qualname ++ ".<locals>." ++ "<lambda>")
          | _ => none
        | _ => none
      | _ => none
    | _ => none
  | _ => none
noncomputable def lamTabs (K : PySem.W.Frag) (mg : Str → Option Value) : List (Addr × Str) := lamDefs.filterMap (tabAt K mg)
noncomputable def TabsK (K : PySem.W.Frag) (mg : Str → Option Value) (H : Hp) : Prop := LamX.Tabs (lamTabs K mg) H
section
variable {K : PySem.W.Frag} {mg : Str → Option Value} {H H' : Hp} {p : Addr} {o u : HO}
theorem TabsK.ext (t : TabsK K mg H) (e : ∀ b o, H b = some o → H' b = some o) : TabsK K mg H' := LamX.Tabs.ext t e
theorem TabsK.poke (t : TabsK K mg H) (h : H p = some o) (n1 : ∀ ps, o ≠ .tbl ps) (n2 : ∀ φ, o ≠ .ext φ) : TabsK K mg (upd H p u) := fun z hz => by
  obtain ⟨ps, a1, a2, a3⟩ := t z hz
  refine ⟨ps, ?_, a2, fun pos cv hc => ?_⟩
  · rw [upd_ne (fun z => ?_)]
    · exact a1
    · rw [z, h] at a1; exact n1 _ (Option.some.inj a1)
  · obtain ⟨c, b1, b2⟩ := a3 pos cv hc
    refine ⟨c, b1, ?_⟩
    rw [upd_ne (fun z => ?_)]
    · exact b2
    · rw [z, h] at b2; exact n2 _ (Option.some.inj b2)
end
noncomputable def SqR (K : PySem.W.Frag) (H : Hp) (a : Addr) (xs : List V) : Prop :=
  (∃ o, H a = some (.frz o (.lst xs))) ∨
    ∃ (o : Obj) (its : Array Value) (n : Nat), K.lookup a = some o ∧ o.cls = .type "list" ∧ o.dict = none ∧ o.data = .seq its n ∧ its.size ≤ sizeLine ∧ Vals xs its.toList
theorem SqR.l {K : PySem.W.Frag} {H : Hp} {a : Addr} {xs : List V} (h : SqR K H a xs) : SqL K H a xs := by
  rcases h with h | h
  · exact .inl (.inr h)
  · exact .inr h
/-- an exception that was caught: its class and its dict -/
noncomputable def XoP (a : Addr) (cls : Value) (d : Option Addr) : Heap → Prop := fun h => ∃ oe vs, h.get? a = some oe ∧ Zc cls d oe ∧ oe.data = .fields vs
section
variable (K : PySem.W.Frag) (mg : Str → Option Value)
mutual
inductive RD (H : Hp) (ρ : List Addr) : D → V → Prop
  | non : RD H ρ .non .non
  | bl (b : Bool) : RD H ρ (.bl b) (.bl b)
  | int (i : Int) : RD H ρ (.int i) (.int i)
  | str (x : Str) : RD H ρ (.str x) (.str x)
  | ty (n : String) : RD H ρ (.ty n) (.ty n)
  | tup {a : Addr} {vs : List V} {xs : List D} : SqT K H a vs → RDs H ρ xs vs → RD H ρ (.tup xs) (.ref a)
  | rol {a : Addr} {vs : List V} {xs : List D} : SqR K H a vs → RDs H ρ xs vs → RD H ρ (.rol xs) (.ref a)
  | loc {l : Nat} {a : Addr} : ρ[l]? = some a → RD H ρ (.loc l) (.ref a)
  | obj {x : Str} {a : Addr} : mg x = some (.ref a) → RD H ρ (.obj x) (.ref a)
  | exn0 {c : Str} {C a : Addr} : mg c = some (.ref C) → H a = some (.ext (XoP a (.ref C) none)) → RD H ρ (.exn c []) (.ref a)
  | exn1 {c : Str} {C a dd : Addr} {r : D} {v : V} : mg c = some (.ref C) → H a = some (.ext (XoP a (.ref C) (some dd))) → H dd = some (.xd [(("ring" : Str), v)]) → RD H ρ r v → RD H ρ (.exn c [r]) (.ref a)
inductive RDs (H : Hp) (ρ : List Addr) : List D → List V → Prop
  | nil : RDs H ρ [] []
  | cons {x : D} {v : V} {xs : List D} {vs : List V} : RD H ρ x v → RDs H ρ xs vs → RDs H ρ (x :: xs) (v :: vs)
end
inductive RKs (H : Hp) (ρ : List Addr) {κ : Type} : List (κ × D) → List (κ × V) → Prop
  | nil : RKs H ρ [] []
  | cons {k : κ} {x : D} {v : V} {xs : List (κ × D)} {vs : List (κ × V)} : RD K mg H ρ x v → RKs H ρ xs vs → RKs H ρ ((k, x) :: xs) ((k, v) :: vs)
inductive RO (H : Hp) (ρ : List Addr) : Ob → Addr → Prop
  | lst {a : Addr} {xs : List D} {vs : List V} : H a = some (.lst vs) → RDs K mg H ρ xs vs → RO H ρ (.lst xs) a
  | dic {a : Addr} {kvs : List (Key × D)} {vs : List (Key × V)} : H a = some (.dK vs) → RKs K mg H ρ kvs vs → RO H ρ (.dic kvs) a
  | ins {a C dx : Addr} {c : Str} {fs : List (Str × D)} {vs : List (Str × V)} : mg c = some (.ref C) → H a = some (.ins C dx vs) → RKs K mg H ρ fs vs → RO H ρ (.ins c fs) a
structure RS (H : Hp) (ρ : List Addr) (st : Stt) : Prop where
  tab : TabsK K mg H
  len : ρ.length = st.length
  nd : ρ.Nodup
  at' : ∀ (l : Nat) (a : Addr) (o : Ob), ρ[l]? = some a → st[l]? = some o → RO K mg H ρ o a
end
/-- what never changes -/
noncomputable def Imm : HO → Prop
  | .tup _ => True
  | .frz _ _ => True
  | .ext _ => True
  | .xd _ => True
  | _ => False
structure Ext (ρ : List Addr) (H : Hp) (ρ' : List Addr) (H' : Hp) : Prop where
  pre : ∃ r, ρ' = ρ ++ r
  new : ∀ a ∈ ρ', a ∈ ρ ∨ H a = none
  out : ∀ a o, H a = some o → a ∉ ρ → (∀ ps, o ≠ .tbl ps) → H' a = some o
  imm : ∀ a o, H a = some o → Imm o → H' a = some o
  kept : ∀ a, H' a = none → H a = none
  tb : ∀ a ps, H a = some (.tbl ps) → ∃ more, H' a = some (.tbl (ps ++ more))
section
variable {K : PySem.W.Frag} {mg : Str → Option Value} {ρ ρ' ρ1 ρ2 : List Addr} {H H' H1 H2 : Hp} {a : Addr} {st : Stt}
theorem Ext.refl (ρ : List Addr) (H : Hp) : Ext ρ H ρ H := ⟨⟨[], by simp⟩, fun _ h => .inl h, fun _ _ h _ _ => h, fun _ _ h _ => h, fun _ h => h, fun _ ps h => ⟨#[], by simpa using h⟩⟩
theorem Ext.trans (e : Ext ρ H ρ1 H1) (f : Ext ρ1 H1 ρ2 H2) : Ext ρ H ρ2 H2 where
  pre := by
    obtain ⟨r, rfl⟩ := e.pre
    obtain ⟨q, rfl⟩ := f.pre
    exact ⟨r ++ q, by simp⟩
  new := fun a h => by
    rcases f.new a h with h | h
    · exact e.new a h
    · exact .inr (e.kept a h)
  out := fun a o h n nt => f.out a o (e.out a o h n nt) (fun m => by
    rcases e.new a m with q | q
    · exact n q
    · rw [h] at q; cases q) nt
  imm := fun a o h i => f.imm a o (e.imm a o h i) i
  kept := fun a h => e.kept a (f.kept a h)
  tb := fun a ps h => by
    obtain ⟨m, h1⟩ := e.tb a ps h
    obtain ⟨m2, h2⟩ := f.tb a _ h1
    exact ⟨m ++ m2, by rw [h2, Array.append_assoc]⟩
theorem Ext.get (e : Ext ρ H ρ' H') {l : Nat} (h : ρ[l]? = some a) : ρ'[l]? = some a := by
  obtain ⟨r, rfl⟩ := e.pre
  rw [List.getElem?_append_left (List.getElem?_eq_some_iff.mp h).1]
  exact h
theorem Ext.rd (e : Ext ρ H ρ' H') {u : HO} (h : Rd H a u) (hi : Imm u) : Rd H' a u := by
  rcases h with h | ⟨o, h⟩
  · exact .inl (e.imm a _ h hi)
  · exact .inr ⟨o, e.imm a _ h trivial⟩
theorem Ext.sqT (e : Ext ρ H ρ' H') {xs : List V} (h : SqT K H a xs) : SqT K H' a xs := by
  rcases h with h | h
  · exact .inl (e.rd h trivial)
  · exact .inr h
theorem Ext.sqR (e : Ext ρ H ρ' H') {xs : List V} (h : SqR K H a xs) : SqR K H' a xs := by
  rcases h with ⟨o, h⟩ | h
  · exact .inl ⟨o, e.imm a _ h trivial⟩
  · exact .inr h
mutual
theorem RD.mono (e : Ext ρ H ρ' H') : ∀ {x : D} {v : V}, RD K mg H ρ x v → RD K mg H' ρ' x v
  | _, _, .non => .non
  | _, _, .bl b => .bl b
  | _, _, .int i => .int i
  | _, _, .str x => .str x
  | _, _, .ty n => .ty n
  | _, _, .tup h t => .tup (e.sqT h) (RDs.mono e t)
  | _, _, .rol h t => .rol (e.sqR h) (RDs.mono e t)
  | _, _, .loc h => .loc (e.get h)
  | _, _, .obj h => .obj h
  | _, _, .exn0 h1 h2 => .exn0 h1 (e.imm _ _ h2 trivial)
  | _, _, .exn1 h1 h2 h3 h4 => .exn1 h1 (e.imm _ _ h2 trivial) (e.imm _ _ h3 trivial) (RD.mono e h4)
theorem RDs.mono (e : Ext ρ H ρ' H') : ∀ {xs : List D} {vs : List V}, RDs K mg H ρ xs vs → RDs K mg H' ρ' xs vs
  | _, _, .nil => .nil
  | _, _, .cons h t => .cons (RD.mono e h) (RDs.mono e t)
end
theorem RKs.mono (e : Ext ρ H ρ' H') {κ : Type} {xs : List (κ × D)} {vs : List (κ × V)} (h : RKs K mg H ρ xs vs) : RKs K mg H' ρ' xs vs := by
  induction h with
  | nil => exact .nil
  | cons h _ ih => exact .cons (h.mono e) ih
theorem RDs.length {xs : List D} {vs : List V} (h : RDs K mg H ρ xs vs) : xs.length = vs.length := by
  induction xs generalizing vs with
  | nil => cases h; rfl
  | cons x xs ih => cases h with
    | cons _ t => simp [ih t]
theorem RDs.get {xs : List D} {vs : List V} (h : RDs K mg H ρ xs vs) {i : Nat} {x : D} (hx : xs[i]? = some x) : ∃ v, vs[i]? = some v ∧ RD K mg H ρ x v := by
  induction xs generalizing vs i with
  | nil => simp at hx
  | cons y ys ih => cases h with
    | cons a t =>
      cases i with
      | zero => simp at hx; subst hx; exact ⟨_, rfl, a⟩
      | succ i => exact ih t (by simpa using hx)
theorem RDs.append {xs ys : List D} {vs ws : List V} (h : RDs K mg H ρ xs vs) (g : RDs K mg H ρ ys ws) : RDs K mg H ρ (xs ++ ys) (vs ++ ws) := by
  induction xs generalizing vs with
  | nil => cases h; exact g
  | cons x xs ih => cases h with
    | cons a t => exact .cons a (ih t)
theorem RDs.set {xs : List D} {vs : List V} {x : D} {v : V} (h : RDs K mg H ρ xs vs) (r : RD K mg H ρ x v) : ∀ i, RDs K mg H ρ (xs.set i x) (vs.set i v) := by
  induction xs generalizing vs with
  | nil => cases h; intro i; exact .nil
  | cons y ys ih => cases h with
    | cons a t =>
      intro i
      cases i with
      | zero => exact .cons r t
      | succ i => exact .cons a (ih t i)
theorem RDs.reverse {xs : List D} {vs : List V} (h : RDs K mg H ρ xs vs) : RDs K mg H ρ xs.reverse vs.reverse := by
  induction xs generalizing vs with
  | nil => cases h; exact .nil
  | cons x xs ih => cases h with
    | cons a t => rw [List.reverse_cons, List.reverse_cons]; exact (ih t).append (.cons a .nil)
theorem RDs.eraseIdx {xs : List D} {vs : List V} (h : RDs K mg H ρ xs vs) : ∀ i, RDs K mg H ρ (xs.eraseIdx i) (vs.eraseIdx i) := by
  induction xs generalizing vs with
  | nil => cases h; intro i; exact .nil
  | cons x xs ih => cases h with
    | cons a t =>
      intro i
      cases i with
      | zero => exact t
      | succ i => exact .cons a (ih t i)
theorem RDs.take {xs : List D} {vs : List V} (h : RDs K mg H ρ xs vs) : ∀ n, RDs K mg H ρ (xs.take n) (vs.take n) := by
  induction xs generalizing vs with
  | nil => cases h; intro n; simpa using RDs.nil
  | cons y ys ih => cases h with
    | cons a t =>
      intro n
      cases n with
      | zero => exact .nil
      | succ n => exact .cons a (ih t n)
theorem RDs.drop {xs : List D} {vs : List V} (h : RDs K mg H ρ xs vs) : ∀ n, RDs K mg H ρ (xs.drop n) (vs.drop n) := by
  induction xs generalizing vs with
  | nil => cases h; intro n; simpa using RDs.nil
  | cons y ys ih => cases h with
    | cons a t =>
      intro n
      cases n with
      | zero => exact .cons a t
      | succ n => exact ih t n
theorem RDs.flat {xs : List D} {vs : List V} (h : RDs K mg H ρ xs vs) : ∀ n, RDs K mg H ρ (List.replicate n xs).flatten (List.replicate n vs).flatten := by
  intro n
  induction n with
  | zero => exact .nil
  | succ n ih => rw [List.replicate_succ, List.replicate_succ, List.flatten_cons, List.flatten_cons]; exact h.append ih
/-- what a list's place knows -/
theorem RS.lst (s : RS K mg H ρ st) {l : Nat} {xs : List D} (h : ρ[l]? = some a) (hl : stLst st l = some xs) : ∃ vs, H a = some (.lst vs) ∧ RDs K mg H ρ xs vs := by
  unfold stLst at hl
  split at hl
  · rename_i ys e
    cases hl
    cases s.at' l a _ h e with
    | lst h1 h2 => exact ⟨_, h1, h2⟩
  · cases hl
theorem RS.there (s : RS K mg H ρ st) (h : a ∈ ρ) : ∃ o, H a = some o ∧ ¬ Imm o ∧ ∀ ps, o ≠ .tbl ps := by
  obtain ⟨l, hl, e⟩ := List.mem_iff_getElem.mp h
  have hl' : l < st.length := by rw [← s.len]; exact hl
  have this := s.at' l a st[l] (by rw [List.getElem?_eq_getElem hl, e]) (List.getElem?_eq_getElem hl')
  generalize st[l] = ob at this
  cases this with
  | lst h1 _ => exact ⟨_, h1, fun z => z, fun _ z => by cases z⟩
  | dic h1 _ => exact ⟨_, h1, fun z => z, fun _ z => by cases z⟩
  | ins _ h1 _ => exact ⟨_, h1, fun z => z, fun _ z => by cases z⟩
theorem RS.fresh (s : RS K mg H ρ st) (h : H a = none) : a ∉ ρ := fun m => by
  obtain ⟨o, e, _, _⟩ := s.there m
  rw [h] at e; cases e
theorem RO.mono (e : Ext ρ H ρ' H') {o : Ob} (h : RO K mg H ρ o a) (k : H' a = H a) : RO K mg H' ρ' o a := by
  cases h with
  | lst h1 h2 => exact .lst (k.trans h1) (h2.mono e)
  | dic h1 h2 => exact .dic (k.trans h1) (h2.mono e)
  | ins h0 h1 h2 => exact .ins h0 (k.trans h1) (h2.mono e)
/-- a new object that nobody names -/
theorem Ext.fresh {p : Addr} {o : HO} (h : H p = none) : Ext ρ H ρ (upd H p o) where
  pre := ⟨[], by simp⟩
  new := fun _ h => .inl h
  out := fun a u q _ _ => by rw [upd_ne (ne_of_none q h)]; exact q
  imm := fun a u q _ => by rw [upd_ne (ne_of_none q h)]; exact q
  kept := fun a q => by
    by_cases e : a = p
    · rw [e]; exact h
    · rw [upd_ne e] at q; exact q
  tb := fun a ps q => ⟨#[], by rw [upd_ne (ne_of_none q h)]; simpa using q⟩
theorem RS.grow (s : RS K mg H ρ st) {p : Addr} {o : HO} (h : H p = none) : RS K mg (upd H p o) ρ st :=
  ⟨s.tab.ext fun b o q => by rw [upd_ne (ne_of_none q h)]; exact q, s.len, s.nd, fun l a u h1 h2 => (s.at' l a u h1 h2).mono (Ext.fresh h) (by
    obtain ⟨w, e, _, _⟩ := s.there (List.mem_of_getElem? h1)
    rw [upd_ne (ne_of_none e h)])⟩
/-- nothing of ours has changed -/
theorem RS.same (s : RS K mg H ρ st) (e : Ext ρ H ρ H') (t : TabsK K mg H') (k : ∀ a ∈ ρ, H' a = H a) : RS K mg H' ρ st :=
  ⟨t, s.len, s.nd, fun l a u h1 h2 => (s.at' l a u h1 h2).mono e (k a (List.mem_of_getElem? h1))⟩
/-- a list gets a name -/
theorem Ext.name (e : Ext ρ H ρ' H') {p : Addr} (h : H p = none) : Ext ρ H (ρ' ++ [p]) H' where
  pre := by
    obtain ⟨r, rfl⟩ := e.pre
    exact ⟨r ++ [p], by simp⟩
  new := fun a m => by
    rcases List.mem_append.mp m with m | m
    · exact e.new a m
    · rw [List.mem_singleton.mp m]; exact .inr h
  out := e.out
  imm := e.imm
  kept := e.kept
  tb := e.tb
theorem RD.name {p : Addr} {x : D} {v : V} (h : RD K mg H ρ x v) : RD K mg H (ρ ++ [p]) x v := by
  have go : ∀ l a, ρ[l]? = some a → (ρ ++ [p])[l]? = some a := fun l a q => by
    rw [List.getElem?_append_left (List.getElem?_eq_some_iff.mp q).1]; exact q
  exact (RD.rec (motive_1 := fun x v _ => RD K mg H (ρ ++ [p]) x v) (motive_2 := fun xs vs _ => RDs K mg H (ρ ++ [p]) xs vs)
    .non .bl .int .str .ty (fun h _ t => .tup h t) (fun h _ t => .rol h t) (fun h => .loc (go _ _ h)) .obj .exn0 (fun h1 h2 h3 _ r => .exn1 h1 h2 h3 r) .nil (fun _ _ a b => .cons a b) h)
theorem RDs.name {p : Addr} {xs : List D} {vs : List V} (h : RDs K mg H ρ xs vs) : RDs K mg H (ρ ++ [p]) xs vs := by
  induction xs generalizing vs with
  | nil => cases h; exact .nil
  | cons x xs ih => cases h with
    | cons a t => exact .cons a.name (ih t)
theorem RKs.name {p : Addr} {κ : Type} {xs : List (κ × D)} {vs : List (κ × V)} (h : RKs K mg H ρ xs vs) : RKs K mg H (ρ ++ [p]) xs vs := by
  induction h with
  | nil => exact .nil
  | cons a _ t => exact .cons a.name t
theorem RO.name {p : Addr} {o : Ob} (h : RO K mg H ρ o a) : RO K mg H (ρ ++ [p]) o a := by
  cases h with
  | lst h1 h2 => exact .lst h1 h2.name
  | dic h1 h2 => exact .dic h1 h2.name
  | ins h0 h1 h2 => exact .ins h0 h1 h2.name
theorem RS.name (s : RS K mg H ρ st) {p : Addr} {o : Ob} (n : p ∉ ρ) (h : RO K mg H ρ o p) : RS K mg H (ρ ++ [p]) (st ++ [o]) where
  tab := s.tab
  len := by simp [s.len]
  nd := by
    rw [List.nodup_append]
    refine ⟨s.nd, by simp, fun a ha b hb => ?_⟩
    rw [List.mem_singleton.mp hb]
    rintro rfl
    exact n ha
  at' := fun l a u h1 h2 => by
    by_cases hl : l < ρ.length
    · rw [List.getElem?_append_left hl] at h1
      rw [List.getElem?_append_left (by rw [← s.len]; exact hl)] at h2
      exact (s.at' l a u h1 h2).name
    · have e : l = ρ.length := by
        have := (List.getElem?_eq_some_iff.mp h1).1
        simp at this
        omega
      subst e
      rw [List.getElem?_append_right (Nat.le_refl _)] at h1
      rw [s.len, List.getElem?_append_right (Nat.le_refl _)] at h2
      simp at h1 h2
      subst h1 h2
      exact h.name
theorem RD.last {p : Addr} (s : RS K mg H ρ st) : RD K mg H (ρ ++ [p]) (.loc st.length) (.ref p) := .loc (by rw [← s.len]; simp)
/-- an object of ours is changed -/
theorem Ext.write (s : RS K mg H ρ st) {p : Addr} {u : HO} (m : p ∈ ρ) : Ext ρ H ρ (upd H p u) where
  pre := ⟨[], by simp⟩
  new := fun _ h => .inl h
  out := fun a o h n _ => by rw [upd_ne (fun e => n (by rw [e]; exact m))]; exact h
  imm := fun a o h i => by
    rw [upd_ne (fun e => ?_)]
    · exact h
    · subst e
      obtain ⟨w, q, k, _⟩ := s.there m
      rw [h] at q; cases q
      exact k i
  kept := fun a h => by
    by_cases e : a = p
    · rw [e, upd_same] at h; cases h
    · rw [upd_ne e] at h; exact h
  tb := fun a ps q => ⟨#[], by
    rw [upd_ne (fun e => ?_)]
    · simpa using q
    · obtain ⟨w, h1, _, h2⟩ := s.there m
      rw [e, h1] at q
      exact h2 ps (Option.some.inj q)⟩
theorem RS.write (s : RS K mg H ρ st) {l : Nat} {p : Addr} {u : HO} {o : Ob} (h : ρ[l]? = some p) (hr : RO K mg (upd H p u) ρ o p) : RS K mg (upd H p u) ρ (st.set l o) where
  tab := by
    obtain ⟨w, q, k, n⟩ := s.there (List.mem_of_getElem? h)
    exact s.tab.poke q n fun φ z => k (by rw [z]; exact True.intro)
  len := by simp [s.len]
  nd := s.nd
  at' := fun k a w h1 h2 => by
    have hl := (List.getElem?_eq_some_iff.mp h).1
    have m := List.mem_of_getElem? h
    by_cases e : k = l
    · subst e
      rw [h] at h1; cases h1
      rw [List.getElem?_set_self (by rw [← s.len]; exact hl)] at h2
      cases h2
      exact hr
    · rw [List.getElem?_set_ne (Ne.symm e)] at h2
      have ne : a ≠ p := fun q => by
        subst q
        exact e ((List.getElem?_inj (List.getElem?_eq_some_iff.mp h1).1 s.nd).mp (h1.trans h.symm))
      exact (s.at' k a w h1 h2).mono (Ext.write s m) (upd_ne ne)
end
end Ev
namespace Ev
open PySem PySem.Spec PyProof.Rows L2
/-- the slots that hold a lambda, where it stands -/
noncomputable abbrev LT := Nat → Option (Addr × List Addr)
/-- none does -/
noncomputable abbrev noL : LT := fun _ => none
variable {L : LT}
section
variable (K : PySem.W.Frag) (mg : Str → Option Value)
inductive RA (H0 H : Hp) (ρ : List Addr) : A → V → Prop
  | d {x : D} {v : V} : RD K mg H ρ x v → RA H0 H ρ (.d x) v
  | l {xs : List D} {a : Addr} {vs : List V} : a ∉ ρ → H0 a = none → H a = some (.lst vs) → RDs K mg H ρ xs vs → RA H0 H ρ (.l xs) (.ref a)
inductive RAs (H0 H : Hp) (ρ : List Addr) : List A → List V → Prop
  | nil : RAs H0 H ρ [] []
  | cons {x : A} {v : V} {xs : List A} {vs : List V} : RA K mg H0 H ρ x v → RAs H0 H ρ xs vs → RAs H0 H ρ (x :: xs) (v :: vs)
noncomputable def REnv (L : LT) (H : Hp) (ρ : List Addr) (e : Env) (σ : L2.St) : Prop := (e.length = σ.length ∧ ∀ i f, L i = some f → σ[i]? = some (some (.ref f.1)) ∧ ∃ t, ρ = f.2 ++ t) ∧ ∀ (i : Nat) (x : D), e[i]? = some (some x) → ∃ v, σ[i]? = some (some v) ∧ RD K mg H ρ x v
noncomputable def RX (H : Hp) (ρ : List Addr) (c : Str) (fs : List D) (cls : Value) (d : Option Addr) : Prop :=
  ∃ C, mg c = some (.ref C) ∧ cls = .ref C ∧ match fs with
    | [] => d = none
    | [r] => ∃ dd v, d = some dd ∧ H dd = some (.xd [(("ring" : Str), v)]) ∧ RD K mg H ρ r v
    | _ => False
noncomputable abbrev Rl (α β : Type) := Hp → Hp → List Addr → α → β → Prop
noncomputable def KR {α β : Type} (rel : Rl α β) (W : WX) (σ : L2.St) (Q : β → Hp → Prop) (H : Hp) (ρ : List Addr) : Rs α → Prop
  | .ok a st => ∀ b H' ρ', Ext ρ H ρ' H' → RS K mg H' ρ' st → rel H H' ρ' a b → Q b H'
  | .exc c fs st => ∀ cls d H' ρ', Ext ρ H ρ' H' → RS K mg H' ρ' st → RX K mg H' ρ' c fs cls d → W cls d σ H'
  | .bad => False
noncomputable abbrev rD : Rl D V := fun _ H ρ x v => RD K mg H ρ x v
noncomputable abbrev rDs : Rl (List D) (List V) := fun _ H ρ x v => RDs K mg H ρ x v
noncomputable abbrev rEq {α : Type} : Rl α α := fun _ _ _ x v => x = v
noncomputable def tR (L : LT) {α β : Type} (rel : Rl α β) (m : Env → Stt → Rs α) (W : WX) : L2.St → Hp → (β → Hp → Prop) → Prop := fun σ H Q =>
  ∃ ρ env st, REnv K mg L H ρ env σ ∧ RS K mg H ρ st ∧ KR K mg rel W σ Q H ρ (m env st)
end
section
variable {K : PySem.W.Frag} {mg : Str → Option Value} {ρ ρ' ρ1 : List Addr} {H H' H1 H0 : Hp} {σ : L2.St} {W : WX} {α β γ δ : Type} {st st' : Stt} {env : Env}
theorem RA.mono (e : Ext ρ H ρ' H') {x : A} {v : V} (h : RA K mg H0 H ρ x v) : RA K mg H0 H' ρ' x v := by
  cases h with
  | d h => exact .d (h.mono e)
  | l h1 h2 h3 h4 => exact .l (fun m => (e.new _ m).elim h1 fun q => by rw [h3] at q; cases q) h2 (e.out _ _ h3 h1 fun ps z => by cases z) (h4.mono e)
theorem RA.anti (e : Ext ρ H0 ρ1 H1) {x : A} {v : V} (h : RA K mg H1 H ρ' x v) : RA K mg H0 H ρ' x v := by
  cases h with
  | d h => exact .d h
  | l h1 h2 h3 h4 => exact .l h1 (e.kept _ h2) h3 h4
theorem RAs.mono (e : Ext ρ H ρ' H') {xs : List A} {vs : List V} (h : RAs K mg H0 H ρ xs vs) : RAs K mg H0 H' ρ' xs vs := by
  induction h with
  | nil => exact .nil
  | cons a _ ih => exact .cons (a.mono e) ih
theorem RAs.anti (e : Ext ρ H0 ρ1 H1) {xs : List A} {vs : List V} (h : RAs K mg H1 H ρ' xs vs) : RAs K mg H0 H ρ' xs vs := by
  induction h with
  | nil => exact .nil
  | cons a _ ih => exact .cons (a.anti e) ih
theorem REnv.mono (h : REnv K mg L H ρ env σ) (e : Ext ρ H ρ' H') : REnv K mg L H' ρ' env σ :=
  ⟨⟨h.1.1, fun i f q => by
    obtain ⟨a, t, rfl⟩ := h.1.2 i f q
    obtain ⟨r, rfl⟩ := e.pre
    exact ⟨a, t ++ r, by simp⟩⟩, fun i x q => let ⟨v, a, b⟩ := h.2 i x q; ⟨v, a, b.mono e⟩⟩
theorem REnv.set (h : REnv K mg L H ρ env σ) {x : D} {v : V} (r : RD K mg H ρ x v) (i : Nat) (hL : L i = none) : REnv K mg L H ρ (env.set i (some x)) (σ.set i (some v)) := by
  refine ⟨⟨by simp [h.1.1], fun j f q => ?_⟩, fun j y q => ?_⟩
  · rw [List.getElem?_set_ne (fun e => by rw [← e, hL] at q; cases q)]
    exact h.1.2 j f q
  by_cases e : j = i
  · subst e
    have hl : j < env.length := by
      have := (List.getElem?_eq_some_iff.mp q).1
      simpa using this
    rw [List.getElem?_set_self hl] at q
    cases q
    exact ⟨v, List.getElem?_set_self (by rw [← h.1.1]; exact hl), r⟩
  · rw [List.getElem?_set_ne (Ne.symm e)] at q
    rw [List.getElem?_set_ne (Ne.symm e)]
    exact h.2 j y q
/-- rel looks at the heap ahead only for what was free there -/
noncomputable def Anti (rel : Rl α β) : Prop := ∀ ρ H ρ1 H1 H' ρ' a b, Ext ρ H ρ1 H1 → rel H1 H' ρ' a b → rel H H' ρ' a b
theorem KR.ext {rel : Rl α β} (hr : Anti rel) {Q : β → Hp → Prop} {m : Rs α} (h : KR K mg rel W σ Q H ρ m) (e : Ext ρ H ρ1 H1) : KR K mg rel W σ Q H1 ρ1 m := by
  cases m with
  | ok a st => exact fun b H' ρ' f s r => h b H' ρ' (e.trans f) s (hr _ _ _ _ _ _ _ _ e r)
  | exc c fs st => exact fun cls d H' ρ' f s r => h cls d H' ρ' (e.trans f) s r
  | bad => exact h
theorem KR.bind {rel : Rl α β} {rel2 : Rl γ δ} {Q : δ → Hp → Prop} {R : β → Hp → Prop} {m : Rs α} {k : α → M γ} (h : KR K mg rel2 W σ Q H ρ (m.bind k))
    (hk : ∀ a st b H1 ρ1, Ext ρ H ρ1 H1 → RS K mg H1 ρ1 st → rel H H1 ρ1 a b → KR K mg rel2 W σ Q H ρ (k a st) → R b H1) : KR K mg rel W σ R H ρ m := by
  cases m with
  | ok a st => exact fun b H' ρ' e s r => hk a st b H' ρ' e s r h
  | exc c fs st => exact h
  | bad => exact h
theorem KR.bindAt {rel : Rl α β} {rel2 : Rl γ δ} {Q : δ → Hp → Prop} {R : β → Hp → Prop} {m : Rs α} {k : α → M γ} (e0 : Ext ρ H ρ1 H1) (h : KR K mg rel2 W σ Q H ρ (m.bind k))
    (hk : ∀ a st b H2 ρ2, Ext ρ1 H1 ρ2 H2 → RS K mg H2 ρ2 st → rel H1 H2 ρ2 a b → KR K mg rel2 W σ Q H ρ (k a st) → R b H2) : KR K mg rel W σ R H1 ρ1 m := by
  cases m with
  | ok a st => exact fun b H' ρ' e s r => hk a st b H' ρ' e s r h
  | exc c fs st => exact fun cls d H' ρ' f s r => h cls d H' ρ' (e0.trans f) s r
  | bad => exact h
theorem KR.imp {rel : Rl α β} {Q R : β → Hp → Prop} {m : Rs α} (h : KR K mg rel W σ Q H ρ m)
    (hk : ∀ a st b H1 ρ1, m = .ok a st → Ext ρ H ρ1 H1 → RS K mg H1 ρ1 st → rel H H1 ρ1 a b → Q b H1 → R b H1) : KR K mg rel W σ R H ρ m := by
  cases m with
  | ok a st => exact fun b H' ρ' e s r => hk a st b H' ρ' rfl e s r (h b H' ρ' e s r)
  | exc c fs st => exact h
  | bad => exact h
theorem anti_A : Anti (RA K mg) := fun _ _ _ _ _ _ _ _ e h => h.anti e
theorem anti_Ds : Anti (rDs K mg) := fun _ _ _ _ _ _ _ _ _ h => h
theorem anti_eq : Anti (rEq (α := α)) := fun _ _ _ _ _ _ _ _ _ h => h
theorem fin_d {Q : V → Hp → Prop} {x : D} {v : V} (h : KR K mg (RA K mg) W σ Q H ρ (.ok (.d x) st)) (s : RS K mg H ρ st) (r : RD K mg H ρ x v) : Q v H :=
  h v H ρ (Ext.refl _ _) s (.d r)
theorem fin_tup {Q : V → Hp → Prop} {xs : List D} {vs : List V} {p : Addr} (h : KR K mg (RA K mg) W σ Q H ρ (.ok (.d (.tup xs)) st)) (s : RS K mg H ρ st) (r : RDs K mg H ρ xs vs) (hp : H p = none) : Q (.ref p) (upd H p (.tup vs)) :=
  h _ _ ρ (Ext.fresh hp) (s.grow hp) (.d (.tup (SqT.of upd_same) (r.mono (Ext.fresh hp))))
theorem fin_lst {Q : V → Hp → Prop} {xs : List D} {vs : List V} {p : Addr} (h : KR K mg (RA K mg) W σ Q H ρ (.ok (.l xs) st)) (s : RS K mg H ρ st) (r : RDs K mg H ρ xs vs) (hp : H p = none) : Q (.ref p) (upd H p (.lst vs)) :=
  h _ _ ρ (Ext.fresh hp) (s.grow hp) (.l (s.fresh hp) hp upd_same (r.mono (Ext.fresh hp)))
/-- what is a list may be read -/
theorem RA.seqL {a : A} {v : V} {xs : List D} (s : RS K mg H ρ st) (r : RA K mg H0 H ρ a v) (h : lstOf st a = some xs) : ∃ p vs, v = .ref p ∧ SqL K H p vs ∧ RDs K mg H ρ xs vs := by
  cases r with
  | d r =>
    cases r with
    | loc q =>
      obtain ⟨vs, h1, h2⟩ := s.lst q h
      exact ⟨_, vs, rfl, .inl (.inl h1), h2⟩
    | rol q t =>
      cases (Option.some.inj h : _ = xs)
      exact ⟨_, _, rfl, q.l, t⟩
    | _ => cases h
  | l h1 h2 h3 h4 =>
    cases (Option.some.inj h : _ = xs)
    exact ⟨_, _, rfl, .inl (.inl h3), h4⟩
theorem RA.seqT {a : A} {v : V} {xs : List D} (r : RA K mg H0 H ρ a v) (h : tupOf a = some xs) : ∃ p vs, v = .ref p ∧ SqT K H p vs ∧ RDs K mg H ρ xs vs := by
  cases r with
  | d r =>
    cases r with
    | tup q t =>
      cases (Option.some.inj h : _ = xs)
      exact ⟨_, _, rfl, q, t⟩
    | _ => cases h
  | l h1 h2 h3 h4 => cases h
theorem RA.seq {a : A} {v : V} {xs : List D} (s : RS K mg H ρ st) (r : RA K mg H0 H ρ a v) (h : seqOf st a = some xs) : ∃ p vs, v = .ref p ∧ (SqL K H p vs ∨ SqT K H p vs) ∧ RDs K mg H ρ xs vs := by
  unfold seqOf at h
  split at h
  · rename_i ys e
    cases h
    obtain ⟨p, vs, h1, h2, h3⟩ := r.seqT e
    exact ⟨p, vs, h1, .inr h2, h3⟩
  · obtain ⟨p, vs, h1, h2, h3⟩ := r.seqL s h
    exact ⟨p, vs, h1, .inl h2, h3⟩
end
theorem PE.imp {X : Cx} {e : Expr} {t t' : TE} (h : PE X e t) (i : ∀ σ H Q, t' σ H Q → t σ H Q) : PE X e t' := ⟨fun pins s σ H Q I q => h.run pins s σ H Q I (i σ H Q q)⟩
theorem PT.imp {X : Cx} {e : Expr} {t t' : TT} (h : PT X e t) (i : ∀ σ H Q, t' σ H Q → t σ H Q) : PT X e t' := ⟨fun pins s σ H Q I q => h.run pins s σ H Q I (i σ H Q q)⟩
theorem PA.imp {X : Cx} {e : List Expr} {t t' : TA} (h : PA X e t) (i : ∀ σ H Q, t' σ H Q → t σ H Q) : PA X e t' := ⟨fun pos pins s σ H Q I q => h.run pos pins s σ H Q I (i σ H Q q)⟩
theorem PS.imp {X : Cx} {e : Stmt} {t t' : TS} (h : PS X e t) (i : ∀ D σ H, t' D σ H → t D σ H) : PS X e t' := ⟨fun pins s σ H D I q => h.run pins s σ H D I (i D σ H q)⟩
theorem PSs.imp {X : Cx} {e : List Stmt} {t t' : TS} (h : PSs X e t) (i : ∀ D σ H, t' D σ H → t D σ H) : PSs X e t' := ⟨fun pins s σ H D I q => h.run pins s σ H D I (i D σ H q)⟩
noncomputable def JA (X : Cx) (L : LT) (m : Env → Stt → Rs A) (e : Expr) : Prop := ∀ W, Takes X W → PE X e (tR X.K X.mg L (RA X.K X.mg) m W)
noncomputable def JE (X : Cx) (L : LT) (m : Env → Stt → Rs D) (e : Expr) : Prop := ∀ W, Takes X W → PE X e (tR X.K X.mg L (rD X.K X.mg) m W)
noncomputable def JT (X : Cx) (L : LT) (m : Env → Stt → Rs Bool) (e : Expr) : Prop := ∀ W, Takes X W → PT X e (tR X.K X.mg L rEq m W)
noncomputable def JL (X : Cx) (L : LT) (m : Env → Stt → Rs (List D)) (es : List Expr) : Prop := ∀ W, Takes X W → PA X es (tR X.K X.mg L (rDs X.K X.mg) m W)
noncomputable def JLs (X : Cx) (L : LT) (m : Env → Stt → Rs (List A)) (es : List Expr) : Prop := ∀ W, Takes X W → PA X es (tR X.K X.mg L (RAs X.K X.mg) m W)
noncomputable def JO (X : Cx) (L : LT) (m : Env → Stt → Rs (Option Int)) (e : Option Expr) : Prop := ∀ W, Takes X W → PO X e (tR X.K X.mg L rEq m W)
noncomputable def anyOp (X : Cx) (f : Value → Value → Sem Value) : R2 := fun x y H Q => ∃ r, OpR X f r ∧ r x y H Q
theorem op_any {X : Cx} {f : Value → Value → Sem Value} : OpR X f (anyOp X f) := fun pins s σ H x y v u Q I r1 r2 ⟨_, h, q⟩ => h pins s σ H x y v u Q I r1 r2 q
noncomputable def anyIx (X : Cx) : R2 := fun x y H Q => ∃ r, IxR X r ∧ r x y H Q
theorem ix_any {X : Cx} : IxR X (anyIx X) := fun a b pins s σ H x y v u Q I r1 r2 ⟨_, h, q⟩ e => h a b pins s σ H x y v u Q I r1 r2 q e
noncomputable def anySl (X : Cx) : V → Option Int → Option Int → Hp → VK → Prop := fun x l h H Q => ∃ r, SlR X r ∧ r x l h H Q
theorem sl_any {X : Cx} : SlR X (anySl X) := fun pins s σ H x v vl vu lo hi sl Q I r1 h1 h2 h3 ⟨_, h, q⟩ => h pins s σ H x v vl vu lo hi sl Q I r1 h1 h2 h3 q
noncomputable def anyCall (X : Cx) (f : Value) : List V → Hp → VK → Prop := fun xs H Q => ∃ r, CallR X f r ∧ r xs H Q
theorem call_any {X : Cx} {f : Value} : CallR X f (anyCall X f) := fun pins s σ H xs us Q I r1 ⟨_, h, q⟩ => h pins s σ H xs us Q I r1 q
section
variable {K : PySem.W.Frag} {mg : Str → Option Value} {H : Hp} {ρ : List Addr} {st : Stt} {a : Addr} {kvs : List (Key × D)} {vs : List (Key × V)}
theorem RKs.get (h : RKs K mg H ρ kvs vs) (k : Key) : (∀ d, dget kvs k = some d → ∃ v, valV vs k = some v ∧ RD K mg H ρ d v) ∧ (dget kvs k).isSome = (valV vs k).isSome := by
  induction h with
  | nil => exact ⟨fun d e => (by cases e), rfl⟩
  | @cons k0 x v xs ws r _ ih =>
    unfold dget valV at *
    by_cases e : k0 = k
    · simp only [List.find?_cons, e, decide_true, Option.map_some]
      exact ⟨fun d q => by cases q; exact ⟨_, rfl, r⟩, rfl⟩
    · simp only [List.find?_cons, e, decide_false]
      exact ih
theorem RKs.put {x : D} {v : V} (h : RKs K mg H ρ kvs vs) (r : RD K mg H ρ x v) (k : Key) : RKs K mg H ρ (dput kvs k x) (putK vs k v) := by
  have ea : (kvs.any fun kv => decide (kv.1 = k)) = (vs.any fun kv => decide (kv.1 = k)) := by
    induction h with
    | nil => rfl
    | cons _ _ ih => simp only [List.any_cons, ih]
  have em : RKs K mg H ρ (kvs.map (fun kv => if kv.1 = k then (kv.1, x) else kv)) (vs.map (fun kv => if kv.1 = k then (kv.1, v) else kv)) := by
    clear ea
    induction h with
    | nil => exact .nil
    | @cons k0 x0 v0 xs ws r0 _ ih =>
      simp only [List.map_cons]
      by_cases e : k0 = k
      · rw [if_pos e, if_pos e]; exact .cons r ih
      · rw [if_neg e, if_neg e]; exact .cons r0 ih
  have es : RKs K mg H ρ (kvs ++ [(k, x)]) (vs ++ [(k, v)]) := by
    clear ea em
    induction h with
    | nil => exact .cons r .nil
    | cons r0 _ ih => exact .cons r0 ih
  unfold dput putK
  rw [ea]
  split
  · exact em
  · exact es
theorem RKs.len (h : RKs K mg H ρ kvs vs) : kvs.length = vs.length := by
  induction h with
  | nil => rfl
  | cons _ _ ih => simp [ih]
theorem RKs.keysI (h : RKs K mg H ρ kvs vs) : ∀ {is : List Int}, Ev.keysI kvs = some is → vs.map (·.1) = is.map Sum.inl := by
  induction h with
  | nil => intro is e; cases e; rfl
  | @cons k0 x v xs ws r _ ih =>
    intro is e
    cases k0 with
    | inl i =>
      simp only [Ev.keysI, Option.map_eq_some_iff] at e
      obtain ⟨js, e, rfl⟩ := e
      simp [ih e]
    | inr z => simp [Ev.keysI] at e
theorem RS.dic (s : RS K mg H ρ st) {l : Nat} (h : ρ[l]? = some a) (hl : dicOf st l = some kvs) : ∃ vs, H a = some (.dK vs) ∧ RKs K mg H ρ kvs vs := by
  unfold dicOf at hl
  split at hl
  · rename_i ys e
    cases hl
    cases s.at' l a _ h e with
    | dic h1 h2 => exact ⟨_, h1, h2⟩
  · cases hl
end
noncomputable def rIxDc : R2 := fun x y H Q => ∃ (a : Addr) (vs : List (Key × V)) (i : Int) (v : V), x = .ref a ∧ y = .int i ∧ H a = some (.dK vs) ∧ valV vs (Sum.inl i) = some v ∧ Q v H
theorem ix_dic {X : Cx} : IxR X rIxDc := by
  intro value slice pins s σ H x y v u Q I rx ry h hs
  obtain ⟨a, vs, i, w, rfl, rfl, e, l, q⟩ := h
  cases rx
  obtain ⟨z, hd, us, rel, dd⟩ := dk_rd I.hok (.inl e)
  obtain ⟨w', hw, rw'⟩ := RelO.some_of (v := w) (o := valueAt us (Sum.inl i)) (by rw [← l]; exact rel.val (Sum.inl i))
  exact subscriptTail_builtinR (x := w') dd.typeIs PySem.F.slot_dict_getitem.lookup
    (wpAny_getItem_of (Q := fun r s' => r = w' ∧ EP X pins σ Q r s') (kV_is (k := Sum.inl i) ry) dd.mapOf hw ⟨rfl, w, H, I.tok _, rw', q⟩) hs
noncomputable def rInDc (f : Bool → Bool) : R2 := fun x y H Q => ∃ (a : Addr) (vs : List (Key × V)) (i : Int), x = .int i ∧ y = .ref a ∧ H a = some (.dK vs) ∧ Q (.bl (f (valV vs (Sum.inl i)).isSome)) H
theorem op_inDc {X : Cx} (hu : X.A.units + 64 < cLine) : OpR X (compareOp .In) (rInDc id) := by
  intro pins s σ H x y v u Q I rx ry ⟨a, vs, i, e1, e2, e, q⟩
  subst e1 e2
  obtain rfl : u = Value.ref a := ry
  exact d_in (by omega) I (DGet.k (k := Sum.inl i) e) rx fun s3 I3 => ⟨.bl _, H, I3, rfl, q⟩
theorem op_ninDc {X : Cx} (hu : X.A.units + 64 < cLine) : OpR X (compareOp .NotIn) (rInDc not) := by
  intro pins s σ H x y v u Q I rx ry ⟨a, vs, i, e1, e2, e, q⟩
  subst e1 e2
  obtain rfl : u = Value.ref a := ry
  exact d_notIn (by omega) I (DGet.k (k := Sum.inl i) e) rx fun s3 I3 => ⟨.bl _, H, I3, rfl, q⟩
noncomputable def rSetDc : TSet := fun o i v H Q => ∃ (a : Addr) (vs : List (Key × V)) (k : Int), o = .ref a ∧ i = .int k ∧ H a = some (.dK vs) ∧ vs.length < sizeLine ∧ Q (upd H a (.dK (putK vs (Sum.inl k) v)))
theorem set_dic {X : Cx} (hu : X.A.units + 64 < cLine) : PSet X rSetDc := by
  intro pins s σ H o i v ov iv u Q I ro ri rv ⟨a, vs, k, e1, e2, e, hl, q⟩
  subst e1 e2
  obtain rfl : ov = Value.ref a := ro
  exact d_setItem (by omega) I (DPut.k (k := Sum.inl k) e hl) ri rv fun s4 I4 => ⟨_, I4, q⟩
noncomputable def anySet (X : Cx) : TSet := fun o i v H Q => ∃ r, PSet X r ∧ r o i v H Q
theorem set_any {X : Cx} : PSet X (anySet X) := fun pins s σ H o i v ov iv u Q I r1 r2 r3 ⟨_, h, q⟩ => h pins s σ H o i v ov iv u Q I r1 r2 r3 q
end Ev
namespace Ev
open PySem PySem.Spec PyProof.Rows L2
theorem tuple_mul1 (l : Addr) (items : Array Value) (n : Nat) (dd : Option Addr) (sl : Array (Option Value)) (x : Int) (u : Tok) (c0 : (decide (x < -(2 ^ 63)) || decide (x ≥ 2 ^ 63)) = false) (c1 : (items.isEmpty || x == 1) = true) :
    Meets (Builtin.«tuple.__mul__» ⟨[.ref l, .int x u], []⟩) (fun _ R s => s.heap.get? l = some { cls := .type "tuple", dict := dd, data := .seq items n, slots := sl } ∧
      R (.ok (.ret (Value.ref l))) s) :=
  .of_wp fun prog w A R s h => by
    obtain ⟨hp, g, d, tk, os⟩ := s
    obtain ⟨hl, h⟩ := h
    have f1 := AutoSeq1.idx_int
    wp_walk using wpAny_loadPart' hl
    repeat (first
      | (refine wpAny_ite_false (decide_eq_false (by rw [c0]; exact Bool.false_ne_true)) ?_; wp_walk using wpAny_loadPart' hl)
      | (refine wpAny_ite_true (decide_eq_true c1) ?_; wp_walk using wpAny_loadPart' hl))
    exact ⟨_, rfl, h⟩
theorem tuple_mul0 (l : Addr) (items : Array Value) (n : Nat) (dd : Option Addr) (sl : Array (Option Value)) (x : Int) (u : Tok) (c0 : (decide (x < -(2 ^ 63)) || decide (x ≥ 2 ^ 63)) = false) (c1 : (items.isEmpty || x == 1) = false) (c2 : (decide (x ≤ 0) || items.isEmpty) = true) :
    Meets (Builtin.«tuple.__mul__» ⟨[.ref l, .int x u], []⟩) (fun _ R s => s.heap.get? l = some { cls := .type "tuple", dict := dd, data := .seq items n, slots := sl } ∧
      R (.ok (.ret (Value.ref s.heap.objs.size))) { s with heap := s.heap.push { cls := Value.type "tuple", data := Data.seq #[] }, toks := s.toks }) :=
  .of_wp fun prog w A R s h => by
    obtain ⟨hp, g, d, tk, os⟩ := s
    obtain ⟨hl, h⟩ := h
    have f1 := AutoSeq1.idx_int
    wp_walk using wpAny_loadPart' hl
    repeat (first
      | (refine wpAny_ite_false (decide_eq_false (by rw [c0]; exact Bool.false_ne_true)) ?_; wp_walk using wpAny_loadPart' hl)
      | (refine wpAny_ite_false (decide_eq_false (by rw [c1]; exact Bool.false_ne_true)) ?_; wp_walk using wpAny_loadPart' hl)
      | (refine wpAny_ite_true (decide_eq_true c2) ?_; wp_walk using wpAny_loadPart' hl))
    exact ⟨_, rfl, h⟩
/-- t * k, any k -/
noncomputable def rRepA (K : PySem.W.Frag) : R2 := fun x y H Q => ∃ l k xs, x = .ref l ∧ y = .int k ∧ SqT K H l xs ∧ -(2 ^ 62) ≤ k ∧ k < 2 ^ 62 ∧ xs.length ≤ 1000000 ∧ xs.length * k.toNat ≤ 1000000 ∧
  ((xs = [] ∨ k = 1) → Q (.ref l) H) ∧ (¬ (xs = [] ∨ k = 1) → ∀ p, H p = none → Q (.ref p) (upd H p (.tup (List.replicate k.toNat xs).flatten)))
section
variable {X : Cx}
theorem op_repA : OpR X (binaryOp .Mult) (rRepA X.K) := by
  intro pins s σ H x y v u Q I rx ry h
  obtain ⟨l, k, xs, rfl, rfl, hT, hk1, hk2, hz, hzz, q0, q1⟩ := h
  cases rx
  obtain ⟨t, rfl⟩ := ry
  obtain ⟨its, r, ⟨⟨cls, dd, data, sl⟩, ho, hc, n, hd⟩, hs⟩ := I.tuple hT
  simp only at hc hd
  subst hc hd
  have hle : its.length = xs.length := r.length.symm
  have he : its.toArray.isEmpty = decide (xs = []) := by
    cases its with
    | nil => cases r; rfl
    | cons a b => cases r with | cons _ _ => rfl
  have hsz0 : its.toArray.size = xs.length := by rw [List.size_toArray, hle]
  have c0 : (decide (k < -(2 ^ 63)) || decide (k ≥ 2 ^ 63)) = false := by
    rw [decide_eq_false (by omega), decide_eq_false (by omega)] <;> rfl
  have fin : ∀ {R : Result → Shared → Prop}, Meets (Builtin.«tuple.__mul__» ⟨[.ref l, .int k t], []⟩) (fun _ R s => s.heap.get? l = some { cls := .type "tuple", dict := dd, data := .seq its.toArray n, slots := sl } ∧ R (.ok (.ret (Value.ref l))) s) → True := fun _ => trivial
  by_cases e1 : xs = [] ∨ k = 1
  · have c1 : (its.toArray.isEmpty || k == 1) = true := by
      rw [he]
      rcases e1 with e | e
      · simp [e]
      · simp [e]
    refine wpAny_binaryOp_repeat_ref (T := "tuple") (U := "int") (by decide) ⟨_, ho, rfl⟩ (fun s' => typeIs_int s' k t) noFill_tuple_mul F.fills_int_mul F.slot_int_rmul repeat_tuple F.slot_int_index.lookup
      (call_meets F.slot_int_rmul (typeIs_int s k t) F.entry_int_rmul (F.args_int_rmul_2 _ _) (int_rmul_tuple k t l its.toArray n dd sl)
        ⟨ho, rfl, ⟨_, ho, rfl⟩, call_meets F.slot_tuple_mul ⟨_, ho, rfl⟩ F.entry_tuple_mul (F.args_tuple_mul_2 _ _) (tuple_mul1 l its.toArray n dd sl k t c0 c1) ⟨ho, ?_⟩⟩)
    exact ⟨.ref l, H, I, rfl, q0 e1⟩
  · have c1 : (its.toArray.isEmpty || k == 1) = false := by
      rw [he]
      have h1 : ¬ xs = [] := fun z => e1 (.inl z)
      have h2 : ¬ k = 1 := fun z => e1 (.inr z)
      simp [h1, h2]
    by_cases e2 : k ≤ 0
    · have c2 : (decide (k ≤ 0) || its.toArray.isEmpty) = true := by simp [e2]
      refine wpAny_binaryOp_repeat_ref (T := "tuple") (U := "int") (by decide) ⟨_, ho, rfl⟩ (fun s' => typeIs_int s' k t) noFill_tuple_mul F.fills_int_mul F.slot_int_rmul repeat_tuple F.slot_int_index.lookup
        (call_meets F.slot_int_rmul (typeIs_int s k t) F.entry_int_rmul (F.args_int_rmul_2 _ _) (int_rmul_tuple k t l its.toArray n dd sl)
          ⟨ho, rfl, ⟨_, ho, rfl⟩, call_meets F.slot_tuple_mul ⟨_, ho, rfl⟩ F.entry_tuple_mul (F.args_tuple_mul_2 _ _) (tuple_mul0 l its.toArray n dd sl k t c0 c1 c2) ⟨ho, ?_⟩⟩)
      have ek : k.toNat = 0 := by omega
      have q := q1 e1 _ (I.hok.fresh (Nat.le_refl _))
      rw [ek] at q
      refine ⟨.ref s.heap.objs.size, _, I.laid (t' := s.toks) (o := .tup []) (fun b ob q => Heap.get?_push_of_some _ q) (Nat.le_refl _) ?_, rfl, q⟩
      exact ⟨Nat.zero_le _, [], .nil, IsTup.new _ _⟩
    · have c2 : (decide (k ≤ 0) || its.toArray.isEmpty) = false := by
        rw [he]
        have h1 : ¬ xs = [] := fun z => e1 (.inl z)
        simp [h1]; omega
      have hm : ((its.toArray.size : Nat) : Int) * k ≤ 1000000 := by
        rw [hsz0]
        have : ((xs.length * k.toNat : Nat) : Int) = (xs.length : Int) * k := by
          rw [Int.natCast_mul, Int.toNat_of_nonneg (by omega)]
        omega
      have flen : (List.replicate k.toNat its).flatten.length ≤ sizeLine := by
        rw [PyProof.Rows.lm_len_rep_flat, hle, sizeLine_eq, Nat.mul_comm]
        omega
      have c4 : Builtin.Tuple.tupleTooMany (((its.toArray.size : Nat) : Int) * k) = false := by
        unfold Builtin.Tuple.tupleTooMany
        rw [sizeLine_eq]
        exact decide_eq_false (by omega)
      refine wpAny_binaryOp_repeat_ref (T := "tuple") (U := "int") (by decide) ⟨_, ho, rfl⟩ (fun s' => typeIs_int s' k t) noFill_tuple_mul F.fills_int_mul F.slot_int_rmul repeat_tuple F.slot_int_index.lookup
        (call_meets F.slot_int_rmul (typeIs_int s k t) F.entry_int_rmul (F.args_int_rmul_2 _ _) (int_rmul_tuple k t l its.toArray n dd sl)
          ⟨ho, rfl, ⟨_, ho, rfl⟩, call_meets F.slot_tuple_mul ⟨_, ho, rfl⟩ F.entry_tuple_mul (F.args_tuple_mul_2 _ _) (tuple_mulW l its.toArray n dd sl k t c0 c1 c2 (by omega) c4 (by rw [size_rep, List.size_toArray]; exact flen)) ⟨ho, ?_⟩⟩)
      rw [size_rep]
      refine ⟨.ref s.heap.objs.size, _, I.laid (t' := s.toks) (o := .tup (List.replicate k.toNat xs).flatten) (fun b ob q => Heap.get?_push_of_some _ q) (Nat.le_refl _) ?_, rfl, q1 e1 _ (I.hok.fresh (Nat.le_refl _))⟩
      exact ⟨by rw [PyProof.Rows.lm_len_rep_flat, sizeLine_eq, Nat.mul_comm]; omega, _, r.rep k.toNat, IsTup.new _ _⟩
end
end Ev
namespace Ev
open PySem PySem.Spec PyProof.Rows L2
noncomputable def rEqE (K : PySem.W.Frag) (f : Bool → Bool) : R2 := fun x y H Q => ∃ a b xs ys, x = .ref a ∧ y = .ref b ∧ ((SqT K H a xs ∧ SqT K H b ys) ∨ (SqL K H a xs ∧ SqL K H b ys)) ∧ (xs = [] ∨ ys = []) ∧ Q (.bl (f (decide (xs.length = ys.length)))) H
section
variable {X : Cx}
theorem op_eqE (hu : X.A.units + 64 < cLine) : OpR X (compareOp .Eq) (rEqE X.K id) := by
  intro pins s σ H x y v u Q I rx ry h
  obtain ⟨a, b, xs, ys, rfl, rfl, hS, he, q⟩ := h
  cases rx
  cases ry
  rcases hS with ⟨h1, h2⟩ | ⟨h1, h2⟩
  · obtain ⟨its, r1, p1, _⟩ := I.tuple h1
    obtain ⟨its2, r2, p2, _⟩ := I.tuple h2
    have l1 := r1.length
    have l2 := r2.length
    have z : its.toArray.size = 0 ∨ its2.toArray.size = 0 := by
      rw [List.size_toArray, List.size_toArray, ← l1, ← l2]
      rcases he with rfl | rfl <;> simp
    refine SeqAt.eq_tupleAt (e := fun _ => true) (show s.heap.IsTuple a its.toArray from p1) (show s.heap.IsTuple b its2.toArray from p2) (by omega) (fun j h1 h2 => absurd h1 (by omega)) ?_
    refine ⟨.bl _, H, I, ?_, q⟩
    have e1 : its.toArray.size = xs.length := by rw [List.size_toArray, l1]
    have e2 : its2.toArray.size = ys.length := by rw [List.size_toArray, l2]
    have : ((List.range (min its.toArray.size its2.toArray.size)).all (fun _ => true) && its.toArray.size == its2.toArray.size) = id (decide (xs.length = ys.length)) := by
      rw [show min its.toArray.size its2.toArray.size = 0 by omega, e1, e2]
      by_cases h : xs.length = ys.length <;> simp [h]
    rw [this]
    rfl
  · obtain ⟨its, r1, p1, _⟩ := I.list h1
    obtain ⟨its2, r2, p2, _⟩ := I.list h2
    have l1 := r1.length
    have l2 := r2.length
    have e1 : its.toArray.size = xs.length := by rw [List.size_toArray, l1]
    have e2 : its2.toArray.size = ys.length := by rw [List.size_toArray, l2]
    by_cases e : xs.length = ys.length
    · have z : xs.length = 0 := by rcases he with rfl | rfl <;> simp_all
      refine SeqAt.eq_listAt (e := fun _ => true) p1.isList p2.isList (by omega) (by omega) (fun j h1 h2 => absurd h1 (by omega)) ?_
      refine ⟨.bl _, H, I, ?_, q⟩
      have : (List.range its.toArray.size).all (fun _ => true) = id (decide (xs.length = ys.length)) := by simp [e]
      rw [this]
      rfl
    · refine SeqAt.eq_list_lengthsAt p1.isList p2.isList (by rw [e1, e2]; simpa using e) (by omega) ?_
      refine ⟨.bl _, H, I, ?_, q⟩
      have : false = id (decide (xs.length = ys.length)) := by simp [e]
      rw [← this]
      rfl
theorem op_neE (hu : X.A.units + 64 < cLine) : OpR X (compareOp .NotEq) (rEqE X.K not) := by
  intro pins s σ H x y v u Q I rx ry h
  obtain ⟨a, b, xs, ys, rfl, rfl, hS, he, q⟩ := h
  cases rx
  cases ry
  rcases hS with ⟨h1, h2⟩ | ⟨h1, h2⟩
  · obtain ⟨its, r1, p1, _⟩ := I.tuple h1
    obtain ⟨its2, r2, p2, _⟩ := I.tuple h2
    have l1 := r1.length
    have l2 := r2.length
    have z : its.toArray.size = 0 ∨ its2.toArray.size = 0 := by
      rw [List.size_toArray, List.size_toArray, ← l1, ← l2]
      rcases he with rfl | rfl <;> simp
    refine SeqAt.RcNeAt.tuples (e := fun _ => true) (show s.heap.IsTuple a its.toArray from p1) (show s.heap.IsTuple b its2.toArray from p2) (by omega) (fun j h1 h2 => absurd h1 (by omega)) _ _ _ _ ?_
    refine ⟨.bl _, H, I, ?_, q⟩
    have e1 : its.toArray.size = xs.length := by rw [List.size_toArray, l1]
    have e2 : its2.toArray.size = ys.length := by rw [List.size_toArray, l2]
    have : (!((List.range (min its.toArray.size its2.toArray.size)).all (fun _ => true) && its.toArray.size == its2.toArray.size)) = not (decide (xs.length = ys.length)) := by
      rw [show min its.toArray.size its2.toArray.size = 0 by omega, e1, e2]
      by_cases h : xs.length = ys.length <;> simp [h]
    rw [this]
    rfl
  · obtain ⟨its, r1, p1, _⟩ := I.list h1
    obtain ⟨its2, r2, p2, _⟩ := I.list h2
    have l1 := r1.length
    have l2 := r2.length
    have e1 : its.toArray.size = xs.length := by rw [List.size_toArray, l1]
    have e2 : its2.toArray.size = ys.length := by rw [List.size_toArray, l2]
    by_cases e : xs.length = ys.length
    · have z : xs.length = 0 := by rcases he with rfl | rfl <;> simp_all
      refine SeqAt.RcNeAt.lists (e := fun _ => true) p1.isList p2.isList (by omega) (by omega) (fun j h1 h2 => absurd h1 (by omega)) _ _ _ _ ?_
      refine ⟨.bl _, H, I, ?_, q⟩
      have : (!(List.range its.toArray.size).all (fun _ => true)) = not (decide (xs.length = ys.length)) := by simp [e]
      rw [this]
      rfl
    · refine SeqAt.RcNeAt.lists_lengths p1.isList p2.isList (by rw [e1, e2]; simpa using e) (by omega) _ _ _ _ ?_
      refine ⟨.bl _, H, I, ?_, q⟩
      have : true = not (decide (xs.length = ys.length)) := by simp [e]
      rw [← this]
      rfl
end
section
variable {prog : Program} {w : World} {A : Around} {E : Value → Shared → Prop} {s : Shared}
theorem slice_rev {sl : Addr} {vl vu vs : Value} {n : Nat} {Q : Int × Int × Nat → Shared → Prop} (hs : s.heap.IsSliceOf sl vl vu vs) (pl : IsPart vl none) (pu : IsPart vu none) (ps : IsPart vs (some (-1)))
    (h : Q ((n : Int) - 1, -1, n) s) : wpAny (model prog w) A (Builtin.Slice.sliceApplied (.ref sl) (pure (n : Int))) Q E s := by
  obtain ⟨os, hos, hcs, hds⟩ := id hs
  unfold Builtin.Slice.sliceApplied Builtin.Slice.sliceFields
  refine wpAny_bind (wpAny_bind (wpAny_field hos hds (x := vl) rfl (wpAny_bind (wpAny_field hos hds (x := vu) rfl (wpAny_bind (wpAny_field hos hds (x := vs) rfl (wpAny_pure ?_)))))))
  refine wpAny_bind (HT.slicePart_ ps ?_)
  show wpAny _ _ (if ((-1 : Int) == 0) = true then _ else _) _ _ s
  rw [if_neg (by decide)]
  refine wpAny_bind (HT.slicePart_ pl (wpAny_bind (HT.slicePart_ pu (wpAny_bind (wpAny_pure ?_)))))
  have e1 : Builtin.Slice.sliceAdjust none none (-1) (n : Int) = ((n : Int) - 1, -1) := by
    unfold Builtin.Slice.sliceAdjust
    simp
  have e2 : Builtin.Slice.slicePlaces ((n : Int) - 1) (-1) (-1) = n := by
    unfold Builtin.Slice.slicePlaces
    simp
    try omega
  show wpAny _ _ (match Builtin.Slice.sliceAdjust none none (-1) (n : Int) with | (lo, hi) => pure (lo, (-1 : Int), Builtin.Slice.slicePlaces lo hi (-1))) _ _ s
  rw [e1]
  show wpAny _ _ (pure ((n : Int) - 1, (-1 : Int), Builtin.Slice.slicePlaces ((n : Int) - 1) (-1) (-1))) _ _ s
  rw [e2]
  exact wpAny_pure h
theorem fm_some {α β : Type} {f : α → Option β} {g : α → β} : ∀ {l : List α}, (∀ x ∈ l, f x = some (g x)) → l.filterMap f = l.map g
  | [], _ => rfl
  | x :: r, h => by rw [List.filterMap_cons, h x (by simp), fm_some fun y hy => h y (by simp [hy])]; rfl
theorem pick_rev (xs : Array Value) : ((List.range xs.size).filterMap fun (m : Nat) => xs[(((xs.size : Int) - 1) + (m : Int) * (-1)).toNat]?).toArray = xs.toList.reverse.toArray := by
  congr 1
  apply List.ext_getElem?
  intro i
  have key : (List.range xs.size).filterMap (fun (m : Nat) => xs[(((xs.size : Int) - 1) + (m : Int) * (-1)).toNat]?) = (List.range xs.size).map fun m => xs.toList.reverse[m]?.getD .none := by
    refine fm_some fun m hm => ?_
    have hm := List.mem_range.mp hm
    have e : (((xs.size : Int) - 1) + (m : Int) * (-1)).toNat = xs.size - 1 - m := by omega
    have e2 : xs.toList.reverse[m]? = xs[xs.size - 1 - m]? := by
      rw [List.getElem?_reverse (by simpa using hm)]
      simp
    rw [e, e2]
    have : xs.size - 1 - m < xs.size := by omega
    simp [this]
  rw [key, List.getElem?_map]
  by_cases h : i < xs.size
  · rw [List.getElem?_range h]
    have : i < xs.toList.reverse.length := by simpa using h
    simp only [Option.map_some, List.getElem?_eq_getElem this, Option.getD_some]
  · have h1 : (List.range xs.size)[i]? = none := by simp; omega
    have h2 : xs.toList.reverse[i]? = none := by simp; omega
    rw [h1, h2]; rfl
theorem getItem_tuple_rev {t sl : Addr} {items : Array Value} {vl vu vs : Value} {Q : Value → Shared → Prop} (ht : IsTup s.heap t items) (hs : s.heap.IsSliceOf sl vl vu vs) (pl : IsPart vl none) (pu : IsPart vu none) (ps : IsPart vs (some (-1)))
    (h : Q (.ref s.heap.objs.size) { s with heap := s.heap.push { cls := .type "tuple", data := .seq items.toList.reverse.toArray } })
    (hsz : items.size ≤ sizeLine) : wpAny (model prog w) A (getItem (.ref t) (.ref sl)) Q E s := by
  have htake : sizeOk (.seq items.toList.reverse.toArray) := by
    show items.toList.reverse.toArray.size ≤ sizeLine
    simpa using hsz
  obtain ⟨os, hos, hcs, hds⟩ := id hs
  have hTs : s.TypeIs (.ref sl) "slice" := ⟨os, hos, hcs⟩
  unfold getItem
  try with_reducible refine wpAny_holding ?_
  first | refine wpAny_bind (wpAny_pure ?_) | skip
  refine wpAny_bind (wpAny_sequenceKey ht.typeIs (by decide) ?_)
  refine wpAny_bind (wpAny_callSpecial?_slot (name := Str.ofString "__getitem__") ht.typeIs PyProof.Rows.slot_tuple_getitem
    (wpAny_call_entry PyProof.Rows.slot_tuple_getitem ht.typeIs entry_tuple_getitem ?_ (args_tuple_getitem _ _)))
  show wpAny _ _ (Builtin.Tuple.tupleItemsOf (.ref t) >>= _) _ _ s
  refine wpAny_bind (tupleItemsOf_ ht ?_)
  refine wpAny_bind (wpAny_typeOf hTs ?_)
  rw [if_pos (by decide)]
  refine wpAny_bind (slice_rev hs pl pu ps ?_)
  have hno : ¬ ((((items.size : Int) - 1) == 0 && (-1 : Int) == 1 && items.size == items.size) = true) := by
    intro q
    rw [Bool.and_eq_true, Bool.and_eq_true] at q
    exact absurd q.1.2 (by decide)
  show wpAny _ _ (if (((items.size : Int) - 1) == 0 && (-1 : Int) == 1 && items.size == items.size) = true then _ else _) _ _ s
  rw [if_neg hno, pick_rev]
  first
    | exact wpAny_bind (m := Builtin.Tuple.tupleExact _) (wpAny_newObj_type (wpAny_pure ⟨_, rfl, wpAny_pure h⟩) htake)
    | exact wpAny_bind (m := Builtin.Tuple.tupleExact _) (wpAny_newObj_type (wpAny_bind (wpAny_pure (wpAny_pure ⟨_, rfl, wpAny_pure h⟩))) htake)
    | exact wpAny_bind (wpAny_bind (m := Builtin.Tuple.tupleExact _) (wpAny_newObj_type (wpAny_pure (wpAny_pure ⟨_, rfl, wpAny_pure h⟩)) htake))
    | exact wpAny_bind (wpAny_bind (m := Builtin.Tuple.tupleExact _) (wpAny_newObj_type (wpAny_pure ⟨_, rfl, wpAny_pure h⟩) htake))
end
noncomputable def tRev (K : PySem.W.Frag) (te : TE) : TE := fun σ H Q => te σ H fun x H1 => ∃ a xs, x = .ref a ∧ ((SqL K H1 a xs ∧ ∀ p, H1 p = none → Q (.ref p) (upd H1 p (.lst xs.reverse))) ∨ (SqT K H1 a xs ∧ ∀ p, H1 p = none → Q (.ref p) (upd H1 p (.tup xs.reverse))))
theorem pe_rev {X : Cx} {e : Expr} {te : TE} {k : Nat} {p1 p2 p3 pos : Pos} (he : PE X e te) : PE X (.Subscript e (.Slice none none (some (.UnaryOp .USub (.Constant (.int 1) k p1) p2)) p3) pos) (tRev X.K te) := by
  refine ⟨fun pins s σ H Q I h => ?_⟩
  refine Subscript_ (thn (he.run pins s σ H _ I h) fun v s1 ⟨x, H1, I1, r1, q1⟩ => ?_)
  obtain ⟨a, xs, ex, q⟩ := q1
  subst ex
  cases r1
  have hst : PO X (some (.UnaryOp .USub (.Constant (.int 1) k p1) p2)) (tPart (tUn (rU fun i => .int (-i)) (tC (.int 1)))) := po_some (pe_un un_neg pe_int)
  refine wpAny_Slice (thn (po_none.run pins s1 σ H1 (fun o H2 => o = none ∧ H2 = H1) I1 ⟨rfl, rfl⟩) fun vl s2 ⟨l, H2, I2, pl, el, e2⟩ => ?_)
  subst el e2
  refine thn (po_none.run pins s2 σ H2 (fun o H3 => o = none ∧ H3 = H2) I2 ⟨rfl, rfl⟩) fun vu s3 ⟨u, H3, I3, pu, eu, e3⟩ => ?_
  subst eu e3
  refine thn (hst.run pins s3 σ H3 (fun o H4 => o = some (-1) ∧ H4 = H3) I3 ⟨1, rfl, -1, rfl, rfl, rfl⟩) fun vs s4 ⟨o, H4, I4, ps, eo, e4⟩ => ?_
  subst eo e4
  have I5 : Inv X pins σ H4 { s4 with heap := s4.heap.push { cls := .type "slice", data := .fields #[vl, vu, vs] } } := I4.kept (t' := s4.toks) fun b ob q => Heap.get?_push_of_some _ q
  show wpAny (model X.prog X.w) X.A (subscriptTail e (.Slice none none (some (.UnaryOp .USub (.Constant (.int 1) k p1) p2)) p3) (.ref a) (.ref s4.heap.objs.size)) (EP X pins σ Q) X.xe { s4 with heap := s4.heap.push { cls := .type "slice", data := .fields #[vl, vu, vs] } }
  rcases q with ⟨hx, q⟩ | ⟨hx, q⟩
  · obtain ⟨its, r, ht, hz⟩ := I5.list hx
    have hlen := r.length
    refine tail_any (ops := [.ref a, .ref s4.heap.objs.size]) ht.isList.typeIs (PySem.slot_list_getitem.lookup) ?_ (by with_unfolding_all rfl)
    refine wpAny_getItem_list_slice ht.isList (Heap.IsSliceOf.new _ vl vu vs) pl pu ps (by decide) ?_ (by rw [List.size_toArray]; omega)
    rw [PySem.W.krv_pick]
    refine ⟨.ref _, _, I5.laid (t' := s4.toks) (o := .lst xs.reverse) (fun b ob q => Heap.get?_push_of_some _ q) (Nat.le_refl _) ?_, rfl, q _ (I5.hok.fresh (Nat.le_refl _))⟩
    exact ⟨by rw [List.length_reverse]; exact hz, _, 0, r.reverse, Heap.get?_push_size _ rfl⟩
  · obtain ⟨its, r, ht, hz⟩ := I5.tuple hx
    have hlen := r.length
    refine tail_any (ops := [.ref a, .ref s4.heap.objs.size]) ht.typeIs (PyProof.Rows.slot_tuple_getitem.lookup) ?_ (by with_unfolding_all rfl)
    refine getItem_tuple_rev ht (Heap.IsSliceOf.new _ vl vu vs) pl pu ps ?_ (by rw [List.size_toArray]; omega)
    refine ⟨.ref _, _, I5.laid (t' := s4.toks) (o := .tup xs.reverse) (fun b ob q => Heap.get?_push_of_some _ q) (Nat.le_refl _) ?_, rfl, q _ (I5.hok.fresh (Nat.le_refl _))⟩
    exact ⟨by rw [List.length_reverse]; exact hz, _, r.reverse, IsTup.new _ _⟩
end Ev
namespace Ev
open PySem PySem.Spec PyProof.Rows L2
theorem meets_enum_newT (t : Addr) (items : Array Value) :
    Meets (Builtin.«enumerate.__new__» ⟨[.type "enumerate", .ref t], []⟩) (fun _ R s => s.heap.IsTuple t items ∧
      R (.ok (.ret (.ref (s.heap.push { cls := .type "tuple_iterator", data := .fields #[.ref t, .int 0 0] }).objs.size)))
        { s with heap := (s.heap.push { cls := .type "tuple_iterator", data := .fields #[.ref t, .int 0 0] }).push { cls := .type "enumerate", data := .fields #[.none, .bool false, .ref s.heap.objs.size, rawInt 0, .none, .none] } }) :=
  .of_wp fun prog w A R s h => by
    obtain ⟨hp, g, d, tk, os⟩ := s; obtain ⟨h1, h⟩ := h
    have hsub := sub_enumerate
    have q1 : ∀ {A' : Around} {E : Value → Shared → Prop} {Q : Value → Shared → Prop}, Q (.ref hp.objs.size) ⟨hp.push { cls := .type "tuple_iterator", data := .fields #[.ref t, .int 0 0] }, g, d, tk, os⟩ → wpAny (model prog w) A' (pyIter (.ref t)) Q E ⟨hp, g, d, tk, os⟩ :=
      fun q => wpAny_pyIter_tuple h1 q
    wp_walk using q1
    refine wpAny_stack_any fun st => wpAny_pure ?_
    split
    · rename_i c _ _ _ _ _
      cases (c == Value.type "enumerate")
      · wp_walk using q1
        exact ⟨_, rfl, h⟩
      · wp_walk using q1
        exact ⟨_, rfl, h⟩
    · wp_walk using q1
      exact ⟨_, rfl, h⟩
section
variable {prog : Program} {w : World} {A : Around} {E : Value → Shared → Prop} {s : Shared}
theorem call_enum_tuple {t : Addr} {items : Array Value} {Q : Value → Shared → Prop} (hL : s.heap.IsTuple t items)
    (h : ∀ h', IsEnum h' (s.heap.objs.size + 1) s.heap.objs.size 0 .none → h'.IsTupleIter s.heap.objs.size t 0 → h'.objs.size = s.heap.objs.size + 2 →
      (∀ b o, s.heap.get? b = some o → h'.get? b = some o) → Q (.ref (s.heap.objs.size + 1)) { s with heap := h' }) :
    wpAny (model prog w) A (call (.type "enumerate") [.ref t]) Q E s := by
  refine callType_new F.called_enumerate (by decide) (F.typeCall_enumerate_1 _) (F.newCall_enumerate_1 _) (fun obj => F.args_object_init_2 obj _) F.entry_enumerate_new
    (meets_enum_newT t items) ⟨hL, ?_⟩
  have hz : (s.heap.push { cls := .type "tuple_iterator", data := .fields #[.ref t, .int 0 0] }).objs.size = s.heap.objs.size + 1 := Heap.size_push ..
  show _ ∧ _
  rw [hz]
  have he : IsEnum ((s.heap.push { cls := .type "tuple_iterator", data := .fields #[.ref t, .int 0 0] }).push
      { cls := .type "enumerate", data := .fields #[.none, .bool false, .ref s.heap.objs.size, rawInt 0, .none, .none] }) (s.heap.objs.size + 1) s.heap.objs.size 0 .none := by
    have := Heap.get?_push_size (s.heap.push { cls := .type "tuple_iterator", data := .fields #[.ref t, .int 0 0] })
      (o := { cls := .type "enumerate", data := .fields #[.none, .bool false, .ref s.heap.objs.size, rawInt 0, .none, .none] }) rfl
    rw [hz] at this; exact this
  refine ⟨⟨_, he, rfl⟩, h _ he ⟨_, Heap.get?_push_of_some _ (Heap.get?_push_size _ rfl), rfl, rfl⟩ (by rw [Heap.size_push, hz]) fun b o x => Heap.get?_push_of_some _ (Heap.get?_push_of_some _ x)⟩
end
theorem enum_endT {prog : Program} {w : World} {A : Around} {E : Value → Shared → Prop} {s : Shared} {e it t : Addr} {i : Nat} {items : Array Value} {old : Value} {Q : Option Value → Shared → Prop} (hh : A.handled = none)
    (he : IsEnum s.heap e it i old) (hit : s.heap.IsTupleIter it t i) (ht : s.heap.IsTuple t items) (hx : items.size ≤ i)
    (hQ : ∀ h', Heap.ExtBut it s.heap h' → Q none { s with heap := h' }) : wpAny (model prog w) A (pyNext (.ref e)) Q E s := by
  have hT : s.TypeIs (.ref e) "enumerate" := ⟨_, he, rfl⟩
  unfold pyNext
  refine wpAny_bind (wpAny_attempt (wpAny_callSpecial?_slot (name := Str.ofString "__next__") hT F.slot_enumerate_next
    (wpAny_call_entry F.slot_enumerate_next hT F.entry_enumerate_next ?_ (F.args_enumerate_next_1 _))))
  show wpAny _ _ (field (.ref e) 2 >>= _) _ _ _
  refine wpAny_bind (wpAny_field he rfl (x := .ref it) rfl ?_)
  refine wpAny_bind (wpAny_nextOf_tuple_end (show A.in1.handled = none from hh) hit ht (by simp; omega) fun h' x he' hx' => ?_)
  obtain ⟨o, ho, hc⟩ := hx'
  refine wpAny_bind (wpAny_isInstance (T := "StopIteration") (b := true) ⟨o, ho, hc⟩ isSubtype_stop ?_)
  exact wpAny_pure (hQ _ he')
/-- the tuple at a, each item in a new pair -/
noncomputable def IteT (K : PySem.W.Frag) (a : Addr) : L2.It :=
  ⟨fun i H => ∃ (xs : List V) (x : V), SqT K H a xs ∧ xs[i]? = some x, fun i H v H' => ∃ T x, v = .ref T ∧ H T = none ∧ H' = upd H T (.tup [.int (i : Nat), x]) ∧ ∀ xs, SqT K H a xs → xs[i]? = some x, fun i H => ∃ xs : List V, SqT K H a xs ∧ xs.length ≤ i⟩
theorem turn_enumT {P : Program} {w : World} {K : PySem.W.Frag} {elts : List Expr} {kk : Nat} {tpos : Pos} (a e it : Addr) (hai : a ≠ it) (hea : e ≠ a) :
    Turn P w K (.Tuple elts kk tpos) (IteT K a) [e, it] e (fun i h => (∃ old, IsEnum h e it ((i : Nat) : Int) old) ∧ h.IsTupleIter it a i ∧ e ≠ it) where
  mem := by simp
  obj := fun i h st b hb => by
    obtain ⟨⟨old, he⟩, ⟨o, ho, hc, hd⟩, _⟩ := st
    have e' : b = e ∨ b = it := by simpa using hb
    rcases e' with z | z
    · rw [z]; exact ⟨_, he, fun v q => nomatch q⟩
    · rw [z]; exact ⟨o, ho, fun v q => by rw [hd] at q; cases q⟩
  keep := fun i h h' st k => let ⟨⟨old, he⟩, hi, hne⟩ := st; ⟨⟨old, k e (by simp) _ he⟩, hi.at fun o q => k it (by simp) o q, hne⟩
  item := by
    intro X hP hw hK hc i pins s σ H E I hf st hg
    subst hP hw hK
    obtain ⟨⟨old, he⟩, hit, hne⟩ := st
    obtain ⟨xs, x, hq, hx⟩ := hg
    obtain ⟨its, rv, p, hz⟩ := I.tuple hq
    obtain ⟨u, hu, ru⟩ := rv.get hx
    have hel : e < s.heap.objs.size := Heap.lt_size he
    have hil : it < s.heap.objs.size := by obtain ⟨_, q, _⟩ := hit; exact Heap.lt_size q
    have hlt : i < its.toArray.size := by
      have := (List.getElem?_eq_some_iff.mp hu).1
      simpa using this
    have D := Draws.tuple (prog := X.prog) (w := X.w) (A := X.A.in1) (show X.A.in1.handled = none from I.ok.hd hc) it a hai its.toArray
    refine wpAny_pyNext_enum_itemD D he ⟨hit, p⟩ hlt hne (by simp; exact ⟨hne, hea⟩) fun x' h' tk hP ho hst hT hsz hk => ?_
    have eu : x' = u := by
      have hP : its.toArray[i]? = some x' := hP
      have : its[i]? = some x' := by simpa using hP
      rw [hu] at this; cases this; rfl
    subst eu
    refine ⟨_, rfl, wpAny_letOwnedTupleGo_enum (s := { s with heap := h', toks := tk + 1 }) ho fun h'' he' sb => ?_⟩
    have hT2 : h''.get? s.heap.objs.size = some { cls := .type "tuple", data := .seq #[.int i tk, x'] } := (sb.2 _ (Nat.ne_of_gt hel)).trans hT
    have new : ObjOk X.prog X.w (upd H s.heap.objs.size (.tup [.int (i : Nat), x])) h'' s.heap.objs.size (.tup [.int (i : Nat), x]) :=
      ⟨by show 2 ≤ sizeLine; decide, [.int i tk, x'], .cons ⟨_, rfl⟩ (.cons ru .nil), ⟨_, hT2, rfl, _, rfl⟩⟩
    have I1 : Inv X pins σ (upd H s.heap.objs.size (.tup [.int (i : Nat), x])) { s with heap := h'', toks := tk + 1 } :=
      I.turnedNew (ch := [e, it]) (fun b ob hb q => (sb.2 b (fun z => hb (by simp [z]))).trans (hk b ob (fun z => hb (by simp [z])) (fun z => hb (by simp [z])) q)) hf (Nat.le_refl _) new
    refine ⟨.ref s.heap.objs.size, _, I1, rfl, ⟨_, x, rfl, I.hok.fresh (Nat.le_refl _), rfl, fun ys hy => by rw [I.tuple_inj hy hq]; exact hx⟩, ⟨⟨x', ?_⟩, hst.1.at fun o q => (sb.2 it (Ne.symm hne)).trans q, hne⟩, fun b hb => ?_⟩
    · have e1 : ((i + 1 : Nat) : Int) = (i : Int) + 1 := by omega
      rw [e1]; exact he'
    · have hb' : b < s.heap.objs.size := by
        have e' : b = e ∨ b = it := by simpa using hb
        rcases e' with z | z
        · rw [z]; exact hel
        · rw [z]; exact hil
      rw [upd_ne (Nat.ne_of_lt hb')]
      exact (hf b hb).1
  done := by
    intro X hP hw hK hc i pins s σ H E I hf st hg
    subst hP hw hK
    obtain ⟨⟨old, he⟩, hit, hne⟩ := st
    obtain ⟨xs, hq, hx⟩ := hg
    obtain ⟨its, rv, p, hz⟩ := I.tuple hq
    obtain ⟨f0, f1, f2, f3, f4, f5⟩ := hf it (by simp)
    have hl := rv.length
    have D := Draws.tuple (prog := X.prog) (w := X.w) (A := X.A.in1) (show X.A.in1.handled = none from I.ok.hd hc) it a hai its.toArray
    -- the tuple may be gone through further than its length only where it stands at its end
    refine enum_endT (hh := I.ok.hd hc) he hit p (by simp; omega) fun h' eb => ⟨rfl, I.turned (t' := s.toks) (fun b o hb q => eb b o hb q) f0 f1 f3 f4 f5⟩
  self := fun A i s Q E st h => let ⟨⟨_, he⟩, _⟩ := st; wpAny_pyIter_enum he h
noncomputable def iEnumE (K : PySem.W.Frag) (ta : TA) : TI := fun σ H R => ta σ H fun vs H1 => ∃ a xs, vs = [.ref a] ∧ ((SqL K H1 a xs ∧ R (Ite K a) H1) ∨ (SqT K H1 a xs ∧ R (IteT K a) H1))
theorem pi_enumE {X : Cx} {e : Expr} {ta : TA} {p pos tpos : Pos} {elts : List Expr} {kk : Nat} (hg : Gl X "enumerate") (hm : X.mg "enumerate" = none) (ha : PA X [e] ta) (hs : starEach [e] X.env = [(false, eval e X.env)] := by rfl) :
    PI X (.Tuple elts kk tpos) (.Call (.Name "enumerate" p) [e] [] pos) (iEnumE X.K ta) := by
  refine ⟨fun pins s σ H R I h => ?_⟩
  refine Call_ (ld_blt I hg hm boot_enumerate (PyProof.Rows.callWith_type1 (thn (ha.run pos pins s σ H _ I h) fun us s1 ⟨vs, H1, I1, r1, q1⟩ => ?_) hs rfl))
  obtain ⟨a, xs, ex, q⟩ := q1
  subst ex
  cases r1 with
  | cons r rr =>
    cases rr
    cases r
    have fp : ∀ b ∈ [s1.heap.objs.size + 1, s1.heap.objs.size], s1.heap.objs.size ≤ b := fun b hb => by
      have e' : b = s1.heap.objs.size + 1 ∨ b = s1.heap.objs.size := by simpa using hb
      rcases e' with z | z
      · rw [z]; exact Nat.le_add_right _ _
      · rw [z]; exact Nat.le_refl _
    rcases q with ⟨hq, q⟩ | ⟨hq, q⟩
    · obtain ⟨its, rv, p', hz⟩ := I1.list hq
      refine call_enumerate_list p'.isList fun h' he hit hsz hk => wpAny_pyIter_enum he ?_
      have I2 : Inv X pins σ H1 { s1 with heap := h' } := I1.kept (t' := s1.toks) hk
      exact ⟨s1.heap.objs.size + 1, [s1.heap.objs.size + 1, s1.heap.objs.size], _, _, H1, rfl, I2, turn_enum a (s1.heap.objs.size + 1) s1.heap.objs.size, ⟨⟨.none, he⟩, hit, Nat.succ_ne_self _⟩, fun b hb => I1.fpOk (fp b hb) (I1.hok.fresh (fp b hb)), q⟩
    · obtain ⟨its, rv, p', hz⟩ := I1.tuple hq
      have hal : a < s1.heap.objs.size := by obtain ⟨o, ho, _⟩ := p'; exact Heap.lt_size ho
      refine call_enum_tuple (show s1.heap.IsTuple a its.toArray from p') fun h' he hit hsz hk => wpAny_pyIter_enum he ?_
      have I2 : Inv X pins σ H1 { s1 with heap := h' } := I1.kept (t' := s1.toks) hk
      exact ⟨s1.heap.objs.size + 1, [s1.heap.objs.size + 1, s1.heap.objs.size], _, _, H1, rfl, I2, turn_enumT a (s1.heap.objs.size + 1) s1.heap.objs.size (Nat.ne_of_lt hal) (Nat.ne_of_gt (Nat.lt_succ_of_lt hal)), ⟨⟨.none, he⟩, hit, Nat.succ_ne_self _⟩, fun b hb => I1.fpOk (fp b hb) (I1.hok.fresh (fp b hb)), q⟩
end Ev
namespace Ev
open PySem PySem.Spec PyProof.Rows L2
theorem countP_eqU {x : V} : ∀ {xs : List V} {us : List Value}, Vals xs us → xs.all flatV = true → us.countP (eqU x) = xs.countP fun y => eqV y x
  | _, _, .nil, _ => rfl
  | y :: xs, u :: us, .cons r t, f => by
    rw [List.all_cons, Bool.and_eq_true] at f
    rw [List.countP_cons, List.countP_cons, eqU_of r f.1, countP_eqU t f.2]
noncomputable def rCntL (K : PySem.W.Frag) : V → List V → Hp → VK → Prop := fun x vs H Q => ∃ (p : Addr) (xs : List V) (y : V), x = .ref p ∧ vs = [y] ∧ SqL K H p xs ∧ flatV y = true ∧ xs.all flatV = true ∧ Q (.int (xs.countP fun z => eqV z y : Nat)) H
section
variable {X : Cx}
theorem mt_cntL : MtR X "list.count" (rCntL X.K) := by
  intro pins s σ H x xs v us Q I rx rxs h
  obtain ⟨p, ys, y, rfl, rfl, hs, fy, fs, q⟩ := h
  cases rx
  obtain ⟨u, rfl, ru⟩ := rxs.one
  obtain ⟨its, rv, ⟨⟨cls, dd, data, sl⟩, n, ho, hc, hdn, hd⟩, hlen⟩ := I.list hs
  simp only at hc hd
  subst hc hd
  refine call_meets PySem.F.slot_list_count ⟨_, ho, rfl⟩ PySem.F.entry_list_count (PySem.F.args_list_count_2 _ _)
    (SeqAt.list_countAt p its.toArray n dd sl u (eqU y)) ⟨ho, fun w hw => mem_eqAt ru fy rv fs w (by simpa using hw), ?_⟩
  have ec : its.toArray.toList.countP (eqU y) = ys.countP fun z => eqV z y := countP_eqU rv fs
  refine ⟨.int (ys.countP fun z => eqV z y : Nat), H, I.tok _, ⟨s.toks, ?_⟩, q⟩
  show Value.int ((its.toArray.toList.countP (eqU y) : Nat) : Int) s.toks = Value.int ((ys.countP fun z => eqV z y : Nat) : Int) s.toks
  rw [ec]
end
noncomputable def tChain3 (r r' r2 : R2) (ta tb tc td : TE) : TE := fun σ H Q => ta σ H fun x H1 => tb σ H1 fun y H2 => r x y H2 fun z H3 => ∃ k, z = .bl k ∧
  (if k = true then tc σ H3 fun w' H4 => r' y w' H4 fun z2 H5 => ∃ k2, z2 = .bl k2 ∧ (if k2 = true then td σ H5 fun w2 H6 => r2 w' w2 H6 Q else Q (.bl false) H5) else Q (.bl false) H3)
section
variable {X : Cx} {a b c d : Expr} {ta tb tc td : TE} {pos : Pos}
theorem pe_chain3 {op op' op2 : CmpOp} {r r' r2 : R2} (ho : OpR X (compareOp op) r) (ho' : OpR X (compareOp op') r') (ho2 : OpR X (compareOp op2) r2) (ha : PE X a ta) (hb : PE X b tb) (hc : PE X c tc) (hd : PE X d td)
    (hm : lastMarks [op, op', op2] [b, c, d] = false) : PE X (.Compare a [op, op', op2] [b, c, d] pos) (tChain3 r r' r2 ta tb tc td) := by
  refine ⟨fun pins s σ H Q I h => ?_⟩
  refine Compare_chain (thn (ha.run pins s σ H _ I h) fun v s1 ⟨x, H1, I1, r1, q1⟩ => chain_link (thn (hb.run pins s1 σ H1 _ I1 q1) fun u s2 ⟨y, H2, I2, rr2, q2⟩ =>
    thn (ho pins s2 σ H2 x y v u _ I2 r1 rr2 q2) fun dd s3 ⟨z, H3, I3, r3, k, e, q3⟩ => ?_)) hm
  subst e
  cases r3
  refine wpAny_truthy_bool ?_
  cases k with
  | false => exact ite_ff ⟨.bl false, H3, I3, rfl, q3⟩
  | true =>
    refine ite_tt (chain_link (thn (hc.run pins s3 σ H3 _ I3 q3) fun w' s4 ⟨z', H4, I4, r4, q4⟩ => thn (ho' pins s4 σ H4 y z' u w' _ I4 rr2 r4 q4) fun d2 s5 ⟨z2, H5, I5, r5, k2, e2, q5⟩ => ?_))
    subst e2
    cases r5
    refine wpAny_truthy_bool ?_
    cases k2 with
    | false => exact ite_ff ⟨.bl false, H5, I5, rfl, q5⟩
    | true => exact ite_tt (chain_last (thn (hd.run pins s5 σ H5 _ I5 q5) fun w2 s6 ⟨z3, H6, I6, r6, q6⟩ => ho2 pins s6 σ H6 z' z3 w' w2 Q I6 r4 r6 q6))
theorem pt_chain3 {op op' op2 : CmpOp} {r r' r2 : R2} (ho : OpR X (compareOp op) r) (ho' : OpR X (compareOp op') r') (ho2 : OpR X (compareOp op2) r2) (ha : PE X a ta) (hb : PE X b tb) (hc : PE X c tc) (hd : PE X d td)
    (hm : lastMarks [op, op', op2] [b, c, d] = false) : PT X (.Compare a [op, op', op2] [b, c, d] pos) (tTest (tChain3 r r' r2 ta tb tc td)) := by
  refine ⟨fun pins s σ H Q I h => ?_⟩
  refine isTrue_chain (thn (ha.run pins s σ H _ I h) fun v s1 ⟨x, H1, I1, r1, q1⟩ => test_link (thn (hb.run pins s1 σ H1 _ I1 q1) fun u s2 ⟨y, H2, I2, rr2, q2⟩ =>
    thn (ho pins s2 σ H2 x y v u _ I2 r1 rr2 q2) fun dd s3 ⟨z, H3, I3, r3, k, e, q3⟩ => ?_)) hm
  subst e
  cases r3
  refine wpAny_truthy_bool ?_
  cases k with
  | false =>
    obtain ⟨k', e', q'⟩ := q3
    cases e'
    exact ite_ff ⟨H3, I3, q'⟩
  | true =>
    refine ite_tt (test_link (thn (hc.run pins s3 σ H3 _ I3 q3) fun w' s4 ⟨z', H4, I4, r4, q4⟩ => thn (ho' pins s4 σ H4 y z' u w' _ I4 rr2 r4 q4) fun d2 s5 ⟨z2, H5, I5, r5, k2, e2, q5⟩ => ?_))
    subst e2
    cases r5
    refine wpAny_truthy_bool ?_
    cases k2 with
    | false =>
      obtain ⟨k', e', q'⟩ := q5
      cases e'
      exact ite_ff ⟨H5, I5, q'⟩
    | true =>
      refine ite_tt (test_last (thn (hd.run pins s5 σ H5 _ I5 q5) fun w2 s6 ⟨z3, H6, I6, r6, q6⟩ => thn (ho2 pins s6 σ H6 z' z3 w' w2 _ I6 r4 r6 q6) fun d3 s7 ⟨z4, H7, I7, r7, k3, e3, q7⟩ => ?_))
      subst e3
      cases r7
      exact wpAny_truthy_bool ⟨H7, I7, q7⟩
end
theorem ndist_of : ∀ {ns L : List Int}, L.Nodup → (∀ k, k ∈ L ↔ k ∈ ns) → L.length = ndist ns
  | [], L, _, h => by
    cases L with
    | nil => rfl
    | cons a r => have := (h a).mp (by simp); simp at this
  | x :: r, L, nd, h => by
    unfold ndist
    by_cases hx : x ∈ r
    · rw [if_pos hx]
      refine ndist_of nd fun k => (h k).trans ?_
      rw [List.mem_cons]
      exact ⟨fun q => q.elim (fun e => e ▸ hx) id, .inr⟩
    · rw [if_neg hx]
      have hm : x ∈ L := (h x).mpr (by simp)
      have := ndist_of (ns := r) (L := L.erase x) (nd.erase x) fun k => by
        rw [nd.mem_erase_iff, h k, List.mem_cons]
        constructor
        · rintro ⟨n, e | e⟩
          · exact absurd e n
          · exact e
        · intro q
          exact ⟨fun e => hx (e ▸ q), .inr q⟩
      rw [List.length_erase_of_mem hm] at this
      have : 0 < L.length := List.length_pos_of_mem hm
      omega
theorem met_nodup (val : Nat → Int) : ∀ i, (PyProof.Rows.firstMet val i).Nodup
  | 0 => by rw [PyProof.Rows.firstMet_zero]; exact List.nodup_nil
  | i + 1 => by
    rw [PyProof.Rows.firstMet_succ]
    have ih := met_nodup val i
    unfold PyProof.Rows.step_dedup
    split
    · exact ih
    · rename_i h
      rw [List.nodup_append]
      refine ⟨ih, by simp, fun a ha b hb => ?_⟩
      rw [List.mem_singleton] at hb
      rintro rfl
      subst hb
      exact h (by simp; exact ha)
noncomputable def tLenSetA (K : PySem.W.Frag) (ta : TE) : TE := fun σ H Q => ta σ H fun x H1 => ∃ (l : Addr) (ns : List Int), x = V.ref l ∧ (SqL K H1 l (ns.map V.int) ∨ SqT K H1 l (ns.map V.int)) ∧ ns.length ≤ 1000 ∧ Q (.int (ndist ns)) H1
theorem pe_lenSetA {X : Cx} {a : Expr} {ta : TE} {p p2 q pos : Pos} (hc : X.calm = true) (hg : Gl X "len") (hm : X.mg "len" = none) (hg2 : Gl X "set") (hm2 : X.mg "set" = none) (ha : PE X a ta)
    (na : starEach [a] X.env = (false, eval a X.env) :: starEach [] X.env) : PE X (.Call (.Name "len" p) [.Call (.Name "set" p2) [a] [] q] [] pos) (tLenSetA X.K ta) := by
  refine ⟨fun pins s σ H Q I h => ?_⟩
  refine Call_ (ld_blt I hg hm PySem.boot_len ?_)
  refine PyProof.Rows.callWith_builtin1 (PyProof.Rows.args_cons ?_ rfl) rfl rfl
  refine Call_ (ld_blt I hg2 hm2 PyProof.Rows.boot_set ?_)
  refine PyProof.Rows.callWith_type1 (PyProof.Rows.args_cons (thn (ha.run pins s σ H _ I h) fun v s1 ⟨x, H1, I1, r1, q1⟩ => PyProof.Rows.args_nil ?_) na) na rfl
  obtain ⟨l, ns, rfl, hq, h1, q1⟩ := q1
  cases r1
  rcases hq with hq | hq
  · obtain ⟨its, r, pl, hz⟩ := I1.list hq
    have hl : its.toArray.size = ns.length := by rw [List.size_toArray, ← r.length, List.length_map]
    refine PySem.call_set_list (I1.ok.hd hc) pl.isList (ns := ns) (by simpa using r.ints) (by unfold scanBound; omega) fun h' tk hS hk => ?_
    refine PyProof.Rows.args_nil ?_
    obtain ⟨o, es, ep, t, ho, hex, hd, _, _, _, hf, hn⟩ := hS
    have I2 : Inv X pins σ H1 { s1 with heap := h', toks := tk } := I1.kept fun b o e => hk b o (Heap.lt_size e) e
    have en : (PyProof.Rows.firstMet (fun i => ns.getD i 0) its.toArray.size).length = ndist ns := by
      refine ndist_of (met_nodup _ _) fun k => ?_
      have := PyProof.Rows.firstMet_any (fun i => ns.getD i 0) its.toArray.size k
      have e2 : (List.range its.toArray.size).map (fun i => ns.getD i 0) = ns := by
        rw [hl]
        apply List.ext_getElem
        · simp
        · intro i h1 h2
          simp at h1 ⊢
          rw [List.getElem?_eq_getElem h2]; rfl
      rw [e2] at this
      have k1 : ∀ (L : List Int), L.any (· == k) = true ↔ k ∈ L := fun L => by simp
      rw [← k1, ← k1, this]
    have hle : ndist ns ≤ 1000 := by
      rw [← en]
      exact Nat.le_trans (PyProof.Rows.firstMet_length_le _ _) (by omega)
    exact call_len_set ho hex hd hf (by rw [hn, en] <;> omega) ⟨.int (ndist ns), H1, I2.tok _, ⟨_, by rw [hn, en]⟩, q1⟩
  · obtain ⟨its, r, pl, hz⟩ := I1.tuple hq
    refine call_set_tupI ns (I1.ok.hd hc) (show s1.heap.IsTuple l its.toArray from pl) (by simpa using r.ints) (by unfold scanBound; omega) fun h' tk c hS hle hk => ?_
    refine PyProof.Rows.args_nil ?_
    obtain ⟨o, es, ep, t, ho, hex, hd, _, hnd, hmem, hlt, hf, hn, _⟩ := hS
    have I2 : Inv X pins σ H1 { s1 with heap := h', toks := tk } := I1.kept fun b o e => hk b o e
    have en : es.size = ndist ns := by
      have := ndist_of (ns := ns) hnd fun k => by rw [← hmem k, decide_eq_true_eq]
      simpa using this
    exact call_len_set ho hex hd hf (by rw [hn] <;> omega) ⟨.int (ndist ns), H1, I2.tok _, ⟨_, by rw [en]⟩, q1⟩
theorem mem_dedI {k : Int} : ∀ {is : List Int}, k ∈ dedI is ↔ k ∈ is
  | [] => Iff.rfl
  | x :: r => by
    have ih := mem_dedI (k := k) (is := r)
    simp only [dedI]
    split
    · rename_i h
      rw [ih, List.mem_cons]
      exact ⟨.inr, fun q => q.elim (fun e => e ▸ h) id⟩
    · rw [List.mem_cons, List.mem_cons, ih]
theorem nodup_dedI : ∀ {is : List Int}, (dedI is).Nodup
  | [] => List.nodup_nil
  | x :: r => by
    have ih := nodup_dedI (is := r)
    simp only [dedI]
    split
    · exact ih
    · rename_i h
      exact List.nodup_cons.mpr ⟨fun q => h (mem_dedI.mp q), ih⟩
theorem sortS_of {is ns : List Int} (h : ns.Pairwise (· < ·)) (hm : ∀ k, k ∈ ns ↔ k ∈ is) : ns = sortS is := by
  have p1 : ns.Nodup := h.imp fun h => by omega
  have pm : ns.Perm (dedI is) := (List.perm_ext_iff_of_nodup p1 nodup_dedI).mpr fun k => (hm k).trans mem_dedI.symm
  unfold sortS
  refine List.Perm.eq_of_pairwise (le := fun a b => a ≤ b) (fun a b _ _ h1 h2 => Int.le_antisymm h1 h2) (h.imp fun h => by omega) ?_ (pm.trans (List.mergeSort_perm _ _).symm)
  have := List.pairwise_mergeSort (le := fun (a b : Int) => decide (a ≤ b)) (fun a b c h1 h2 => by simp at *; omega) (fun a b => by simp; omega) (dedI is)
  exact this.imp (fun h => by simpa using h)
noncomputable def tSortSet (K : PySem.W.Frag) (ta : TE) : TE := fun σ H Q => ta σ H fun x H1 => ∃ (l : Addr) (ns : List Int), x = V.ref l ∧ SqT K H1 l (ns.map V.int) ∧ ns.length < 64 ∧ ∀ (out : List Int) (p : Addr), out.Pairwise (· < ·) → (∀ k : Int, k ∈ out ↔ k ∈ ns) → H1 p = none → Q (.ref p) (upd H1 p (.lst (out.map V.int)))
theorem pe_sortSet {X : Cx} {a : Expr} {ta : TE} {p p2 q pos : Pos} (hc : X.calm = true) (hg : Gl X "sorted") (hm : X.mg "sorted" = none) (hg2 : Gl X "set") (hm2 : X.mg "set" = none) (ha : PE X a ta)
    (na : starEach [a] X.env = (false, eval a X.env) :: starEach [] X.env) : PE X (.Call (.Name "sorted" p) [.Call (.Name "set" p2) [a] [] q] [] pos) (tSortSet X.K ta) := by
  refine ⟨fun pins s σ H Q I h => ?_⟩
  refine Call_ (ld_blt I hg hm PyProof.Rows.boot_sorted ?_)
  refine PyProof.Rows.callWith_builtin1 (PyProof.Rows.args_cons ?_ rfl) rfl rfl
  refine Call_ (ld_blt I hg2 hm2 PyProof.Rows.boot_set ?_)
  refine PyProof.Rows.callWith_type1 (PyProof.Rows.args_cons (thn (ha.run pins s σ H _ I h) fun v s1 ⟨x, H1, I1, r1, q1⟩ => PyProof.Rows.args_nil ?_) na) na rfl
  obtain ⟨l, ns, rfl, hq, h1, q1⟩ := q1
  cases r1
  obtain ⟨its, r, pl, hz⟩ := I1.tuple hq
  refine call_set_tupI ns (I1.ok.hd hc) (show s1.heap.IsTuple l its.toArray from pl) (by simpa using r.ints) (by unfold scanBound; omega) fun h' tk c hS hle hk => ?_
  refine PyProof.Rows.args_nil ?_
  have I2 : Inv X pins σ H1 { s1 with heap := h', toks := tk } := I1.kept fun b o e => hk b o e
  refine sorted_set hS (I2.ok.hd hc) (by omega) fun s' p out c' ns' k g o hp hg hi hs hm hl => ?_
  have hlen : (ns'.map V.int).length ≤ sizeLine := by rw [List.length_map, hl, sizeLine_eq]; omega
  have hn : H1 p = none := I2.hok.fresh hp
  have J : Inv X pins σ (upd H1 p (.lst (ns'.map V.int))) { ({ s1 with heap := h', toks := tk } : Shared) with heap := s'.heap, gens := s'.gens, drawn := s'.drawn, toks := s'.toks } :=
    I2.call (ch := []) (Un.laid k hp hn) (I2.hok.laid k hp ⟨hlen, out.toList, c', vals_of_ints hi, hg⟩) (by rw [g]; exact I2.bare) (fun _ z => nomatch z)
  have e : s' = { ({ s1 with heap := h', toks := tk } : Shared) with heap := s'.heap, gens := s'.gens, drawn := s'.drawn, toks := s'.toks } := by
    cases s'
    cases s1
    cases o
    rfl
  rw [e]
  exact ⟨.ref p, _, J, rfl, q1 ns' p hs (fun k => by rw [hm k, decide_eq_true_eq]) hn⟩
end Ev
namespace Ev
open PySem PySem.Spec PyProof.Rows L2
section
variable {X : Cx}
theorem op_fdivA : OpR X (binaryOp .FloorDiv) (rI (fun _ j => j ≠ 0 ∧ j.natAbs.log2 < 9000) fun i j => .int (i.fdiv j)) :=
  opI fun i j _ _ _ _ _ hc q => floordiv_int hc.1 q (.inl (PyProof.noPylong_of_log2 hc.2))
theorem op_powA : OpR X (binaryOp .Pow) (rI (fun i j => 0 ≤ j ∧ (Builtin.Int.intBits i : Int) * j ≤ 2 ^ 27) fun i j => .int (i ^ j.toNat)) :=
  opI fun i j _ _ _ _ _ hc q => pow_int hc.1 hc.2 q
end
theorem line_of {n : Nat} (h : lenOk n = true) : n ≤ sizeLine := by
  have := of_decide_eq_true h
  rw [sizeLine_eq]; omega
theorem line_lt {n : Nat} (h : lenOk n = true) : n < sizeLine := by
  have := of_decide_eq_true h
  rw [sizeLine_eq]; omega
section
variable {X : Cx} {ρ : List Addr} {H H0 H1 : Hp} {σ : L2.St} {W : WX} {st : Stt} {env : Env} {x y : A} {v u : V} {Q : V → Hp → Prop}
/-- a list that may change -/
theorem RA.seqM {K : PySem.W.Frag} {mg : Str → Option Value} {a : A} {v : V} {xs : List D} (s : RS K mg H ρ st) (r : RA K mg H0 H ρ a v) (h : lstM st a = some xs) : ∃ p vs, v = .ref p ∧ H p = some (.lst vs) ∧ RDs K mg H ρ xs vs := by
  cases r with
  | d r =>
    cases r with
    | loc q =>
      obtain ⟨vs, h1, h2⟩ := s.lst q h
      exact ⟨_, vs, rfl, h1, h2⟩
    | _ => cases h
  | l h1 h2 h3 h4 =>
    cases (Option.some.inj h : _ = xs)
    exact ⟨_, _, rfl, h3, h4⟩
theorem RD.tup' {K : PySem.W.Frag} {mg : Str → Option Value} {xs : List D} {v : V} (r : RD K mg H ρ (.tup xs) v) : ∃ a vs, v = .ref a ∧ SqT K H a vs ∧ RDs K mg H ρ xs vs := by
  cases r with
  | tup h t => exact ⟨_, _, rfl, h, t⟩
theorem RA.val {K : PySem.W.Frag} {mg : Str → Option Value} {x : D} {v : V} (r : RA K mg H0 H ρ (.d x) v) : RD K mg H ρ x v := by
  cases r with
  | d r => exact r
theorem RA.int {K : PySem.W.Frag} {mg : Str → Option Value} {i : Int} {v : V} (r : RA K mg H0 H ρ (.d (.int i)) v) : v = .int i := by
  cases r.val; rfl
theorem RA.str {K : PySem.W.Frag} {mg : Str → Option Value} {i : Str} {v : V} (r : RA K mg H0 H ρ (.d (.str i)) v) : v = .str i := by
  cases r.val; rfl
theorem RA.bl {K : PySem.W.Frag} {mg : Str → Option Value} {i : Bool} {v : V} (r : RA K mg H0 H ρ (.d (.bl i)) v) : v = .bl i := by
  cases r.val; rfl
theorem RA.non {K : PySem.W.Frag} {mg : Str → Option Value} {v : V} (r : RA K mg H0 H ρ (.d .non) v) : v = .non := by
  cases r.val; rfl
theorem binA_ok {op : Operator} (s : RS X.K X.mg H ρ st) (r1 : RA X.K X.mg H0 H ρ x v) (r2 : RA X.K X.mg H1 H ρ y u) (h : KR X.K X.mg (RA X.K X.mg) W σ Q H ρ (binA op x y st)) : anyOp X (binaryOp op) v u H Q := by
  unfold binA at h
  split at h
  · obtain rfl := r1.int
    obtain rfl := r2.int
    exact ⟨_, op_add, _, _, rfl, rfl, fin_d h s (.int _)⟩
  · obtain rfl := r1.int
    obtain rfl := r2.int
    exact ⟨_, op_sub, _, _, rfl, rfl, fin_d h s (.int _)⟩
  · obtain rfl := r1.int
    obtain rfl := r2.int
    split at h
    · rename_i c; exact ⟨_, op_mulW, _, _, rfl, rfl, c, fin_d h s (.int _)⟩
    · exact h.elim
  · obtain rfl := r1.int
    obtain rfl := r2.int
    split at h
    · rename_i c; exact ⟨_, op_fdivA, _, _, rfl, rfl, c, fin_d h s (.int _)⟩
    · exact h.elim
  · obtain rfl := r1.int
    obtain rfl := r2.int
    split at h
    · rename_i c; exact ⟨_, op_modN, _, _, rfl, rfl, c, fin_d h s (.int _)⟩
    · exact h.elim
  · obtain rfl := r1.int
    obtain rfl := r2.int
    split at h
    · rename_i c; exact ⟨_, op_powA, _, _, rfl, rfl, c, fin_d h s (.int _)⟩
    · exact h.elim
  · obtain rfl := r1.str
    obtain rfl := r2.str
    split at h
    · rename_i c; exact ⟨_, op_add_str, _, _, rfl, rfl, line_of c, fin_d h s (.str _)⟩
    · exact h.elim
  · obtain ⟨a, vs, rfl, h1, t1⟩ := r1.val.tup'
    obtain ⟨b, ws, rfl, h2, t2⟩ := r2.val.tup'
    split at h
    · rename_i c
      refine ⟨_, op_catA, a, b, vs, ws, rfl, rfl, h1, h2, ?_, fun e => ?_, fun _ e => ?_, fun _ _ p hp => ?_⟩
      · rw [← t1.length, ← t2.length]; exact line_of c
      · subst e; cases t1; exact fin_d h s (by simpa using RD.tup h2 t2)
      · subst e; cases t2; exact fin_d h s (by simpa using RD.tup h1 t1)
      · exact fin_tup h s (t1.append t2) hp
    · exact h.elim
  · obtain ⟨a, vs, rfl, h1, t1⟩ := r1.val.tup'
    obtain rfl := r2.int
    split at h
    · rename_i xs k c
      refine ⟨_, op_repA, a, _, vs, rfl, rfl, h1, c.2.2.1, c.2.2.2, ?_, ?_, fun e => ?_, fun _ p hp => fin_tup h s (t1.flat _) hp⟩
      · rw [← t1.length]; exact of_decide_eq_true c.1
      · rw [← t1.length]; exact of_decide_eq_true c.2.1
      · have : (List.replicate k.toNat xs).flatten = xs := by
          rcases e with e | e
          · subst e
            cases t1
            simp
          · subst e
            simp
        rw [this] at h
        exact fin_d h s (RD.tup h1 t1)
    · exact h.elim
  · split at h
    · rename_i a b xs ys e1 e2
      split at h
      · rename_i c
        obtain ⟨p, vs, rfl, h1, t1⟩ := r1.seqM s e1
        obtain ⟨q, ws, rfl, h2, t2⟩ := r2.seqM s e2
        refine ⟨_, op_cat, p, q, vs, ws, rfl, rfl, h1, h2, ?_, fun p hp => fin_lst h s (t1.append t2) hp⟩
        rw [← t1.length, ← t2.length]; exact line_of c
      · exact h.elim
    · exact h.elim
  · split at h
    · rename_i xs e1
      split at h
      · rename_i c
        obtain ⟨p, vs, rfl, h1, t1⟩ := r1.seqM s e1
        obtain rfl := r2.int
        refine ⟨_, op_rep, p, _, vs, rfl, rfl, h1, by omega, by omega, ?_, fun p hp => fin_lst h s (t1.flat _) hp⟩
        rw [← t1.length]; exact line_of c.1
      · exact h.elim
    · exact h.elim
  · exact h.elim
mutual
theorem toPy_dp {K : PySem.W.Frag} {mg : Str → Option Value} (s : RS K mg H ρ st) : ∀ (n : Nat) (x : D) (d : PyData) (v : V), toPy st n x = some d → RD K mg H ρ x v → Dp K H v d
  | 0, _, _, _, h, _ => by simp [toPy] at h
  | n + 1, x, d, v, h, r => by
    cases r with
    | non => simp [toPy] at h; subst h; exact .non
    | bl b => simp [toPy] at h; subst h; exact .bl b
    | int b => simp [toPy] at h; subst h; exact .int b
    | str b => simp [toPy] at h; subst h; exact .str b
    | ty b => simp [toPy] at h
    | obj b => simp [toPy] at h
    | exn0 _ _ => simp [toPy] at h
    | exn1 _ _ _ _ => simp [toPy] at h
    | tup h1 h2 =>
      simp only [toPy, Option.map_eq_some_iff] at h
      obtain ⟨ds, e, rfl⟩ := h
      exact .tup h1 (toPys_dp s n _ _ _ e h2)
    | rol h1 h2 =>
      simp only [toPy, Option.map_eq_some_iff] at h
      obtain ⟨ds, e, rfl⟩ := h
      exact .lst h1.l (toPys_dp s n _ _ _ e h2)
    | loc h1 =>
      simp only [toPy] at h
      split at h
      · rename_i xs e1
        simp only [Option.map_eq_some_iff] at h
        obtain ⟨ds, e, rfl⟩ := h
        obtain ⟨vs, g1, g2⟩ := s.lst h1 e1
        exact .lst (.inl (.inl g1)) (toPys_dp s n _ _ _ e g2)
      · cases h
theorem toPys_dp {K : PySem.W.Frag} {mg : Str → Option Value} (s : RS K mg H ρ st) : ∀ (n : Nat) (x : List D) (d : List PyData) (v : List V), toPys st n x = some d → RDs K mg H ρ x v → DpAll K H v d
  | 0, _, _, _, h, _ => by simp [toPys] at h
  | n + 1, x, d, v, h, r => by
    cases r with
    | nil => simp [toPys] at h; subst h; exact .nil
    | cons h1 h2 =>
      simp only [toPys] at h
      split at h
      · rename_i a b e1 e2
        cases h
        exact .cons (toPy_dp s n _ _ _ e1 h1) (toPys_dp s n _ _ _ e2 h2)
      · cases h
end
theorem RA.dp {K : PySem.W.Frag} {mg : Str → Option Value} (s : RS K mg H ρ st) {d : PyData} (r : RA K mg H0 H ρ x v) (h : toPyA st x = some d) : Dp K H v d := by
  cases r with
  | d r =>
    simp only [toPyA, toPyX] at h
    split at h
    · rename_i e
      cases h
      exact toPy_dp s _ _ _ _ e r
    · split at h
      · rename_i q
        cases h
        obtain ⟨n, e⟩ := Classical.choose_spec q
        exact toPy_dp s _ _ _ _ e r
      · cases h
  | l h1 h2 h3 h4 =>
    simp only [toPyA, Option.map_eq_some_iff] at h
    obtain ⟨ds, e, rfl⟩ := h
    exact .lst (.inl (.inl h3)) (toPys_dp s _ _ _ _ e h4)
theorem eqA_dp {K : PySem.W.Frag} {mg : Str → Option Value} (s : RS K mg H ρ st) {b : Bool} (r1 : RA K mg H0 H ρ x v) (r2 : RA K mg H1 H ρ y u) (h : eqA st x y = some b) :
    (∃ d e, Dp K H v d ∧ Dp K H u e ∧ SeqAt.shaped d = true ∧ SeqAt.shaped e = true ∧ b = PyData.eqv d e) ∨ ∃ p q, v = .str p ∧ u = .str q ∧ b = decide (p = q) := by
  unfold eqA at h
  split at h
  · rename_i d e h1 h2
    split at h
    · rename_i c
      cases h
      exact .inl ⟨d, e, r1.dp s h1, r2.dp s h2, c.1, c.2, rfl⟩
    · unfold strs2 at h
      split at h
      · cases h
        cases r1 with
        | d r1 => cases r1; cases r2 with
          | d r2 => cases r2; exact .inr ⟨_, _, rfl, rfl, rfl⟩
      · cases h
  · cases h
theorem RA.isN {K : PySem.W.Frag} {mg : Str → Option Value} (r : RA K mg H0 H ρ x v) : decide (v = .non) = (match x with | .d .non => true | _ => false) := by
  cases r with
  | d r => cases r <;> simp
  | l h1 h2 h3 h4 => simp
theorem emp2_ok {K : PySem.W.Frag} {mg : Str → Option Value} (s : RS K mg H ρ st) {b : Bool} (r1 : RA K mg H0 H ρ x v) (r2 : RA K mg H1 H ρ y u) (h : emp2 st x y = some b) :
    ∃ p p2 vs ws, v = .ref p ∧ u = .ref p2 ∧ ((SqT K H p vs ∧ SqT K H p2 ws) ∨ (SqL K H p vs ∧ SqL K H p2 ws)) ∧ (vs = [] ∨ ws = []) ∧ b = decide (vs.length = ws.length) := by
  have emp : ∀ {xs ys : List D} {vs ws : List V}, RDs K mg H ρ xs vs → RDs K mg H ρ ys ws → (xs.isEmpty || ys.isEmpty) = true → (vs = [] ∨ ws = []) := fun t1 t2 h => by
    rcases Bool.or_eq_true_iff.mp h with h | h
    · rw [List.isEmpty_iff] at h; subst h; cases t1; exact .inl rfl
    · rw [List.isEmpty_iff] at h; subst h; cases t2; exact .inr rfl
  unfold emp2 at h
  split at h
  · rename_i xs ys e1 e2
    split at h
    · rename_i c
      cases h
      have a1 : x = .d (.tup xs) := by
        cases x with
        | d z => cases z <;> simp [tupOf] at e1; rw [e1]
        | l z => simp [tupOf] at e1
      have a2 : y = .d (.tup ys) := by
        cases y with
        | d z => cases z <;> simp [tupOf] at e2; rw [e2]
        | l z => simp [tupOf] at e2
      subst a1 a2
      obtain ⟨p, vs, rfl, h1, t1⟩ := r1.val.tup'
      obtain ⟨p2, ws, rfl, h2, t2⟩ := r2.val.tup'
      exact ⟨p, p2, vs, ws, rfl, rfl, .inl ⟨h1, h2⟩, emp t1 t2 c, by rw [t1.length, t2.length]⟩
    · cases h
  · split at h
    · rename_i xs ys e1 e2
      split at h
      · rename_i c
        cases h
        obtain ⟨p, vs, rfl, h1, t1⟩ := r1.seqL s e1
        obtain ⟨p2, ws, rfl, h2, t2⟩ := r2.seqL s e2
        exact ⟨p, p2, vs, ws, rfl, rfl, .inr ⟨h1, h2⟩, emp t1 t2 c, by rw [t1.length, t2.length]⟩
      · cases h
    · cases h
  · cases h
theorem vF_ok {K : PySem.W.Frag} {mg : Str → Option Value} {d : D} {w : V} (f : flatD d = true) (r : RD K mg H ρ d w) : w = vF d ∧ flatV w = true := by
  cases d <;> first | (cases f; done) | (cases r; exact ⟨rfl, rfl⟩)
theorem vFs_ok {K : PySem.W.Frag} {mg : Str → Option Value} : ∀ {xs : List D} {ws : List V}, xs.all flatD = true → RDs K mg H ρ xs ws → ws = xs.map vF ∧ ws.all flatV = true
  | [], _, _, r => by cases r; exact ⟨rfl, rfl⟩
  | x :: xs, _, f, r => by
    rw [List.all_cons, Bool.and_eq_true] at f
    cases r with
    | cons a t =>
      obtain ⟨rfl, h1⟩ := vF_ok f.1 a
      obtain ⟨rfl, h2⟩ := vFs_ok f.2 t
      exact ⟨rfl, by rw [List.all_cons, h1, h2]; rfl⟩
/-- in a row of plain data -/
noncomputable def rInT (K : PySem.W.Frag) (f : Bool → Bool) : R2 := fun x y H Q => ∃ d ds, Dp K H x d ∧ ((Dp K H y (.list ds) ∧ SeqAt.shaped (.list ds) = true) ∨ (Dp K H y (.tuple ds) ∧ SeqAt.shaped (.tuple ds) = true)) ∧ SeqAt.shaped d = true ∧ d.depth ≤ 8 ∧ Q (.bl (f (ds.any fun z => PyData.eqv z d))) H
theorem op_inT (hu : X.A.units + 64 < cLine) : OpR X (compareOp .In) (rInT X.K id) := by
  intro pins s σ H x y v u Q I rx ry h
  obtain ⟨d, ds, hd, he, sd, dd, q⟩ := h
  obtain ⟨as, r1⟩ := Dp.reads I d x v hd rx
  rcases he with ⟨he, se⟩ | ⟨he, se⟩
  · obtain ⟨bs, r2⟩ := Dp.reads I (.list ds) y u he ry
    exact SeqAt.in_list_reads r2 r1 (SeqAt.canLay_of_shaped se) (SeqAt.canLay_of_shaped sd) (by omega) ⟨.bl _, H, I, rfl, q⟩
  · obtain ⟨bs, r2⟩ := Dp.reads I (.tuple ds) y u he ry
    exact SeqAt.in_tuple_reads r2 r1 (SeqAt.canLay_of_shaped se) (SeqAt.canLay_of_shaped sd) (by omega) ⟨.bl _, H, I, rfl, q⟩
theorem op_notInT (hu : X.A.units + 64 < cLine) : OpR X (compareOp .NotIn) (rInT X.K not) := by
  intro pins s σ H x y v u Q I rx ry h
  obtain ⟨d, ds, hd, he, sd, dd, q⟩ := h
  obtain ⟨as, r1⟩ := Dp.reads I d x v hd rx
  rcases he with ⟨he, se⟩ | ⟨he, se⟩
  · obtain ⟨bs, r2⟩ := Dp.reads I (.list ds) y u he ry
    exact SeqAt.notIn_list_reads r2 r1 (SeqAt.canLay_of_shaped se) (SeqAt.canLay_of_shaped sd) (by omega) ⟨.bl _, H, I, rfl, q⟩
  · obtain ⟨bs, r2⟩ := Dp.reads I (.tuple ds) y u he ry
    exact SeqAt.notIn_tuple_reads r2 r1 (SeqAt.canLay_of_shaped se) (SeqAt.canLay_of_shaped sd) (by omega) ⟨.bl _, H, I, rfl, q⟩
theorem inD_ok {K : PySem.W.Frag} {mg : Str → Option Value} (s : RS K mg H ρ st) {b : Bool} (r1 : RA K mg H0 H ρ x v) (r2 : RA K mg H1 H ρ y u) (h : inD st x y = some b) :
    ∃ d ds, Dp K H v d ∧ ((Dp K H u (.list ds) ∧ SeqAt.shaped (.list ds) = true) ∨ (Dp K H u (.tuple ds) ∧ SeqAt.shaped (.tuple ds) = true)) ∧ SeqAt.shaped d = true ∧ d.depth ≤ 8 ∧ b = ds.any fun z => PyData.eqv z d := by
  unfold inD at h
  split at h
  · rename_i d ds h1 h2
    split at h
    · rename_i c
      cases h
      exact ⟨d, ds, r1.dp s h1, .inr ⟨r2.dp s h2, c.2.1⟩, c.1, c.2.2, rfl⟩
    · cases h
  · rename_i d ds h1 h2
    split at h
    · rename_i c
      cases h
      exact ⟨d, ds, r1.dp s h1, .inl ⟨r2.dp s h2, c.2.1⟩, c.1, c.2.2, rfl⟩
    · cases h
  · cases h
theorem inA_ok {K : PySem.W.Frag} {mg : Str → Option Value} (s : RS K mg H ρ st) {b : Bool} (r1 : RA K mg H0 H ρ x v) (r2 : RA K mg H1 H ρ y u) (h : inA st x y = some b) :
    ((∃ p ws, u = .ref p ∧ (SqL K H p ws ∨ SqT K H p ws) ∧ flatV v = true ∧ ws.all flatV = true ∧ b = inV v ws) ∨ inD st x y = some b) ∨ ∃ p vs i, v = .int i ∧ u = .ref p ∧ H p = some (.dK vs) ∧ b = (valV vs (Sum.inl i)).isSome := by
  unfold inA at h
  split at h
  · rename_i d ys e
    split at h
    · rename_i c
      cases h
      obtain ⟨p, ws, rfl, hq, t⟩ := r2.seq s e
      obtain ⟨rfl, f1⟩ := vF_ok c.1 r1.val
      obtain ⟨rfl, f2⟩ := vFs_ok c.2 t
      refine .inl (.inl ⟨p, _, rfl, hq, f1, f2, ?_⟩)
      unfold inV
      rw [List.any_map]
      rfl
    · exact .inl (.inr h)
  · rename_i i _
    split at h
    · rename_i l
      simp only [Option.map_eq_some_iff] at h
      obtain ⟨kvs, e, rfl⟩ := h
      obtain rfl := r1.int
      cases r2 with
      | d r2 =>
        cases r2 with
        | loc q =>
          obtain ⟨vs, g1, g2⟩ := s.dic q e
          exact .inr ⟨_, vs, i, rfl, rfl, g1, (g2.get _).2⟩
    · cases h
  · cases h
theorem intsOf_ok {K : PySem.W.Frag} {mg : Str → Option Value} : ∀ {xs : List D} {bs : List Int} {vs : List V}, intsOf xs = some bs → RDs K mg H ρ xs vs → vs = bs.map V.int
  | [], _, _, h, r => by cases h; cases r; rfl
  | .int b :: xs, _, _, h, r => by
    simp only [intsOf, Option.map_eq_some_iff] at h
    obtain ⟨cs, h, rfl⟩ := h
    cases r with
    | cons r1 r2 =>
      cases r1
      rw [intsOf_ok h r2]; rfl
  | .non :: _, _, _, h, _ => by simp [intsOf] at h
  | .bl _ :: _, _, _, h, _ => by simp [intsOf] at h
  | .str _ :: _, _, _, h, _ => by simp [intsOf] at h
  | .ty _ :: _, _, _, h, _ => by simp [intsOf] at h
  | .tup _ :: _, _, _, h, _ => by simp [intsOf] at h
  | .rol _ :: _, _, _, h, _ => by simp [intsOf] at h
  | .loc _ :: _, _, _, h, _ => by simp [intsOf] at h
  | .obj _ :: _, _, _, h, _ => by simp [intsOf] at h
  | .exn _ _ :: _, _, _, h, _ => by simp [intsOf] at h
  | .clo _ _ :: _, _, _, h, _ => by simp [intsOf] at h
theorem lexA_ok {le b : Bool} {xs ys : List D} (hu : X.A.units + 64 < cLine) (r1 : RA X.K X.mg H0 H ρ (.d (.tup xs)) v) (r2 : RA X.K X.mg H1 H ρ (.d (.tup ys)) u) (h : lexA le xs ys = some b) (q : Q (.bl b) H) : anyOp X (compareOp (if le = true then .LtE else .Lt)) v u H Q := by
  obtain ⟨p, vs, rfl, h1, t1⟩ := r1.val.tup'
  obtain ⟨p2, ws, rfl, h2, t2⟩ := r2.val.tup'
  unfold lexA at h
  split at h
  · rename_i ns ms e1 e2
    obtain rfl := intsOf_ok e1 t1
    obtain rfl := intsOf_ok e2 t2
    cases h
    cases le
    · exact ⟨_, op_ltT (by omega), p, p2, ns, ms, rfl, rfl, h1, h2, q⟩
    · exact ⟨_, op_leT (by omega), p, p2, ns, ms, rfl, rfl, h1, h2, q⟩
  · cases h
theorem cmpA_ok {op : CmpOp} {b : Bool} (hu : X.A.units + 64 < cLine) (s : RS X.K X.mg H ρ st) (r1 : RA X.K X.mg H0 H ρ x v) (r2 : RA X.K X.mg H1 H ρ y u) (h : cmpA op x y st = some b) (q : Q (.bl b) H) : anyOp X (compareOp op) v u H Q := by
  unfold cmpA at h
  split at h
  · obtain rfl := r1.int; obtain rfl := r2.int; cases h; exact ⟨_, op_lt, _, _, rfl, rfl, q⟩
  · obtain rfl := r1.int; obtain rfl := r2.int; cases h; exact ⟨_, op_le, _, _, rfl, rfl, q⟩
  · obtain rfl := r1.int; obtain rfl := r2.int; cases h; exact ⟨_, op_gt, _, _, rfl, rfl, q⟩
  · obtain rfl := r1.int; obtain rfl := r2.int; cases h; exact ⟨_, op_ge, _, _, rfl, rfl, q⟩
  · exact lexA_ok (le := false) hu r1 r2 h q
  · exact lexA_ok (le := true) hu r1 r2 h q
  · unfold eqB at h
    split at h
    · rename_i r e
      cases h
      obtain ⟨p, p2, vs, ws, rfl, rfl, h1, h2, rfl⟩ := emp2_ok s r1 r2 e
      exact ⟨_, op_eqE hu, p, p2, vs, ws, rfl, rfl, h1, h2, q⟩
    · rcases eqA_dp s r1 r2 h with ⟨d, e, h1, h2, h3, h4, rfl⟩ | ⟨x1, x2, rfl, rfl, rfl⟩
      · exact ⟨_, op_eqD hu, d, e, h1, h2, h3, h4, q⟩
      · exact ⟨_, op_eq, rfl, by simpa using q⟩
  · simp only [Option.map_eq_some_iff] at h
    obtain ⟨c, h, rfl⟩ := h
    unfold eqB at h
    split at h
    · rename_i r e
      cases h
      obtain ⟨p, p2, vs, ws, rfl, rfl, h1, h2, rfl⟩ := emp2_ok s r1 r2 e
      exact ⟨_, op_neE hu, p, p2, vs, ws, rfl, rfl, h1, h2, q⟩
    · rcases eqA_dp s r1 r2 h with ⟨d, e, h1, h2, h3, h4, rfl⟩ | ⟨x1, x2, rfl, rfl, rfl⟩
      · exact ⟨_, op_neD hu, d, e, h1, h2, h3, h4, q⟩
      · exact ⟨_, op_ne, rfl, by simpa using q⟩
  · rcases inA_ok s r1 r2 h with (⟨p, ws, rfl, h1, h2, h3, rfl⟩ | h) | ⟨p, vs, i, rfl, rfl, h1, rfl⟩
    · exact ⟨_, op_in_seq, p, ws, rfl, h1, h2, h3, by simpa [rIn] using q⟩
    · obtain ⟨d, ds, h1, h2, h3, h4, rfl⟩ := inD_ok s r1 r2 h
      exact ⟨_, op_inT hu, d, ds, h1, h2, h3, h4, q⟩
    · exact ⟨_, op_inDc hu, p, vs, i, rfl, rfl, h1, q⟩
  · simp only [Option.map_eq_some_iff] at h
    obtain ⟨c, h, rfl⟩ := h
    rcases inA_ok s r1 r2 h with (⟨p, ws, rfl, h1, h2, h3, rfl⟩ | h) | ⟨p, vs, i, rfl, rfl, h1, rfl⟩
    · exact ⟨_, op_notIn_seq, p, ws, rfl, h1, h2, h3, by simpa [rIn] using q⟩
    · obtain ⟨d, ds, h1, h2, h3, h4, rfl⟩ := inD_ok s r1 r2 h
      exact ⟨_, op_notInT hu, d, ds, h1, h2, h3, h4, q⟩
    · exact ⟨_, op_ninDc hu, p, vs, i, rfl, rfl, h1, q⟩
  · obtain rfl := r1.non; obtain rfl := r2.non; cases h; exact ⟨_, op_isN, rfl, by simpa using q⟩
  · obtain rfl := r1.bl; obtain rfl := r2.bl; cases h; exact ⟨_, op_isBl, _, _, rfl, rfl, q⟩
  · obtain rfl := r2.non; cases h
    refine ⟨_, op_isN, rfl, ?_⟩
    have e := r1.isN
    split at e
    · rename_i hh; exact (hh rfl).elim
    · rw [e]; exact q
  · obtain rfl := r1.non; obtain rfl := r2.non; cases h; exact ⟨_, op_notN, rfl, by simpa using q⟩
  · obtain rfl := r1.bl; obtain rfl := r2.bl; cases h; exact ⟨_, op_notBl, _, _, rfl, rfl, q⟩
  · obtain rfl := r2.non; cases h
    refine ⟨_, op_notN, rfl, ?_⟩
    have e := r1.isN
    split at e
    · rename_i hh; exact (hh rfl).elim
    · rw [e]; exact q
  · cases h
end
end Ev
namespace Ev
open PySem PySem.Spec PyProof.Rows L2
/-- the modules' table stands in the base -/
noncomputable def SmB (base : Heap) : Prop := ∃ o, base.get? sysModules = some o
section
variable {X : Cx} {pins : List (Addr × Obj)} {σ : L2.St} {H : Hp} {s : Shared} {ρ : List Addr} {st : Stt}
theorem sm_ne (I : Inv X pins σ H s) (sm : SmB X.base) {a : Addr} {o : HO} (e : H a = some o) : a ≠ sysModules := fun z => by
  obtain ⟨ob, h⟩ := sm
  rw [z, (I.bs _ _ h).2] at e
  cases e
mutual
theorem toPyR_reads (I : Inv X pins σ H s) (sm : SmB X.base) (rs : RS X.K X.mg H ρ st) : ∀ (n : Nat) (x : D) (d : PyData) (v : V) (u : Value), toPyR st n x = some d → RD X.K X.mg H ρ x v → RelV v u → ∃ as, Reads s.heap u d as ∧ sysModules ∉ as
  | 0, _, _, _, _, h, _, _ => by simp [toPyR] at h
  | n + 1, x, d, v, u, h, r, ru => by
    cases r with
    | non => simp [toPyR] at h; subst h; cases ru; exact ⟨[], .none, by simp⟩
    | bl b => simp [toPyR] at h; subst h; cases ru; exact ⟨[], .bool b, by simp⟩
    | int b => simp [toPyR] at h; subst h; obtain ⟨t, rfl⟩ := ru; exact ⟨[], .int b t, by simp⟩
    | str b => simp [toPyR] at h; subst h; obtain ⟨t, rfl⟩ := ru; exact ⟨[], .str b t, by simp⟩
    | ty b => simp [toPyR] at h
    | obj b => simp [toPyR] at h
    | exn0 _ _ => simp [toPyR] at h
    | exn1 _ _ _ _ => simp [toPyR] at h
    | rol _ _ => simp [toPyR] at h
    | tup h1 h2 =>
      simp only [toPyR, Option.map_eq_some_iff] at h
      obtain ⟨ds, e, rfl⟩ := h
      cases ru
      obtain ⟨zs, rz, ⟨o, ho, hc, m, hd⟩, _⟩ := I.tuple h1
      obtain ⟨as, q1, q2⟩ := toPysR_reads I sm rs n _ ds _ zs e h2 rz
      exact ⟨as, .tuple ho hc hd q1, q2⟩
    | loc h1 =>
      cases ru
      simp only [toPyR] at h
      split at h
      · rename_i xs e1
        simp only [Option.map_eq_some_iff] at h
        obtain ⟨ds, e, rfl⟩ := h
        cases rs.at' _ _ _ h1 e1 with
        | lst g1 g2 =>
          obtain ⟨zs, rz, ⟨o, m, ho, hc, _, hd⟩, _⟩ := I.list (.inl (.inl g1))
          obtain ⟨as, q1, q2⟩ := toPysR_reads I sm rs n _ ds _ zs e g2 rz
          refine ⟨_ :: as, .list ho hc hd q1, fun z => ?_⟩
          rcases List.mem_cons.mp z with z | z
          · exact sm_ne I sm g1 z.symm
          · exact q2 z
      · rename_i e1
        cases h
        cases rs.at' _ _ _ h1 e1 with
        | dic g1 g2 =>
          cases g2
          obtain ⟨_, nm, vs, kv, o, es, ep, ho, hx, hd, _, pr, _⟩ := dk_of I.hok g1
          cases kv
          have e0 : es.toList = [] := by cases hq : es.toList with
            | nil => rfl
            | cons a b => rw [hq] at pr; cases pr
          refine ⟨[_], .dict (as := []) (bs := []) ho hx.1 hd (by rw [e0]; exact .nil) (by rw [e0]; exact .nil), fun z => ?_⟩
          simp only [List.mem_singleton, List.append_nil] at z
          exact sm_ne I sm g1 z.symm
      · cases h
theorem toPysR_reads (I : Inv X pins σ H s) (sm : SmB X.base) (rs : RS X.K X.mg H ρ st) : ∀ (n : Nat) (xs : List D) (ds : List PyData) (vs : List V) (us : List Value), toPysR st n xs = some ds → RDs X.K X.mg H ρ xs vs → Vals vs us → ∃ as, ReadsAll s.heap us ds as ∧ sysModules ∉ as
  | 0, _, _, _, _, h, _, _ => by simp [toPysR] at h
  | n + 1, xs, ds, vs, us, h, r, ru => by
    cases r with
    | nil => simp [toPysR] at h; subst h; cases ru; exact ⟨[], .nil, by simp⟩
    | cons r1 r2 =>
      cases ru with
      | cons u1 u2 =>
        simp only [toPysR] at h
        split at h
        · rename_i a b e1 e2
          cases h
          obtain ⟨as, q1, q2⟩ := toPyR_reads I sm rs n _ _ _ _ e1 r1 u1
          obtain ⟨bs, q3, q4⟩ := toPysR_reads I sm rs n _ _ _ _ e2 r2 u2
          exact ⟨as ++ bs, .cons q1 q3, fun z => (List.mem_append.mp z).elim q2 q4⟩
        · cases h
end
end
section
variable {X : Cx}
/-- repr of a thing -/
theorem call_reprD (sm : SmB X.base) (gu : X.A.guards = some []) (hu : X.A.units + 64 < cLine) : CallR X (.builtin "repr") (fun xs H Q => ∃ v d ρ st n x, xs = [v] ∧ RS X.K X.mg H ρ st ∧ RD X.K X.mg H ρ x v ∧ toPyR st n x = some d ∧ PyData.showable d = true ∧ d.depth ≤ 20 ∧ d.shown.length ≤ sizeLine ∧ Q (.str d.shown) H) := by
  intro pins s σ H xs us Q I r ⟨v, d, ρ, st, n, x, e1, rs, rd, hp, sh, dp, ln, q⟩
  subst e1
  obtain ⟨u, rfl, ru⟩ := vals1 r
  obtain ⟨as, r1, r2⟩ := toPyR_reads I sm rs n x d v u hp rd ru
  cases r1 with
  | none => exact PySem.P.repr_of_none ⟨.str _, H, I.tok _, ⟨_, rfl⟩, q⟩
  | bool b => exact PySem.P.repr_of_bool ⟨.str _, H, I.tok _, ⟨_, rfl⟩, q⟩
  | int i t => exact PySem.P.repr_of_int (by simpa [PyData.showable] using sh) ⟨.str _, H, I.tok _, ⟨_, rfl⟩, q⟩
  | str z t => exact PySem.P.repr_of_str ⟨.str _, H, I.tok _, ⟨_, rfl⟩, q⟩ ln
  | list h1 h2 h3 h4 =>
    refine repr_of_reads' (h₀ := s.heap) (.list h1 h2 h3 h4) sh (fun _ => r2) gu (by omega) (fun _ _ e => e) (fun h' u tk hk => ?_) ln
    exact ⟨.str _, H, I.kept hk, ⟨_, rfl⟩, q⟩
  | tuple h1 h2 h3 h4 =>
    refine repr_of_reads' (h₀ := s.heap) (.tuple h1 h2 h3 h4) sh (fun _ => r2) gu (by omega) (fun _ _ e => e) (fun h' u tk hk => ?_) ln
    exact ⟨.str _, H, I.kept hk, ⟨_, rfl⟩, q⟩
  | dict h1 h2 h3 h4 h5 =>
    refine repr_of_reads' (h₀ := s.heap) (.dict h1 h2 h3 h4 h5) sh (fun _ => r2) gu (by omega) (fun _ _ e => e) (fun h' u tk hk => ?_) ln
    exact ⟨.str _, H, I.kept hk, ⟨_, rfl⟩, q⟩
end
end Ev
namespace Ev
open PySem PySem.Spec PyProof.Rows L2
/-- a row at l: a tuple (true) or a list -/
noncomputable def SA (t : Bool) (h : Heap) (l : Addr) (xs : Array Value) : Prop := match t with
  | true => h.IsTuple l xs
  | false => h.IsList l xs
/-- what walks it -/
noncomputable def IA (t : Bool) (h : Heap) (it l : Addr) (k : Nat) : Prop := match t with
  | true => h.IsTupleIter it l k
  | false => h.IsListIter it l k
noncomputable def itObj (t : Bool) (l : Addr) : Obj := match t with
  | true => { cls := .type "tuple_iterator", data := .fields #[.ref l, .int 0 0] }
  | false => { cls := .type "list_iterator", data := .fields #[.ref l, .int 0 0] }
section
variable {t : Bool} {h g : Heap} {l it b : Addr} {xs : Array Value} {k : Nat}
theorem SA.eb (q : SA t h l xs) (e : Heap.ExtBut b h g) (n : l ≠ b) : SA t g l xs := by
  cases t
  · exact Heap.IsList.extBut q e n
  · exact Heap.IsTuple.extBut q e n
theorem SA.psh (q : SA t h l xs) (o : Obj) : SA t (h.push o) l xs := by
  cases t
  · exact Heap.IsList.push q o
  · exact Heap.IsTuple.push q o
theorem SA.lt (q : SA t h l xs) : l < h.objs.size := by
  cases t
  · obtain ⟨o, e, _⟩ := q; exact Heap.lt_size e
  · obtain ⟨o, e, _⟩ := q; exact Heap.lt_size e
theorem IA.eb (q : IA t h it l k) (e : Heap.ExtBut b h g) (n : it ≠ b) : IA t g it l k := by
  cases t
  · exact Heap.IsListIter.extBut q e n
  · exact Heap.IsTupleIter.extBut q e n
theorem IA.on (q : IA t h it l k) (e : ∀ o, h.get? it = some o → g.get? it = some o) : IA t g it l k := by
  cases t
  · exact Heap.IsListIter.at q e
  · exact Heap.IsTupleIter.at q e
theorem IA.lt (q : IA t h it l k) : it < h.objs.size := by
  cases t
  · obtain ⟨o, e, _⟩ := q; exact Heap.lt_size e
  · obtain ⟨o, e, _⟩ := q; exact Heap.lt_size e
theorem IA.obj (q : IA t h it l k) : ∃ o, h.get? it = some o ∧ o.data = .fields #[.ref l, .int k 0] := by
  cases t
  · obtain ⟨o, e, _, d⟩ := q; exact ⟨o, e, d⟩
  · obtain ⟨o, e, _, d⟩ := q; exact ⟨o, e, d⟩
theorem IA.new (e : h.get? it = some (itObj t l)) : IA t h it l 0 := by
  cases t
  · exact ⟨_, e, rfl, rfl⟩
  · exact ⟨_, e, rfl, rfl⟩
theorem itObj_free : (itObj t l).isFreed = false := by cases t <;> rfl
end
section
variable {prog : Program} {w : World} {A : Around} {E : Value → Shared → Prop} {s : Shared}
theorem nx_item {t : Bool} {it l : Addr} {k : Nat} {xs : Array Value} {x : Value} {Q : Value → Shared → Prop} (p : IA t s.heap it l k) (q : SA t s.heap l xs) (e : xs[k]? = some x)
    (go : ∀ g, IA t g it l (k + 1) → Heap.SameBut it s.heap g → Q x { s with heap := g }) : wpAny (model prog w) A (Builtin.SmallTypes.nextOf (.ref it)) Q E s := by
  cases t
  · exact wpAny_nextOf_list_item p q e go
  · exact RZ.nextOf_tuple_item p q e go
theorem nx_end {t : Bool} {it l : Addr} {k : Nat} {xs : Array Value} {Q : Value → Shared → Prop} (hh : A.handled = none) (p : IA t s.heap it l k) (q : SA t s.heap l xs) (e : xs[k]? = none)
    (go : ∀ g v, Heap.ExtBut it s.heap g → (∃ o, g.get? v = some o ∧ o.cls = .type "StopIteration") → E (.ref v) { s with heap := g }) : wpAny (model prog w) A (Builtin.SmallTypes.nextOf (.ref it)) Q E s := by
  cases t
  · exact wpAny_nextOf_list_end hh p q e go
  · exact RZ.nextOf_tuple_end hh p q e go
theorem zq_item {t u : Bool} {z TI TO i j l m : Addr} {k n : Nat} {xs ys : Array Value} {x y a b : Value} {Q : Value → Shared → Prop} (ap : ZipApart z TI TO i j l m)
    (gz : IsZip s.heap z TI TO .none) (gi : IsPair s.heap TI (.ref i) (.ref j)) (go : IsPair s.heap TO a b)
    (p1 : IA t s.heap i l k) (p2 : IA u s.heap j m n) (q1 : SA t s.heap l xs) (q2 : SA u s.heap m ys) (ex : xs[k]? = some x) (ey : ys[n]? = some y)
    (fin : ∀ g, IsZip g z TI TO (rawInt s.heap.objs.size) → IsPair g TO x y → IA t g i l (k + 1) → IA u g j m (n + 1) → IsPair g s.heap.objs.size x y → g.objs.size = s.heap.objs.size + 1 →
      (∀ c o, c ≠ z → c ≠ TO → c ≠ i → c ≠ j → s.heap.get? c = some o → g.get? c = some o) → Q (.ref s.heap.objs.size) { s with heap := g }) :
    wpAny (model prog w) A (Builtin.«zip.__next__» ⟨[.ref z], []⟩) (fun f s' => ∃ v, f = .done (.ret v) ∧ Q v s') E s := by
  show wpAny _ _ (field (Value.ref z) 2 >>= _) _ _ s
  refine wpAny_bind (wpAny_field gz rfl (x := .bool false) rfl ?_)
  show wpAny _ _ (field (Value.ref z) 3 >>= _) _ _ s
  refine wpAny_bind (wpAny_field gz rfl (x := .ref TI) rfl ?_)
  refine wpAny_bind (wpAny_seqItems gi rfl ?_)
  show wpAny _ _ (Builtin.SmallTypes.ownedTupleIsFree (Value.ref z) >>= _) _ _ s
  refine wpAny_bind ?_
  unfold Builtin.SmallTypes.ownedTupleIsFree
  refine wpAny_bind (wpAny_field gz rfl (x := .none) rfl (wpAny_pure ?_))
  simp only [if_true]
  refine wpAny_bind (wpAny_rule ?_)
  refine wpAny_bind (wpAny_field gz rfl (x := .ref TO) rfl ?_)
  refine wpAny_bind (wpAny_setField_rec gz (by simp) fun A1 z1 d1 => ?_)
  replace z1 : IsZip A1 z TI TO .ellipsis := z1
  refine wpAny_bind ?_
  simp only [List.zipIdx_cons, List.zipIdx_nil, List.forIn_cons, List.forIn_nil]
  refine wpAny_bind (wpAny_bind (wpAny_onRaise ?_))
  show wpAny _ _ (Builtin.SmallTypes.nextOf (Value.ref i) >>= _) _ _ _
  refine wpAny_bind (nx_item (p1.eb d1.extBut ap.i1z) (q1.eb d1.extBut ap.l1z) ex fun A2 p12 d2 => wpAny_pure ?_)
  have o2 : IsPair A2 TO a b := d2.extBut _ _ ap.TOi1 (d1.extBut _ _ ap.TOz go)
  refine wpAny_bind (wpAny_seqItems o2 rfl ?_)
  refine wpAny_bind (wpAny_updateSeq_pair o2 fun A3 o3 d3 => ?_)
  replace o3 : IsPair A3 TO x b := o3
  refine wpAny_bind (wpAny_letGo (wpAny_pure ?_))
  refine wpAny_bind (wpAny_bind (wpAny_onRaise ?_))
  show wpAny _ _ (Builtin.SmallTypes.nextOf (Value.ref j) >>= _) _ _ _
  refine wpAny_bind (nx_item (((p2.eb d1.extBut ap.i2z).eb d2.extBut ap.i12.symm).eb d3.extBut ap.TOi2.symm) (((q2.eb d1.extBut ap.l2z).eb d2.extBut ap.l2i1).eb d3.extBut ap.l2TO) ey fun A4 p24 d4 => wpAny_pure ?_)
  have o4 : IsPair A4 TO x b := d4.extBut _ _ ap.TOi2 o3
  refine wpAny_bind (wpAny_seqItems o4 rfl ?_)
  refine wpAny_bind (wpAny_updateSeq_pair o4 fun A5 o5 d5 => ?_)
  replace o5 : IsPair A5 TO x y := o5
  refine wpAny_bind (wpAny_letGo (wpAny_pure (wpAny_pure ?_)))
  refine wpAny_bind (wpAny_seqItems o5 rfl ?_)
  refine wpAny_bind (wpAny_newTuple ?_)
  have sz : A5.objs.size = s.heap.objs.size := by rw [d5.1, d4.1, d3.1, d2.1, d1.1]
  have z5 : IsZip A5 z TI TO .ellipsis := d5.extBut _ _ ap.TOz.symm (d4.extBut _ _ ap.i2z.symm (d3.extBut _ _ ap.TOz.symm (d2.extBut _ _ ap.i1z.symm z1)))
  have k5 : ∀ c o, c ≠ z → c ≠ TO → c ≠ i → c ≠ j → s.heap.get? c = some o → A5.get? c = some o := fun c o n1 n2 n3 n4 e => d5.extBut _ _ n2 (d4.extBut _ _ n4 (d3.extBut _ _ n2 (d2.extBut _ _ n3 (d1.extBut _ _ n1 e))))
  have p15 : IA t A5 i l (k + 1) := ((p12.eb d3.extBut ap.TOi1.symm).eb d4.extBut ap.i12).eb d5.extBut ap.TOi1.symm
  have p25 : IA u A5 j m (n + 1) := p24.eb d5.extBut ap.TOi2.symm
  have zl : z < A5.objs.size := Heap.lt_size z5
  show wpAny _ _ (Builtin.SmallTypes.ownedTupleHandOut (Value.ref z) (.ref A5.objs.size) >>= _) _ _ _
  refine wpAny_bind ?_
  unfold Builtin.SmallTypes.ownedTupleHandOut
  have z6 : IsZip (A5.push { cls := .type "tuple", data := .seq #[x, y] }) z TI TO .ellipsis := Heap.get?_push_of_some _ z5
  refine wpAny_bind (wpAny_setField_rec z6 (by simp) fun A7 z7 d7 => ?_)
  replace z7 : IsZip A7 z TI TO (rawInt A5.objs.size) := z7
  refine wpAny_setField_rec z7 (by simp) fun A8 z8 d8 => ?_
  replace z8 : IsZip A8 z TI TO (rawInt A5.objs.size) := z8
  have up : ∀ c o, c ≠ z → A5.get? c = some o → A8.get? c = some o := fun c o n1 e => d8.extBut _ _ n1 (d7.extBut _ _ n1 (Heap.get?_push_of_some _ e))
  have T8 : IsPair A8 A5.objs.size x y := d8.extBut _ _ (Nat.ne_of_gt zl) (d7.extBut _ _ (Nat.ne_of_gt zl) (Heap.get?_push_size _ rfl))
  have s8 : A8.objs.size = A5.objs.size + 1 := by rw [d8.1, d7.1, Heap.size_push]
  rw [sz] at z8 T8 s8
  refine wpAny_pure ⟨_, rfl, ?_⟩
  show Q (.ref A5.objs.size) _
  rw [sz]
  exact fin A8 z8 (up _ _ ap.TOz o5) (p15.on fun o e => up _ o ap.i1z e) (p25.on fun o e => up _ o ap.i2z e) T8 s8 fun c o n1 n2 n3 n4 e => up c o n1 (k5 c o n1 n2 n3 n4 e)
theorem zq_end {t u : Bool} {z TI TO i j l m : Addr} {k n : Nat} {xs ys : Array Value} {a b : Value} {Q : Fin → Shared → Prop} (hh : A.handled = none) (ap : ZipApart z TI TO i j l m)
    (gz : IsZip s.heap z TI TO .none) (gi : IsPair s.heap TI (.ref i) (.ref j)) (go : IsPair s.heap TO a b)
    (p1 : IA t s.heap i l k) (p2 : IA u s.heap j m n) (q1 : SA t s.heap l xs) (q2 : SA u s.heap m ys) (none' : xs[k]? = none ∨ ys[n]? = none)
    (fin : ∀ g v, (∀ c o, c ≠ z → c ≠ TO → c ≠ i → c ≠ j → s.heap.get? c = some o → g.get? c = some o) → (∃ o, g.get? v = some o ∧ o.cls = .type "StopIteration") → E (.ref v) { s with heap := g }) :
    wpAny (model prog w) A (Builtin.«zip.__next__» ⟨[.ref z], []⟩) Q E s := by
  show wpAny _ _ (field (Value.ref z) 2 >>= _) _ _ s
  refine wpAny_bind (wpAny_field gz rfl (x := .bool false) rfl ?_)
  show wpAny _ _ (field (Value.ref z) 3 >>= _) _ _ s
  refine wpAny_bind (wpAny_field gz rfl (x := .ref TI) rfl ?_)
  refine wpAny_bind (wpAny_seqItems gi rfl ?_)
  show wpAny _ _ (Builtin.SmallTypes.ownedTupleIsFree (Value.ref z) >>= _) _ _ s
  refine wpAny_bind ?_
  unfold Builtin.SmallTypes.ownedTupleIsFree
  refine wpAny_bind (wpAny_field gz rfl (x := .none) rfl (wpAny_pure ?_))
  simp only [if_true]
  refine wpAny_bind (wpAny_rule ?_)
  refine wpAny_bind (wpAny_field gz rfl (x := .ref TO) rfl ?_)
  refine wpAny_bind (wpAny_setField_rec gz (by simp) fun A1 z1 d1 => ?_)
  replace z1 : IsZip A1 z TI TO .ellipsis := z1
  refine wpAny_bind ?_
  simp only [List.zipIdx_cons, List.zipIdx_nil, List.forIn_cons, List.forIn_nil]
  refine wpAny_bind (wpAny_bind (wpAny_onRaise ?_))
  show wpAny _ _ (Builtin.SmallTypes.nextOf (Value.ref i) >>= _) _ _ _
  cases ex : xs[k]? with
  | none =>
    refine wpAny_bind (nx_end hh (p1.eb d1.extBut ap.i1z) (q1.eb d1.extBut ap.l1z) ex fun A2 v d2 ve => ?_)
    obtain ⟨w, w1, w2⟩ := ve
    have z2 : IsZip A2 z TI TO .ellipsis := d2 _ _ ap.i1z.symm z1
    have vz : v ≠ z := fun q => by subst q; rw [z2] at w1; cases w1; simp at w2
    refine wpAny_setField_rec z2 (by simp) fun A3 _ d3 => fin A3 v (fun c o n1 _ n3 _ e => d3.extBut _ _ n1 (d2 _ _ n3 (d1.extBut _ _ n1 e))) ⟨w, d3.extBut _ _ vz w1, w2⟩
  | some x =>
    have ey : ys[n]? = none := by rcases none' with h | h; rw [ex] at h; cases h; exact h
    refine wpAny_bind (nx_item (p1.eb d1.extBut ap.i1z) (q1.eb d1.extBut ap.l1z) ex fun A2 p12 d2 => wpAny_pure ?_)
    have o2 : IsPair A2 TO a b := d2.extBut _ _ ap.TOi1 (d1.extBut _ _ ap.TOz go)
    refine wpAny_bind (wpAny_seqItems o2 rfl ?_)
    refine wpAny_bind (wpAny_updateSeq_pair o2 fun A3 o3 d3 => ?_)
    refine wpAny_bind (wpAny_letGo (wpAny_pure ?_))
    refine wpAny_bind (wpAny_bind (wpAny_onRaise ?_))
    show wpAny _ _ (Builtin.SmallTypes.nextOf (Value.ref j) >>= _) _ _ _
    refine wpAny_bind (nx_end hh (((p2.eb d1.extBut ap.i2z).eb d2.extBut ap.i12.symm).eb d3.extBut ap.TOi2.symm) (((q2.eb d1.extBut ap.l2z).eb d2.extBut ap.l2i1).eb d3.extBut ap.l2TO) ey fun A4 v d4 ve => ?_)
    obtain ⟨w, w1, w2⟩ := ve
    have z4 : IsZip A4 z TI TO .ellipsis := d4 _ _ ap.i2z.symm (d3.extBut _ _ ap.TOz.symm (d2.extBut _ _ ap.i1z.symm z1))
    have vz : v ≠ z := fun q => by subst q; rw [z4] at w1; cases w1; simp at w2
    refine wpAny_setField_rec z4 (by simp) fun A5 _ d5 => fin A5 v (fun c o n1 n2 n3 n4 e => d5.extBut _ _ n1 (d4 _ _ n4 (d3.extBut _ _ n2 (d2.extBut _ _ n3 (d1.extBut _ _ n1 e))))) ⟨w, d5.extBut _ _ vz w1, w2⟩
theorem zq_next {t u : Bool} {z TI TO i j l m : Addr} {k n : Nat} {xs ys : Array Value} {x y a b : Value} {Q : Option Value → Shared → Prop} (ap : ZipApart z TI TO i j l m)
    (gz : IsZip s.heap z TI TO .none) (gi : IsPair s.heap TI (.ref i) (.ref j)) (go : IsPair s.heap TO a b)
    (p1 : IA t s.heap i l k) (p2 : IA u s.heap j m n) (q1 : SA t s.heap l xs) (q2 : SA u s.heap m ys) (ex : xs[k]? = some x) (ey : ys[n]? = some y)
    (fin : ∀ g, IsZip g z TI TO (rawInt s.heap.objs.size) → IsPair g TO x y → IA t g i l (k + 1) → IA u g j m (n + 1) → IsPair g s.heap.objs.size x y → g.objs.size = s.heap.objs.size + 1 →
      (∀ c o, c ≠ z → c ≠ TO → c ≠ i → c ≠ j → s.heap.get? c = some o → g.get? c = some o) → Q (some (.ref s.heap.objs.size)) { s with heap := g }) : wpAny (model prog w) A (pyNext (.ref z)) Q E s := by
  have ty : s.TypeIs (.ref z) "zip" := ⟨_, gz, rfl⟩
  unfold pyNext
  exact wpAny_bind (wpAny_attempt (wpAny_callSpecial?_slot (name := Str.ofString "__next__") ty F.slot_zip_next (wpAny_call_entry F.slot_zip_next ty F.entry_zip_next
    (zq_item ap gz gi go p1 p2 q1 q2 ex ey fun g a1 a2 a3 a4 a5 a6 a7 => wpAny_pure (fin g a1 a2 a3 a4 a5 a6 a7)) (F.args_zip_next_1 _))))
theorem zq_stop {t u : Bool} {z TI TO i j l m : Addr} {k n : Nat} {xs ys : Array Value} {a b : Value} {Q : Option Value → Shared → Prop} (hh : A.handled = none) (ap : ZipApart z TI TO i j l m)
    (gz : IsZip s.heap z TI TO .none) (gi : IsPair s.heap TI (.ref i) (.ref j)) (go : IsPair s.heap TO a b)
    (p1 : IA t s.heap i l k) (p2 : IA u s.heap j m n) (q1 : SA t s.heap l xs) (q2 : SA u s.heap m ys) (none' : xs[k]? = none ∨ ys[n]? = none)
    (fin : ∀ g, (∀ c o, c ≠ z → c ≠ TO → c ≠ i → c ≠ j → s.heap.get? c = some o → g.get? c = some o) → Q none { s with heap := g }) : wpAny (model prog w) A (pyNext (.ref z)) Q E s := by
  have ty : s.TypeIs (.ref z) "zip" := ⟨_, gz, rfl⟩
  unfold pyNext
  refine wpAny_bind (wpAny_attempt (wpAny_callSpecial?_slot (name := Str.ofString "__next__") ty F.slot_zip_next (wpAny_call_entry F.slot_zip_next ty F.entry_zip_next
    (zq_end hh ap gz gi go p1 p2 q1 q2 none' fun g v kk ve => ?_) (F.args_zip_next_1 _))))
  obtain ⟨o, o1, o2⟩ := ve
  refine wpAny_bind (wpAny_isInstance (T := "StopIteration") (b := true) ⟨o, o1, o2⟩ isSubtype_stop ?_)
  exact wpAny_pure (fin _ kk)
end
noncomputable abbrev zh1 (t : Bool) (h : Heap) (l : Addr) : Heap := h.push (itObj t l)
noncomputable abbrev zh2 (t u : Bool) (h : Heap) (l m : Addr) : Heap := (zh1 t h l).push (itObj u m)
noncomputable abbrev zh3 (t u : Bool) (h : Heap) (l m : Addr) : Heap := (zh2 t u h l m).push { cls := .type "tuple", data := .seq #[.ref h.objs.size, .ref (zh1 t h l).objs.size] }
noncomputable abbrev zh4 (t u : Bool) (h : Heap) (l m : Addr) : Heap := (zh3 t u h l m).push { cls := .type "tuple", data := .seq #[.none, .none] }
noncomputable abbrev zh5 (t u : Bool) (h : Heap) (l m : Addr) : Heap := (zh4 t u h l m).push { cls := .type "zip", data := .fields #[.none, .bool false, .bool false, .ref (zh2 t u h l m).objs.size, .ref (zh3 t u h l m).objs.size] }
theorem meets_zq (t u : Bool) (l m : Addr) (xs ys : Array Value) :
    Meets (Builtin.«zip.__new__» ⟨[.type "zip", .ref l, .ref m], []⟩) (fun _ R s => SA t s.heap l xs ∧ SA u s.heap m ys ∧ R (.ok (.ret (.ref (zh4 t u s.heap l m).objs.size))) { s with heap := zh5 t u s.heap l m }) :=
  .of_wp fun prog w A R s h => by
    obtain ⟨hp, g, d, tk, os⟩ := s
    obtain ⟨q1, q2, h⟩ := h
    have hsub := sub_zip
    have e2 : SA u (hp.push (itObj t l)) m ys := SA.psh q2 _
    cases t <;> cases u
    · have r1 : Heap.IsList (Shared.heap ⟨hp, g, d, tk, os⟩) l xs := q1
      have r2 : Heap.IsList (Shared.heap ⟨hp.push (itObj false l), g, d, tk, os⟩) m ys := e2
      unfold itObj at r2
      wp_walk using wpAny_pyIter_list r1, wpAny_pyIter_list r2
      exact ⟨_, rfl, h⟩
    · have r1 : Heap.IsList (Shared.heap ⟨hp, g, d, tk, os⟩) l xs := q1
      have r2 : Heap.IsTuple (Shared.heap ⟨hp.push (itObj false l), g, d, tk, os⟩) m ys := e2
      unfold itObj at r2
      wp_walk using wpAny_pyIter_list r1, wpAny_pyIter_tuple r2
      exact ⟨_, rfl, h⟩
    · have r1 : Heap.IsTuple (Shared.heap ⟨hp, g, d, tk, os⟩) l xs := q1
      have r2 : Heap.IsList (Shared.heap ⟨hp.push (itObj true l), g, d, tk, os⟩) m ys := e2
      unfold itObj at r2
      wp_walk using wpAny_pyIter_tuple r1, wpAny_pyIter_list r2
      exact ⟨_, rfl, h⟩
    · have r1 : Heap.IsTuple (Shared.heap ⟨hp, g, d, tk, os⟩) l xs := q1
      have r2 : Heap.IsTuple (Shared.heap ⟨hp.push (itObj true l), g, d, tk, os⟩) m ys := e2
      unfold itObj at r2
      wp_walk using wpAny_pyIter_tuple r1, wpAny_pyIter_tuple r2
      exact ⟨_, rfl, h⟩
section
variable {prog : Program} {w : World} {A : Around} {E : Value → Shared → Prop} {s : Shared}
theorem call_zq {t u : Bool} {l m : Addr} {xs ys : Array Value} {Q : Value → Shared → Prop} (q1 : SA t s.heap l xs) (q2 : SA u s.heap m ys)
    (fin : ∀ g, IsZip g (s.heap.objs.size + 4) (s.heap.objs.size + 2) (s.heap.objs.size + 3) .none → IsPair g (s.heap.objs.size + 2) (.ref s.heap.objs.size) (.ref (s.heap.objs.size + 1)) →
      IsPair g (s.heap.objs.size + 3) .none .none → IA t g s.heap.objs.size l 0 → IA u g (s.heap.objs.size + 1) m 0 → g.objs.size = s.heap.objs.size + 5 → (∀ c o, s.heap.get? c = some o → g.get? c = some o) → Q (.ref (s.heap.objs.size + 4)) { s with heap := g }) :
    wpAny (model prog w) A (call (.type "zip") [.ref l, .ref m]) Q E s := by
  refine callType_new F.called_zip (by decide) (F.typeCall_zip_2 _ _) (F.newCall_zip_2 _ _) (fun obj => F.args_object_init_3 obj _ _) F.entry_zip_new (meets_zq t u l m xs ys) ⟨q1, q2, ?_⟩
  have n1 : (zh1 t s.heap l).objs.size = s.heap.objs.size + 1 := Heap.size_push ..
  have n2 : (zh2 t u s.heap l m).objs.size = s.heap.objs.size + 2 := by rw [Heap.size_push, n1]
  have n3 : (zh3 t u s.heap l m).objs.size = s.heap.objs.size + 3 := by rw [Heap.size_push, n2]
  have n4 : (zh4 t u s.heap l m).objs.size = s.heap.objs.size + 4 := by rw [Heap.size_push, n3]
  have n5 : (zh5 t u s.heap l m).objs.size = s.heap.objs.size + 5 := by rw [Heap.size_push, n4]
  have ps : ∀ {h : Heap} {a : Addr} {x : Obj} (o : Obj), h.get? a = some x → (h.push o).get? a = some x := fun o e => Heap.get?_push_of_some o e
  have f5 : (zh5 t u s.heap l m).get? (zh4 t u s.heap l m).objs.size = some _ := Heap.get?_push_size _ rfl
  have f4 : (zh5 t u s.heap l m).get? (zh3 t u s.heap l m).objs.size = some _ := ps _ (Heap.get?_push_size _ rfl)
  have f3 : (zh5 t u s.heap l m).get? (zh2 t u s.heap l m).objs.size = some _ := ps _ (ps _ (Heap.get?_push_size _ rfl))
  have f2 : (zh5 t u s.heap l m).get? (zh1 t s.heap l).objs.size = some _ := ps _ (ps _ (ps _ (Heap.get?_push_size _ itObj_free)))
  have f1 : (zh5 t u s.heap l m).get? s.heap.objs.size = some _ := ps _ (ps _ (ps _ (ps _ (Heap.get?_push_size _ itObj_free))))
  show _ ∧ _
  rw [n2, n3, n4] at f5
  rw [n1, n2] at f3
  rw [n3] at f4
  rw [n1] at f2
  rw [n4]
  exact ⟨⟨_, f5, rfl⟩, fin _ f5 f3 f4 (IA.new f1) (IA.new f2) n5 fun c o e => ps _ (ps _ (ps _ (ps _ (ps _ e))))⟩
end
/-- a row in the abstract heap -/
noncomputable def SqX (t : Bool) (K : PySem.W.Frag) (H : Hp) (a : Addr) (xs : List V) : Prop := match t with
  | true => SqT K H a xs
  | false => SqL K H a xs
theorem sqx_in {X : Cx} {pins : List (Addr × Obj)} {σ : L2.St} {H : Hp} {s : Shared} {t : Bool} {a : Addr} {xs : List V} (I : Inv X pins σ H s) (q : SqX t X.K H a xs) : ∃ its : List Value, Vals xs its ∧ SA t s.heap a its.toArray := by
  cases t
  · obtain ⟨its, rv, p, _⟩ := I.list q
    exact ⟨its, rv, p.isList⟩
  · obtain ⟨its, rv, p, _⟩ := I.tuple q
    exact ⟨its, rv, p⟩
theorem sqx_inj {X : Cx} {pins : List (Addr × Obj)} {σ : L2.St} {H : Hp} {s : Shared} {t : Bool} {a : Addr} {xs ys : List V} (I : Inv X pins σ H s) (q : SqX t X.K H a xs) (r : SqX t X.K H a ys) : xs = ys := by
  cases t
  · exact I.list_inj q r
  · exact I.tuple_inj q r
/-- two rows walked side by side -/
noncomputable def ItM (K : PySem.W.Frag) (t u : Bool) (a b : Addr) : L2.It :=
  ⟨fun i H => ∃ (xs ys : List V) (x y : V), SqX t K H a xs ∧ SqX u K H b ys ∧ xs[i]? = some x ∧ ys[i]? = some y,
    fun i H v G => ∃ T x y, v = .ref T ∧ H T = none ∧ G = upd H T (.tup [x, y]) ∧ (∀ xs, SqX t K H a xs → xs[i]? = some x) ∧ ∀ ys, SqX u K H b ys → ys[i]? = some y,
    fun i H => ∃ xs ys : List V, SqX t K H a xs ∧ SqX u K H b ys ∧ (xs.length ≤ i ∨ ys.length ≤ i)⟩
theorem turn_zq {P : Program} {w : World} {K : PySem.W.Frag} {elts : List Expr} {kk : Nat} {tpos : Pos} {t u : Bool} {a b z TI TO i j : Addr} (ap : ZipApart z TI TO i j a b) :
    Turn P w K (.Tuple elts kk tpos) (ItM K t u a b) [z, TI, TO, i, j] z (fun n h => IsZip h z TI TO .none ∧ IsPair h TI (.ref i) (.ref j) ∧ (∃ x y, IsPair h TO x y) ∧ IA t h i a n ∧ IA u h j b n) where
  mem := by simp
  obj := fun n h st c hc => by
    obtain ⟨gz, gi, ⟨x, y, go⟩, p1, p2⟩ := st
    obtain ⟨o1, e1, d1⟩ := p1.obj
    obtain ⟨o2, e2, d2⟩ := p2.obj
    have cc : c = z ∨ c = TI ∨ c = TO ∨ c = i ∨ c = j := by simpa using hc
    rcases cc with q | q | q | q | q
    · exact q ▸ ⟨_, gz, fun v q => nomatch q⟩
    · exact q ▸ ⟨_, gi, fun v q => nomatch q⟩
    · exact q ▸ ⟨_, go, fun v q => nomatch q⟩
    · exact q ▸ ⟨o1, e1, fun v q => by rw [d1] at q; cases q⟩
    · exact q ▸ ⟨o2, e2, fun v q => by rw [d2] at q; cases q⟩
  keep := fun n h g st k => by
    obtain ⟨gz, gi, ⟨x, y, go⟩, p1, p2⟩ := st
    exact ⟨k z (by simp) _ gz, k TI (by simp) _ gi, ⟨x, y, k TO (by simp) _ go⟩, p1.on fun o q => k i (by simp) o q, p2.on fun o q => k j (by simp) o q⟩
  item := by
    intro X hP hw hK hc n pins s σ H E I hf st hg
    subst hP hw hK
    obtain ⟨gz, gi, ⟨x0, y0, go⟩, p1, p2⟩ := st
    obtain ⟨xs, ys, x, y, qx, qy, ex, ey⟩ := hg
    obtain ⟨us, rv, r1⟩ := sqx_in I qx
    obtain ⟨ws, rv2, r2⟩ := sqx_in I qy
    obtain ⟨v1, hv1, ru⟩ := rv.get ex
    obtain ⟨v2, hv2, ru2⟩ := rv2.get ey
    have zl : z < s.heap.objs.size := Heap.lt_size gz
    refine zq_next ap gz gi go p1 p2 r1 r2 (x := v1) (y := v2) (by simpa using hv1) (by simpa using hv2) fun g z' TO' p1' p2' hT hsz hk => ?_
    refine ⟨_, rfl, wpAny_letOwnedTupleGo_zip (s := { s with heap := g }) z' fun g2 z2 sb => ?_⟩
    have T2 : g2.get? s.heap.objs.size = some { cls := .type "tuple", data := .seq #[v1, v2] } := (sb.2 _ (Nat.ne_of_gt zl)).trans hT
    have new : ObjOk X.prog X.w (upd H s.heap.objs.size (.tup [x, y])) g2 s.heap.objs.size (.tup [x, y]) := ⟨by show 2 ≤ sizeLine; decide, [v1, v2], .cons ru (.cons ru2 .nil), ⟨_, T2, rfl, _, rfl⟩⟩
    have I1 : Inv X pins σ (upd H s.heap.objs.size (.tup [x, y])) { s with heap := g2 } :=
      I.turnedNew (t' := s.toks) (ch := [z, TI, TO, i, j]) (fun c o nb q => (sb.2 c (fun e => nb (by simp [e]))).trans (hk c o (fun e => nb (by simp [e])) (fun e => nb (by simp [e])) (fun e => nb (by simp [e])) (fun e => nb (by simp [e])) q)) hf (Nat.le_refl _) new
    refine ⟨.ref s.heap.objs.size, _, I1, rfl, ⟨_, x, y, rfl, I.hok.fresh (Nat.le_refl _), rfl, fun l hl => by rw [sqx_inj I hl qx]; exact ex, fun l hl => by rw [sqx_inj I hl qy]; exact ey⟩, ⟨z2, ?_, ⟨v1, v2, ?_⟩, ?_, ?_⟩, fun c hcm => ?_⟩
    · exact (sb.2 _ ap.TIz).trans (hk _ _ ap.TIz ap.TITO ap.TIi1 ap.TIi2 gi)
    · exact (sb.2 _ ap.TOz).trans TO'
    · exact p1'.on fun o q => (sb.2 _ ap.i1z).trans q
    · exact p2'.on fun o q => (sb.2 _ ap.i2z).trans q
    · have hlt : c < s.heap.objs.size := by
        have cc : c = z ∨ c = TI ∨ c = TO ∨ c = i ∨ c = j := by simpa using hcm
        rcases cc with q | q | q | q | q
        · exact q ▸ zl
        · exact q ▸ Heap.lt_size gi
        · exact q ▸ Heap.lt_size go
        · exact q ▸ p1.lt
        · exact q ▸ p2.lt
      rw [upd_ne (Nat.ne_of_lt hlt)]
      exact (hf c hcm).1
  done := by
    intro X hP hw hK hc n pins s σ H E I hf st hg
    subst hP hw hK
    obtain ⟨gz, gi, ⟨x0, y0, go⟩, p1, p2⟩ := st
    obtain ⟨xs, ys, qx, qy, hend⟩ := hg
    obtain ⟨us, rv, r1⟩ := sqx_in I qx
    obtain ⟨ws, rv2, r2⟩ := sqx_in I qy
    have l1 := rv.length
    have l2 := rv2.length
    have he : us.toArray[n]? = none ∨ ws.toArray[n]? = none := by
      rcases hend with q | q
      · exact .inl (by simp; omega)
      · exact .inr (by simp; omega)
    exact zq_stop (I.ok.hd hc) ap gz gi go p1 p2 r1 r2 he fun g hk => ⟨rfl, I.turnedL (t' := s.toks) (ch := [z, TI, TO, i, j]) (fun c o nb q =>
      hk c o (fun e => nb (by simp [e])) (fun e => nb (by simp [e])) (fun e => nb (by simp [e])) (fun e => nb (by simp [e])) q) hf⟩
  self := fun A n s Q E st h => wpAny_pyIter_zip st.1 h
noncomputable def iZipM (K : PySem.W.Frag) (ta : TA) : TI := fun σ H R => ta σ H fun vs H1 => ∃ (t u : Bool) (a b : Addr) (xs ys : List V), vs = [.ref a, .ref b] ∧ SqX t K H1 a xs ∧ SqX u K H1 b ys ∧ R (ItM K t u a b) H1
theorem pi_zipM {X : Cx} {e e2 : Expr} {ta : TA} {p pos tpos : Pos} {elts : List Expr} {kk : Nat} (hg : Gl X "zip") (hm : X.mg "zip" = none) (ha : PA X [e, e2] ta)
    (hs : starEach [e, e2] X.env = (false, eval e X.env) :: starEach [e2] X.env := by rfl) (hpl : (backTo pos (starEach [e2] X.env)).any (·.1) = false := by rfl) :
    PI X (.Tuple elts kk tpos) (.Call (.Name "zip" p) [e, e2] [] pos) (iZipM X.K ta) := by
  refine ⟨fun pins s σ H R I h => ?_⟩
  refine Call_ (ld_blt I hg hm PyProof.Rows.boot_zip (PyProof.Rows.callWith_type1 (thn (ha.run pos pins s σ H _ I h) fun us s1 ⟨vs, H1, I1, rr, q⟩ => ?_) hs hpl))
  obtain ⟨t, u, a, b, xs, ys, ev, qx, qy, q⟩ := q
  subst ev
  cases rr with
  | cons r rr =>
    cases rr with
    | cons r' rr =>
      cases rr
      cases r
      cases r'
      have five : ∀ c, c ∈ [s1.heap.objs.size + 4, s1.heap.objs.size + 2, s1.heap.objs.size + 3, s1.heap.objs.size, s1.heap.objs.size + 1] → FpOk X pins H1 c := fun c hcm => by
        have hle : s1.heap.objs.size ≤ c := by
          have cc : c = s1.heap.objs.size + 4 ∨ c = s1.heap.objs.size + 2 ∨ c = s1.heap.objs.size + 3 ∨ c = s1.heap.objs.size ∨ c = s1.heap.objs.size + 1 := by simpa using hcm
          generalize s1.heap.objs.size = N at *
          rcases cc with q | q | q | q | q
          · exact q ▸ Nat.le_add_right N 4
          · exact q ▸ Nat.le_add_right N 2
          · exact q ▸ Nat.le_add_right N 3
          · exact q ▸ Nat.le_refl N
          · exact q ▸ Nat.le_add_right N 1
        exact I1.fpOk hle (I1.hok.fresh hle)
      obtain ⟨us, rv, r1⟩ := sqx_in I1 qx
      obtain ⟨ws, rv2, r2⟩ := sqx_in I1 qy
      refine call_zq r1 r2 fun g gz gi go p1 p2 hsz hk => wpAny_pyIter_zip gz ?_
      have I2 : Inv X pins σ H1 { s1 with heap := g } := I1.kept (t' := s1.toks) hk
      exact ⟨s1.heap.objs.size + 4, [s1.heap.objs.size + 4, s1.heap.objs.size + 2, s1.heap.objs.size + 3, s1.heap.objs.size, s1.heap.objs.size + 1], _, _, H1, rfl, I2, turn_zq (PySem.W.ktu_apart s1.heap.objs.size a b r1.lt r2.lt), ⟨gz, gi, ⟨_, _, go⟩, p1, p2⟩, five, q⟩
end Ev
namespace Ev
open PySem PySem.Spec PyProof.Rows L2
noncomputable def pyT (is : List Int) : PyData := .tuple (is.map .int)
theorem alike_intsT : ∀ xs ys : List Int, PySem.W.alikeAll (xs.map PyData.int) (ys.map PyData.int) = true
  | [], _ => by simp [PySem.W.alikeAll]
  | _ :: _, [] => by simp [PySem.W.alikeAll]
  | x :: xs, y :: ys => by
    simp only [List.map_cons, PySem.W.alikeAll, PySem.W.alike, Bool.true_and]
    exact alike_intsT xs ys
theorem lt_pyT {xs ys : List Int} : PySem.W.dataLt (pyT xs) (pyT ys) = decide (xs < ys) := by
  unfold pyT
  rw [PySem.W.dataLt_tuple]
  exact PySem.W.dataLt_ints xs ys
theorem minD_T : ∀ (r : List (List Int)) (x : List Int), PySem.W.minD (pyT x) (r.map pyT) = pyT (minR x r)
  | [], _ => rfl
  | y :: r, x => by
    have ih := minD_T r (if y < x then y else x)
    unfold PySem.W.minD minR at *
    rw [List.map_cons, List.foldl_cons, List.foldl_cons, lt_pyT, ← ih]
    congr 1
    by_cases c : y < x <;> simp [c]
theorem dep_intsT : ∀ ns : List Int, PyData.depthAll (ns.map .int) = 0
  | [] => rfl
  | n :: r => by
    show max (PyData.depth (.int n)) (PyData.depthAll (r.map .int)) = 0
    rw [dep_intsT r]; rfl
theorem dep_T : ∀ r : List (List Int), PyData.depthAll (r.map pyT) ≤ 1
  | [] => Nat.zero_le _
  | x :: r => by
    show max (PyData.depth (pyT x)) (PyData.depthAll (r.map pyT)) ≤ 1
    have h1 : PyData.depth (pyT x) ≤ 1 := by
      unfold pyT
      simp only [PyData.depth, dep_intsT]
      omega
    have h2 := dep_T r
    exact Nat.max_le.mpr ⟨h1, h2⟩
noncomputable def rMinT (K : PySem.W.Frag) : List V → Hp → VK → Prop := fun vs H Q => ∃ (a : Addr) (ws : List V) (x : List Int) (r : List (List Int)), vs = [V.ref a] ∧ SqL K H a ws ∧ DpAll K H ws ((x :: r).map pyT) ∧ ∀ (i : Nat) (w : V), ws[i]? = some w → (x :: r)[i]? = some (minR x r) → Q w H
section
variable {X : Cx}
theorem vals_at : ∀ {vs : List V} {us : List Value}, Vals vs us → ∀ {i : Nat} {u : Value}, us[i]? = some u → ∃ v, vs[i]? = some v ∧ RelV v u := by
  intro vs us h
  induction h with
  | nil => intro i u hu; simp at hu
  | cons a t ih =>
    intro i u hu
    cases i with
    | zero => cases hu; exact ⟨_, rfl, a⟩
    | succ i => exact ih (by simpa using hu)
theorem cr_minT (hc : X.calm = true) (hu : X.A.units + 64 < cLine) : CallR X (.builtin "min") (rMinT X.K) := by
  intro pins s σ H vs us Q I rr h
  obtain ⟨a, ws, x, r, rfl, hs, hd, q⟩ := h
  obtain ⟨its, rv, hl, _⟩ := I.list hs
  rw [Vals.ref1 rr]
  obtain ⟨as, hr⟩ := Dp.readsAll I _ _ _ hd rv
  have al : PySem.W.AlikeAll ((x :: r).map pyT) := ⟨fun y hy z hz => by
    obtain ⟨i, _, rfl⟩ := List.mem_map.mp hy
    obtain ⟨j, _, rfl⟩ := List.mem_map.mp hz
    unfold pyT
    simp only [PySem.W.alike]
    exact alike_intsT i j, fun y hy => by
    obtain ⟨i, _, rfl⟩ := List.mem_map.mp hy
    exact fun q => by cases q⟩
  have dp := dep_T (x :: r)
  rw [List.map_cons] at hr al dp
  refine PySem.W.min_list_data (I.ok.hd hc) hl.isList hr al (by omega) (fun i v h' tk bs hv rd hk => ?_)
  have hv2 : its[i]? = some v := by simpa using hv
  obtain ⟨w, hw, rw'⟩ := vals_at rv hv2
  obtain ⟨bs2, r2, il, _, _⟩ := PySem.W.readsAll_at hr i v hv2
  have r3 := PySem.W.reads_keeps hk r2
  rw [minD_T] at rd
  have e := (Reads.unique rd _ _ r3).1
  have il2 : i < (x :: r).length := by simpa using il
  have e2 : (x :: r)[i]? = some (minR x r) := by
    rw [List.getElem?_eq_getElem il2]
    congr 1
    have : (pyT x :: r.map pyT).getD i .none = pyT ((x :: r)[i]'il2) := by
      rw [← List.map_cons, List.getD_eq_getElem?_getD, List.getElem?_map, List.getElem?_eq_getElem il2]; rfl
    rw [this] at e
    unfold pyT at e
    simp only [PyData.tuple.injEq] at e
    exact (List.map_inj_right (fun a b h => by cases h; rfl)).mp e.symm
  exact ⟨w, H, I.kept hk, rw', q i w hw e2⟩
end
theorem tupsI_dp {K : PySem.W.Frag} {mg : Str → Option Value} {H : Hp} {ρ : List Addr} : ∀ {xs : List D} {tl : List (List Int)} {vs : List V}, tupsI xs = some tl → RDs K mg H ρ xs vs → DpAll K H vs (tl.map pyT)
  | [], _, _, h, r => by cases h; cases r; exact .nil
  | .tup ys :: xs, _, _, h, r => by
    simp only [tupsI] at h
    obtain ⟨is, e1, h⟩ := Option.bind_eq_some_iff.mp h
    simp only [Option.map_eq_some_iff] at h
    obtain ⟨tl, e2, rfl⟩ := h
    cases r with
    | cons r1 r2 =>
      cases r1 with
      | tup g1 g2 =>
        refine .cons (.tup g1 ?_) (tupsI_dp e2 r2)
        rw [intsOf_ok e1 g2]
        exact ints_dpT is
  | .non :: _, _, _, h, _ => by simp [tupsI] at h
  | .bl _ :: _, _, _, h, _ => by simp [tupsI] at h
  | .int _ :: _, _, _, h, _ => by simp [tupsI] at h
  | .str _ :: _, _, _, h, _ => by simp [tupsI] at h
  | .ty _ :: _, _, _, h, _ => by simp [tupsI] at h
  | .rol _ :: _, _, _, h, _ => by simp [tupsI] at h
  | .loc _ :: _, _, _, h, _ => by simp [tupsI] at h
  | .obj _ :: _, _, _, h, _ => by simp [tupsI] at h
  | .exn _ _ :: _, _, _, h, _ => by simp [tupsI] at h
where ints_dpT {K : PySem.W.Frag} {H : Hp} : ∀ is : List Int, DpAll K H (is.map V.int) (is.map PyData.int)
  | [] => .nil
  | i :: r => .cons (.int i) (ints_dpT r)
theorem intsOf_map : ∀ {xs : List D} {is : List Int}, intsOf xs = some is → xs = is.map .int
  | [], _, h => by cases h; rfl
  | .int b :: xs, _, h => by
    simp only [intsOf, Option.map_eq_some_iff] at h
    obtain ⟨cs, h, rfl⟩ := h
    rw [intsOf_map h]; rfl
  | .non :: _, _, h => by simp [intsOf] at h
  | .bl _ :: _, _, h => by simp [intsOf] at h
  | .str _ :: _, _, h => by simp [intsOf] at h
  | .ty _ :: _, _, h => by simp [intsOf] at h
  | .tup _ :: _, _, h => by simp [intsOf] at h
  | .rol _ :: _, _, h => by simp [intsOf] at h
  | .loc _ :: _, _, h => by simp [intsOf] at h
  | .obj _ :: _, _, h => by simp [intsOf] at h
  | .exn _ _ :: _, _, h => by simp [intsOf] at h
theorem tupsI_at : ∀ {xs : List D} {tl : List (List Int)}, tupsI xs = some tl → xs = tl.map fun is => .tup (is.map .int)
  | [], _, h => by cases h; rfl
  | .tup ys :: xs, _, h => by
    simp only [tupsI] at h
    obtain ⟨is, e1, h⟩ := Option.bind_eq_some_iff.mp h
    simp only [Option.map_eq_some_iff] at h
    obtain ⟨tl, e2, rfl⟩ := h
    rw [tupsI_at e2, intsOf_map e1]; rfl
  | .non :: _, _, h => by simp [tupsI] at h
  | .bl _ :: _, _, h => by simp [tupsI] at h
  | .int _ :: _, _, h => by simp [tupsI] at h
  | .str _ :: _, _, h => by simp [tupsI] at h
  | .ty _ :: _, _, h => by simp [tupsI] at h
  | .rol _ :: _, _, h => by simp [tupsI] at h
  | .loc _ :: _, _, h => by simp [tupsI] at h
  | .obj _ :: _, _, h => by simp [tupsI] at h
  | .exn _ _ :: _, _, h => by simp [tupsI] at h
end Ev
namespace Ev
open PySem PySem.Spec PyProof.Rows L2 SrtO
section
variable {prog : Program} {w : World} {A : Around} {E : Value → Shared → Prop} {s : Shared}
theorem collect_tup {l : Addr} {vs : List Value} {Q : List Value → Shared → Prop} (hl : s.heap.IsTuple l vs.toArray)
    (h : Q vs { s with heap := (s.heap.push (seqObj "list" #[] 0)).update s.heap.objs.size (Obj.mapSeq (· ++ vs.toArray)) }) (hsz : vs.length ≤ sizeLine) :
    wpAny (model prog w) A (collect (.ref l)) Q E s := by
  obtain ⟨o, ho, hc, n, hd⟩ := id hl
  unfold collect
  refine wpAny_bind (wpAny_runValue (codeAny_builtin entry_proto_collect' ?_))
  show wpAny _ _ (do again (.builtin "list.__iadd__" ⟨[← newList [], .ref l], []⟩)) _ _ s
  refine wpAny_bind (wpAny_newList (wpAny_pure ⟨Code.quiet_builtin _ (by decide +kernel), codeAny_builtin entry_list_iadd' ?_⟩))
  show wpAny _ _ (Builtin.List.listExtendWith (.ref s.heap.objs.size) (.ref l) (.ref s.heap.objs.size)) _ _ { s with heap := s.heap.push (seqObj "list" #[] 0) }
  unfold Builtin.List.listExtendWith
  have ho' : (s.heap.push (seqObj "list" #[] 0)).get? l = some o := Heap.get?_push_of_some _ ho
  refine wpAny_bind (wpAny_typeOf (T := "tuple") ⟨o, ho', hc⟩ ?_)
  have ht : (Value.type "tuple" == Value.type "tuple") = true := by rfl
  rw [if_pos (by rw [ht]; simp)]
  refine wpAny_bind (listItems_at ho' hd ?_)
  refine wpAny_bind (listItems_at (xs := #[]) (n := 0) (Heap.get?_push_size _ rfl) rfl ?_)
  rw [if_neg (by simp)]
  refine wpAny_bind (listUpdate_at (xs := #[]) (n := 0) (Heap.get?_push_size _ rfl) rfl ?_ (Nat.zero_le _) (by show (#[] ++ vs.toArray).size ≤ sizeLine + 1; simp only [Array.size_append, List.size_toArray, List.length_nil]; omega))
  refine wpAny_pure ?_
  show wpAny (model prog w) A (do
      let o ← load s.heap.objs.size
      match o.data with
      | .seq xs _ => pure xs.toList
      | _ => unsupported "internal:collect") Q E { s with heap := (s.heap.push (seqObj "list" #[] 0)).update s.heap.objs.size (Obj.mapSeq (· ++ vs.toArray)) }
  refine wpAny_bind (wpAny_load (get?_update_seq (Heap.get?_push_size _ rfl) _) ?_)
  show wpAny _ _ (pure ((#[] : Array Value) ++ vs.toArray).toList) Q E _
  rw [show ((#[] : Array Value) ++ vs.toArray).toList = vs by simp]
  exact wpAny_pure h
theorem sorted_ordT {l : Addr} {vs : List Value} {ltv : Value → Value → Bool} {Q : Value → Shared → Prop} (O : Swo ltv) (hl : s.heap.IsTuple l vs.toArray) (hz : vs.length ≤ sizeLine)
    (hS : 2 ≤ vs.length → ∀ (h₁ : Heap) (a : Addr), h₁.get? a = some (seqObj "list" vs.toArray 0) → (∀ b o, s.heap.get? b = some o → b ≠ a ∧ h₁.get? b = some o) → SortableO prog w A.in1.in1 { s with heap := h₁ } a vs ltv)
    (h : ∀ out : List Value, Srtd ltv out → Stb ltv out vs → Q (.ref (s.heap.objs.size + 1)) { s with heap := sortedAll s.heap vs out.toArray }) :
    wpAny (model prog w) A (call (.builtin "sorted") [.ref l]) Q E s := by
  refine Calls.call_function_entry kind_sorted plain_sorted entry_sorted (args_sorted1 _) ?_
  unfold Builtin.«sorted»
  refine wpAny_bind (m := checkCount "sorted" 1 1 _) (wpAny_pure ?_)
  refine wpAny_bind (collect_tup hl ?_ hz)
  refine wpAny_bind (wpAny_newList ?_ hz)
  have hsz : ((s.heap.push (seqObj "list" #[] 0)).update s.heap.objs.size (Obj.mapSeq (· ++ vs.toArray))).objs.size = s.heap.objs.size + 1 := by
    rw [Heap.size_update, size_push']
  have hoL : (((s.heap.push (seqObj "list" #[] 0)).update s.heap.objs.size (Obj.mapSeq (· ++ vs.toArray))).push (seqObj "list" vs.toArray 0)).get? (s.heap.objs.size + 1) = some (seqObj "list" vs.toArray 0) := by
    rw [← hsz]; exact Heap.get?_push_size _ rfl
  have keep : ∀ b o, s.heap.get? b = some o → b ≠ s.heap.objs.size + 1 ∧ (((s.heap.push (seqObj "list" #[] 0)).update s.heap.objs.size (Obj.mapSeq (· ++ vs.toArray))).push (seqObj "list" vs.toArray 0)).get? b = some o := fun b o q => by
    have hlt : b < s.heap.objs.size := Heap.lt_size q
    refine ⟨Nat.ne_of_lt (Nat.lt_succ_of_lt hlt), Heap.get?_push_of_some _ ?_⟩
    rw [Heap.get?_update_ne _ _ _ _ (Nat.ne_of_lt hlt)]
    exact Heap.get?_push_of_some _ q
  show wpAny _ _ _ _ _ { s with heap := ((s.heap.push (seqObj "list" #[] 0)).update s.heap.objs.size (Obj.mapSeq (· ++ vs.toArray))).push (seqObj "list" vs.toArray 0) }
  rw [hsz]
  refine wpAny_bind (wpAny_holding (wpAny_call_entry slot_list_sort ⟨_, hoL, rfl⟩ entry_list_sort (list_sort_ord O hoL hz (fun h2 => hS h2 _ _ hoL keep) fun out hs hb => ⟨_, rfl, ?_⟩) (args_list_sort _)))
  exact wpAny_pure ⟨_, rfl, h out hs hb⟩
end
noncomputable def rSortedIT (K : PySem.W.Frag) : List V → Hp → VK → Prop := fun vs H Q => ∃ (a : Addr) (ns : List Int), vs = [V.ref a] ∧ SqT K H a (ns.map V.int) ∧
  ∀ (ns' : List Int) (p : Addr), ns'.Perm ns → ns'.Pairwise (· ≤ ·) → H p = none → Q (.ref p) (upd H p (.lst (ns'.map V.int)))
section
variable {X : Cx}
theorem cr_sortedIT : CallR X (.builtin "sorted") (rSortedIT X.K) := by
  intro pins s σ H vs us Q I r h
  obtain ⟨a, ns, rfl, hs, q⟩ := h
  obtain ⟨its, rv, hl, hz⟩ := I.tuple hs
  rw [Vals.ref1 r]
  have hi := rv.ints
  refine sorted_ordT SrtO.swo_int hl (by rw [← rv.length]; exact hz) (fun h2 h₁ a' _ _ => SrtO.ints_sortable hi h2) fun out h1 h2 => ?_
  obtain ⟨k1, k2, k3⟩ := SrtO.ints_out hi h1 h2
  obtain ⟨ep, he'⟩ := PyProof.Rows.sortedAll_at s.heap its out.toArray
  have hlen : ((out.map SrtO.iv).map V.int).length ≤ sizeLine := by
    rw [List.length_map, k2.length_eq]
    rw [List.length_map] at hz
    exact hz
  exact ⟨.ref _, upd H (s.heap.objs.size + 1) (.lst ((out.map SrtO.iv).map V.int)), I.laid (t' := s.toks) (fun _ _ => PyProof.Rows.sortedAll_old) (Nat.le_succ _) ⟨hlen, out, ep, vals_of_ints k1, he'⟩, rfl, q _ _ k2 k3 (I.hok.fresh (Nat.le_succ _))⟩
end
end Ev
namespace Ev
open PySem PySem.Spec PyProof.Rows L2
section
variable {X : Cx} {ρ : List Addr} {H H0 H1 : Hp} {σ : L2.St} {W : WX} {st st' : Stt} {env : Env} {x y : A} {v u : V} {Q : V → Hp → Prop} {K : PySem.W.Frag} {mg : Str → Option Value}
theorem RDs.emp {xs : List D} {vs : List V} (h : RDs K mg H ρ xs vs) : xs.isEmpty = vs.isEmpty := by
  cases h <;> rfl
theorem truA_ok {b : Bool} (s : RS K mg H ρ st) (r : RA K mg H0 H ρ x v) (h : truA x st = .ok b st') : st' = st ∧ TruV K v H b := by
  unfold truA at h
  split at h
  · cases h; obtain rfl := r.non; exact ⟨rfl, rfl⟩
  · cases h; obtain rfl := r.bl; exact ⟨rfl, rfl⟩
  · cases h; obtain rfl := r.int; exact ⟨rfl, rfl⟩
  · rename_i y
    obtain rfl := r.str
    split at h
    · rename_i c
      cases h
      refine ⟨rfl, line_of c, ?_⟩
      cases y.length with
      | zero => rfl
      | succ n =>
        have e1 : ((n + 1 : Nat) != 0) = true := by simp
        have e2 : (((n + 1 : Nat) : Int) != 0) = true := by simp; omega
        rw [e1, e2]
    · cases h
  · cases h
    obtain ⟨a, vs, rfl, h1, h2⟩ := r.val.tup'
    exact ⟨rfl, .inr (.inl ⟨vs, h1, by rw [h2.emp]⟩)⟩
  · split at h
    · rename_i xs e
      cases h
      obtain ⟨a, vs, rfl, h1, h2⟩ := r.seqL s e
      exact ⟨rfl, .inl ⟨vs, h1, by rw [h2.emp]⟩⟩
    · cases h
theorem truA_exc {c : Str} {fs : List D} (h : truA x st = .exc c fs st') : False := by
  unfold truA at h
  split at h
  · cases h
  · cases h
  · cases h
  · split at h <;> cases h
  · cases h
  · split at h <;> cases h
theorem atI_rds {xs : List D} {vs : List V} {k : Int} {d : D} (h : RDs K mg H ρ xs vs) (e : atI xs k = some d) : ∃ w, atI vs k = some w ∧ RD K mg H ρ d w := by
  unfold atI at e ⊢
  rw [← h.length]
  cases q : ixN xs.length k with
  | none => rw [q] at e; cases e
  | some j =>
    rw [q] at e
    exact h.get e
theorem ixA_ok {z : A} (s : RS X.K X.mg H ρ st) (r1 : RA X.K X.mg H0 H ρ x v) (r2 : RA X.K X.mg H1 H ρ y u) (h : ixA x y st = some z) (q : KR X.K X.mg (RA X.K X.mg) W σ Q H ρ (.ok z st)) : anyIx X v u H Q := by
  unfold ixA at h
  split at h
  · rename_i k
    obtain rfl := r2.int
    split at h
    · rename_i xs e
      simp only [Option.map_eq_some_iff] at h
      obtain ⟨d, e2, rfl⟩ := h
      obtain ⟨p, vs, rfl, hq, t⟩ := r1.seq s e
      obtain ⟨w, e3, rw3⟩ := atI_rds t e2
      rcases hq with hq | hq
      · exact ⟨_, ix_list, p, vs, k, w, rfl, rfl, hq, e3, fin_d q s rw3⟩
      · exact ⟨_, ix_tup, p, vs, k, w, rfl, rfl, hq, e3, fin_d q s rw3⟩
    · split at h
      · rename_i y _
        obtain rfl := r1.str
        split at h
        · rename_i c
          simp only [Option.map_eq_some_iff] at h
          obtain ⟨d, e2, rfl⟩ := h
          exact ⟨_, ix_str, y, k, d, rfl, rfl, line_of c, e2, fin_d q s (.str _)⟩
        · cases h
      · rename_i l _
        obtain ⟨kvs, e, h⟩ := Option.bind_eq_some_iff.mp h
        simp only [Option.map_eq_some_iff] at h
        obtain ⟨d, e2, rfl⟩ := h
        cases r1 with
        | d r1 =>
          cases r1 with
          | loc q1 =>
            obtain ⟨vs, g1, g2⟩ := s.dic q1 e
            obtain ⟨w, g3, g4⟩ := (g2.get _).1 _ e2
            exact ⟨_, ix_dic, _, vs, k, w, rfl, rfl, g1, g3, fin_d q s g4⟩
      · cases h
  · cases h
theorem cut_rds {xs : List D} {vs : List V} (h : RDs K mg H ρ xs vs) (lo hi : Option Int) : RDs K mg H ρ (cutD xs lo hi) (cutV vs lo hi) := by
  unfold cutD cutV
  rw [← h.length]
  exact (h.drop _).take _
theorem slA_ok {z : A} {lo hi : Option Int} (s : RS X.K X.mg H ρ st) (r1 : RA X.K X.mg H0 H ρ x v) (h : slA x lo hi st = some z) (q : KR X.K X.mg (RA X.K X.mg) W σ Q H ρ (.ok z st)) : anySl X v lo hi H Q := by
  unfold slA at h
  split at h
  · rename_i xs e
    cases h
    obtain ⟨p, vs, rfl, hq, t⟩ := r1.seqT e
    refine ⟨_, sl_tupA, p, vs, rfl, hq, fun w => ?_, fun _ p hp => fin_tup q s (cut_rds t lo hi) hp⟩
    have : cutD xs lo hi = xs := by
      unfold cutD
      rw [← t.length] at w
      rw [w.1, w.2]
      simp
    rw [this] at q
    exact fin_d q s (.tup hq t)
  · simp only [Option.map_eq_some_iff] at h
    obtain ⟨xs, e, rfl⟩ := h
    obtain ⟨p, vs, rfl, hq, t⟩ := r1.seqL s e
    exact ⟨_, sl_list, p, vs, rfl, hq, fun p hp => fin_lst q s (cut_rds t lo hi) hp⟩
theorem tyA_ok {t : String} (s : RS K mg H ρ st) (r : RA K mg H0 H ρ x v) (h : tyA st x = some t) : TyX K H v (.type t) := by
  unfold tyA at h
  split at h
  · cases h
    cases r with
    | l h1 h2 h3 h4 => exact .base (.lst h3)
  · cases h; obtain rfl := r.non; exact .base .non
  · cases h; obtain rfl := r.bl; exact .base (.bl _)
  · cases h; obtain rfl := r.int; exact .base (.int _)
  · cases h; obtain rfl := r.str; exact .base (.str _)
  · cases h
    obtain ⟨a, vs, rfl, h1, h2⟩ := r.val.tup'
    rcases h1 with (h1 | ⟨o, h1⟩) | ⟨o, its, n, h1, h2, _⟩
    · exact .base (.tup h1)
    · exact .fTuple h1
    · exact .kTuple h1 h2
  · cases h
    cases r.val with
    | rol h1 _ =>
      rcases h1 with ⟨o, h1⟩ | ⟨o, its, n, h1, h2, _⟩
      · exact .base (.frz h1)
      · exact .kList h1 h2
  · split at h
    · rename_i xs e
      cases h
      cases r.val with
      | loc q =>
        cases s.at' _ _ _ q e with
        | lst h1 _ => exact .base (.lst h1)
    · rename_i xs e
      cases h
      cases r.val with
      | loc q =>
        cases s.at' _ _ _ q e with
        | dic h1 _ => exact .base (.dK h1)
    · cases h
  · cases h
end
end Ev
namespace Ev
open PySem PySem.Spec PyProof.Rows L2
/-- an exception's __init__ that keeps its thing as "ring" -/
noncomputable def spRing (K : PySem.W.Frag) : Sp := fun vs H Q E => ∃ (a C : Addr) (v : V), vs = [.ref a, v] ∧ OexC K C ∧ PySem.W.findIn K (.ref C) "ring" = some none ∧ H a = some (exo a C none) ∧ ∀ dx, H dx = none → dx ≠ a → Q .non (upd (upd H dx (exd dx [(("ring" : Str), v)])) a (exo a C (some dx)))
/-- what is told of an exception class that keeps a ring -/
noncomputable def RingF (P : Program) (w : World) (K : PySem.W.Frag) (mg : Str → Option Value) (base : Heap) (c : Str) : Prop := ∃ (C fI : Addr) (fd : FuncData), mg c = some (.ref C) ∧ OexC K C ∧ XfC K C ∧ PySem.W.findIn K (.ref C) "ring" = some none ∧ PySem.W.findIn K (.ref C) "__init__" = some (some (.ref fI)) ∧
  PySem.W.typeIn K (.ref fI) = some (.type "function") ∧ FnOk P w K mg base CX0 (0 + 1) fI fd ["self", "ring"] (spRing K) ∧ Binds K fd ["self", "ring"] []
section
open PySem.W PySem.Calls
variable {prog : Program} {w : World} {A : Around} {E : Value → Shared → Prop} {s : Shared} {K : Frag} {x D : Addr} {ox : Obj} {od : Option Obj}
theorem findObj_dataD {C : Addr} {name : Str} {a g : Value} (hc : (clsIn K C).isSome = true) (ha : findIn K (.ref C) name = some (some a)) (hg : specialIn K a "__get__" = some (some g)) (ht : takesIn K a = some true) : findObj K C od name = some (.bind g a) := by
  obtain ⟨cd, hc⟩ := Option.isSome_iff_exists.mp hc
  unfold findObj
  rw [hc, Option.bind_some, ha, Option.bind_some]
  simp [hg, ht]
theorem kin_classD {Q : Option Value → Shared → Prop} (hga : findIn K (.ref D) "__getattribute__" = some (some (.builtin "BaseException.__getattribute__"))) (hgt : findIn K (.ref D) "__getattr__" = some none) (hsub : subIn K (.ref D) (.type "BaseException") = some true)
    (hdct : hasDictIn K D = true) (ha : findIn K (.ref D) "__class__" = some (some (.builtin "object.__class__")))
    (hn : specialIn K (.builtin "object.__class__") "__get__" = some (some (.builtin "getset_descriptor.__get__"))) (htk : takesIn K (.builtin "object.__class__") = some true) (hm : mroIn K D (.type "object") = some true)
    (X : K.In s.heap) (I : InstAt s.heap x ox D od) (h : Q (some (.ref D)) { s with toks := s.toks + 1 }) : wpAny (model prog w) A (getAttr? (.ref x) "__class__") Q E s := by
  have hf : findObj K D od "__class__" = some (.bind (.builtin "getset_descriptor.__get__") (.builtin "object.__class__")) := findObj_dataD (by obtain ⟨cd, hc, _⟩ := any_some hdct; rw [hc]; rfl) ha hn htk
  obtain ⟨hp, g, d, t, os⟩ := s
  have L0 := I.type (M := model prog w)
  have L1 := looks_findIn (M := model prog w) X hga
  have L2 := looks_findIn (M := model prog w) X hgt
  have L3 := looks_find (M := model prog w) X I hf
  have sub : Looks (model prog w) hp (isInstance (.ref x) (.type "BaseException")) true := L0.andThen (looks_subIn X hsub)
  have hx0 : (false && onTheHeap (Value.builtin "BaseException.__getattribute__")) = false := rfl
  have hx2 : (Value.builtin "BaseException.__getattribute__" == Value.builtin "object.__getattribute__") = false := by decide +kernel
  have hx1 : (onTheHeap (Value.ref D) && Value.builtin "BaseException.__getattribute__" == Value.builtin "object.__getattribute__") = false := by rw [hx2]; rfl
  unfold getAttr? getAttrBy? getAttrBy
  refine wpAny_bind (wpAny_mkText (wpAny_bind (wpAny_attempt (wpAny_holding (wpAny_bind (L0.at (wpAny_bind (L1.at ?_))))))))
  show wpAny _ _ (if (onTheHeap (Value.ref D) && Value.builtin "BaseException.__getattribute__" == Value.builtin "object.__getattribute__") = true then _ else _) _ _ _
  rw [hx1, if_neg Bool.false_ne_true]
  unfold getAttrByItsOwn hookBefore
  refine wpAny_bind ?_
  rw [if_pos (show onTheHeap (Value.ref D) = true from rfl)]
  refine L2.at ?_
  refine wpAny_bind (wpAny_attempt (wpAny_holding ?_))
  unfold callGetattribute
  rw [hx0, if_neg Bool.false_ne_true]
  unfold boundAndCalled
  rw [PySem.F.excAttr_ValueError.ga.bind (.ref x)]
  refine wpAny_bind (wpAny_pure ?_)
  show wpAny _ _ (call (.builtin "BaseException.__getattribute__") [.ref x, .str "__class__" t]) _ _ _
  refine wpAny_call (codeAny_call_builtin PySem.F.excAttr_ValueError.ga.plain PySem.F.entry_bexc_ga ?_)
  refine @check_slot (model prog w) _ _ ⟨hp, g, d, t + 1, os⟩ "BaseException.__getattribute__" "BaseException" "__getattribute__" (.ref x) [.str "__class__" t] [] _ (by decide +kernel) (by decide +kernel) sub (PySem.F.args_bexc_ga (.ref x) (.str "__class__" t)) ?_
  unfold Builtin.«object.__getattribute__»
  refine wpAny_bind (wpAny_of_eq (a := ((Value.ref x : Value), [Value.str "__class__" t])) (by first | rfl | (simp only [slotArgs]; rfl)) ?_)
  refine wpAny_bind (wpAny_pure (wpAny_bind (L0.at (wpAny_bind (L3.at ?_)))))
  show wpAny _ _ (holding [Value.builtin "object.__class__"] (call (.builtin "getset_descriptor.__get__") [.builtin "object.__class__", .ref x, .ref D]) >>= ret) _ _ _
  refine wpAny_bind (wpAny_holding (wpAny_call (class_get (s := ⟨hp, g, d, t + 1, os⟩) (ox := ox) (od := od) X I hm ?_)))
  refine wpAny_pure ?_
  show wpAny _ _ (handedOut (.ref D)) _ _ _
  rw [handedOut_of (v := .ref D) rfl]
  first
    | exact wpAny_pure (wpAny_pure h)
    | exact wpAny_pure h
    | exact wpAny_pure (wpAny_bind (wpAny_pure (wpAny_pure h)))
theorem kitx_excD (hga : findIn K (.ref D) "__getattribute__" = some (some (.builtin "BaseException.__getattribute__"))) (hgt : findIn K (.ref D) "__getattr__" = some none) (hsub : subIn K (.ref D) (.type "BaseException") = some true) (hdct : hasDictIn K D = true) (ha : findIn K (.ref D) "__class__" = some (some (.builtin "object.__class__")))
    (hn : specialIn K (.builtin "object.__class__") "__get__" = some (some (.builtin "getset_descriptor.__get__"))) (htk : takesIn K (.builtin "object.__class__") = some true) (hm : mroIn K D (.type "object") = some true) :
    KitX K (.ref x) (.ref D) (fun h => InstAt h x ox D od) where
  ty := fun _ _ _ I => I.type
  it := fun _ _ X _ => by
    obtain ⟨cdD, hcD, _⟩ := any_some hdct
    unfold clsIn at hcD
    split at hcD
    · rename_i c' d' cd' sl' ho
      intro A' Q' E' s' k q
      unfold isType loadHead
      exact wpAny_bind (wpAny_loadPart (k _ _ (X _ _ ho)) (wpAny_pure q))
    · cases hcD
  ne := fun h tp dd its n sl X htp => by
    obtain ⟨cdD, hcD, _⟩ := any_some hdct
    refine Bool.eq_false_iff.mpr fun q => ?_
    have e : D = tp := Value.ref.inj (beq_iff_eq.mp q)
    subst e
    unfold clsIn at hcD
    split at hcD
    · rename_i c' d' cd' sl' ho
      have z := (X _ _ ho).symm.trans htp
      cases z
    · cases hcD
  ca := fun X I k => kin_classD hga hgt hsub hdct ha hn htk hm X I k
end
/-- .. or that keeps none -/
noncomputable def DcB (H : Hp) (d : Option Addr) : Prop := d = none ∨ ∃ dd fs, d = some dd ∧ H dd = some (.xd fs)
theorem at_exc {X : Cx} {pins : List (Addr × Obj)} {σ : L2.St} {H : Hp} {s : Shared} {a C : Addr} {d : Option Addr} (I : L2.Inv X pins σ H s) (ha : H a = some (.ext (XoP a (.ref C) d))) (hd : DcB H d) : ∃ oe od, PySem.W.InstAt s.heap a oe C od := by
  obtain ⟨⟨oe, vs, e2, hz, hf⟩, _, _⟩ := I.hok a _ ha
  rcases hd with rfl | ⟨dd, fs, rfl, hdd⟩
  · refine ⟨oe, none, ?_⟩
    cases oe
    simp only [Zc] at hz hf
    obtain ⟨z1, z2⟩ := hz
    subst z1 z2 hf
    exact ⟨e2, rfl, rfl, trivial⟩
  · obtain ⟨mA, hns, _⟩ := I.hok dd _ hdd
    obtain ⟨oD, es, ep, e3, _⟩ := hns
    refine ⟨oe, some oD, ?_⟩
    cases oe
    simp only [Zc] at hz hf
    obtain ⟨z1, z2⟩ := hz
    subst z1 z2 hf
    exact ⟨e2, rfl, rfl, e3⟩
section
variable {X : Cx}
noncomputable def tRing (K : PySem.W.Frag) (te : TE) : TE := fun σ H Q => te σ H fun x H1 => ∃ (a C dd : Addr) (v : V), x = .ref a ∧ XfC K C ∧ PySem.W.findIn K (.ref C) "ring" = some none ∧ H1 a = some (.ext (XoP a (.ref C) (some dd))) ∧ H1 dd = some (.xd [(("ring" : Str), v)]) ∧ Q v H1
theorem pe_ring {e : Expr} {te : TE} {pos : Pos} (he : PE X e te) (hb : attributeBase e "ring" X.env (eval e X.env) = eval e X.env) :
    PE X (.Attribute e "ring" pos) (tRing X.K te) := by
  refine ⟨fun pins s σ H Q I h => ?_⟩
  refine attr_of hb (thn (he.run pins s σ H _ I h) fun u s1 hh => ?_)
  obtain ⟨x, H1, I1, rx, a, C, dd, v, ex, T, hno, ha, ea, q⟩ := hh
  subst ex
  obtain rfl : u = Value.ref a := rx
  obtain ⟨⟨oe, vs, e2, hz, hd⟩, _, _⟩ := I1.hok a _ ha
  have hx : ObjOk X.prog X.w H1 s1.heap dd (.xd [(("ring" : Str), v)]) := I1.hok dd _ ea
  obtain ⟨mA, hns, hr⟩ := hx
  obtain ⟨od, ho, hl⟩ := lookIn_ns hns
  obtain ⟨u, hu, ru⟩ := RelO.some_of (v := v) (o := mA "ring") (by have := hr "ring"; simpa [List.lookup] using this)
  have J : PySem.W.InstAt s1.heap a oe C (some od) := by
    cases oe
    simp only [Zc] at hz hd
    obtain ⟨z1, z2⟩ := hz
    subst z1 z2 hd
    exact ⟨e2, rfl, rfl, ho⟩
  exact HandSPX.exc_get I1.kIn J T.ga T.gg T.exC (PySem.W.findObj_own T.hdC hno rfl (by rw [hl, hu])) (handed_of ru) ⟨v, H1, I1.tok _, ru, q⟩
end
end Ev
namespace Ev
open PySem PySem.Spec PyProof.Rows L2
variable {L : LT}
/-- what a def that runs F promises -/
noncomputable def spD (K : PySem.W.Frag) (mg : Str → Option Value) (n : Nat) (F : List D → M D) : Sp := fun vs H Q E =>
  vs.length = n ∧ ∃ ρ xs st, RDs K mg H ρ xs vs ∧ RS K mg H ρ st ∧ KR K mg (rD K mg) (fun cls d _ H' => E cls d H') [] Q H ρ (F xs st)
/-- the built-ins that no text here takes the names of -/
noncomputable def allB : List Str := ["len", "all", "any", "sum", "abs", "max", "min", "int", "str", "list", "tuple", "bool", "dict", "isinstance", "range", "zip", "enumerate", "sorted", "set", "repr", "ValueError", "asked", "_law_call"]
/-- room, and no text of a thing under way -/
structure Rm (k : Nat) (A : Around) : Prop where
  r : Room k A
  gu : A.guards = some []
theorem Rm.mono {j k : Nat} {A : Around} (m : Rm k A) (h : j ≤ k) : Rm j A := ⟨m.r.mono h, m.gu⟩
theorem Rm.deeper {k : Nat} {A : Around} (m : Rm (k + 1) A) (env : PySem.Env) : Rm k (A.deeper env) := ⟨m.r.deeper env, m.gu⟩
theorem Rm.in1 {k : Nat} {A : Around} (m : Rm (k + 1) A) : Rm k A.in1 := ⟨m.r.in1, m.gu⟩
/-- a def's promise, where no text is under way -/
structure FnG (P : Program) (w : World) (K : PySem.W.Frag) (mg : Str → Option Value) (base : Heap) (k : Nat) (f : Addr) (fd : FuncData) (ps : List Str) (sp : Sp) : Prop where
  many : ∀ vs H Q E, sp vs H Q E → vs.length = ps.length
  go : ∀ (A : Around) (outer : List PySem.Env) (s : Shared) (H : Hp) (us : List Value) (vs : List V) (Q : VK) (E : XK), Rm k A → Env0 P w K mg base A outer s H → BindsTo s fd ⟨us, []⟩ (ps.zip us) → Vals vs us → sp vs H Q E → codeAny (model P w) A (.call (.ref f) ⟨us, []⟩) (CR (L2.CX P w) outer P w H s Q E) s
theorem FnG.mono {P : Program} {w : World} {K : PySem.W.Frag} {mg : Str → Option Value} {base : Heap} {j k : Nat} {f : Addr} {fd : FuncData} {ps : List Str} {sp : Sp} (F : FnG P w K mg base j f fd ps sp) (h : j ≤ k) : FnG P w K mg base k f fd ps sp :=
  ⟨F.many, fun A o s H us vs Q E m => F.go A o s H us vs Q E (m.mono h)⟩
theorem FnG.weak {P : Program} {w : World} {K : PySem.W.Frag} {mg : Str → Option Value} {base : Heap} {k : Nat} {f : Addr} {fd : FuncData} {ps : List Str} {sp sp' : Sp} (F : FnG P w K mg base k f fd ps sp) (h : ∀ vs H Q E, sp' vs H Q E → sp vs H Q E) : FnG P w K mg base k f fd ps sp' :=
  ⟨fun vs H Q E z => F.many vs H Q E (h _ _ _ _ z), fun A o s H us vs Q E m e b v z => F.go A o s H us vs Q E m e b v (h _ _ _ _ z)⟩
/-- such a def runs -/
theorem run_G {X : Cx} {W : WX} {k : Nat} {f : Addr} {fd : FuncData} {ps : List Str} {sp : Sp} {pins : List (Addr × Obj)} {σ : L2.St} {H : Hp} {s : Shared} {Q : VK} {us : List Value} {vs : List V} (tk : Takes X W) (F : FnG X.prog X.w X.K X.mg X.base k f fd ps sp) (m : Rm k X.A) (hb : Binds X.K fd ps []) (I : Inv X pins σ H s) (r : Vals vs us) (z : sp vs H Q (WE W σ)) : wpAny (model X.prog X.w) X.A (call (.ref f) us) (EP X pins σ Q) X.xe s := by
  have n : us.length = ps.length := r.length ▸ F.many _ _ _ _ z
  have b : BindsTo s fd ⟨us, []⟩ (ps.zip us) := by simpa using hb s us I.kIn (by simpa using n)
  apply wpAny_call
  apply codeAny_mono (F.go X.A X.stack s H us vs Q _ m I.env0 b r z)
  rintro (e | fl) s2 q
  · exact passAt tk σ _ _ _ _ _ I q
  · cases fl with
    | ret u => exact I.after q
    | _ => exact (show False from q).elim
theorem pe_callG {X : Cx} {W : WX} {k : Nat} {f : Addr} {fd : FuncData} {ps : List Str} {sp : Sp} {x : Str} {p pos : Pos} {e : Expr} {es : List Expr} {t : TA} (tk : Takes X W) (F : FnG X.prog X.w X.K X.mg X.base k f fd ps sp) (m : Rm k X.A) (hg : Gl X x) (hm : X.mg x = some (.ref f)) (hk : PySem.W.keepIn X.K (.ref f) = true) (hb : Binds X.K fd ps [])
    (ha : PA X (e :: es) t) (hd : (x == ("__debug__" : Str)) = false) (he : starEach (e :: es) X.env = (false, eval e X.env) :: starEach es X.env) (hpl : (backTo pos (starEach es X.env)).any (·.1) = false) :
    PE X (.Call (.Name x p) (e :: es) [] pos) (fun σ H Q => t σ H fun vs H1 => sp vs H1 Q (WE W σ)) := by
  constructor
  intro pins s σ H Q I h
  apply wpAny_Call_Name_kw
  refine ld_glob I hg hm (PySem.W.callWith_K (h₀ := X.base) I.ok.mod.kin hk (thn (ha.run pos pins s σ H _ I h) ?_) he hpl) hd
  rintro us s1 ⟨vs, H1, J, r, z⟩
  exact ⟨J.kIn, run_G tk F m hb J r z⟩
/-- calling f, which stands at the state s, H of frames outer, does what Act says, whenever later -/
noncomputable def LamAt (P : Program) (w : World) (K : PySem.W.Frag) (mg : Str → Option Value) (base : Heap) (k : Nat) (outer : List PySem.Env) (s : Shared) (H : Hp) (r : List Addr) (f : Addr) (Act : List D → M D) : Prop :=
  (∀ H' h', Un (frs outer) [] H H' s.heap h' → PySem.W.FnAt f h') ∧
  ∀ (A : Around) (outer' : List PySem.Env) (s' : Shared) (H' : Hp) (us : List Value) (vs : List V) (Q : VK) (E : XK) (ρ : List Addr) (xs : List D) (st : Stt), (∃ t, ρ = r ++ t) → Rm k A → Env0 P w K mg base A outer' s' H' → Un (frs outer) [] H H' s.heap s'.heap → Vals vs us → RDs K mg H' ρ xs vs → RS K mg H' ρ st →
    KR K mg (rD K mg) (fun cls d _ H'' => E cls d H'') [] Q H' ρ (Act xs st) → codeAny (model P w) A (.call (.ref f) ⟨us, []⟩) (CR (L2.CX P w) outer' P w H' s' Q E) s'
/-- a def that takes such a one ahead of its other arguments -/
noncomputable def HOk (P : Program) (w : World) (K : PySem.W.Frag) (mg : Str → Option Value) (base : Heap) (k : Nat) (a : Addr) (fd : FuncData) (ps : List Str) (FH : (List D → M D) → List D → M D) : Prop :=
  ∀ (A : Around) (outer : List PySem.Env) (s : Shared) (H : Hp) (us : List Value) (vs : List V) (Q : VK) (E : XK) (fl : Addr) (Act : List D → M D) (ρ : List Addr) (xs : List D) (st : Stt), Rm (k + 1) A → Env0 P w K mg base A outer s H → BindsTo s fd ⟨.ref fl :: us, []⟩ (ps.zip (.ref fl :: us)) → Vals vs us → vs.length + 1 = ps.length →
    LamAt P w K mg base k outer s H ρ fl Act → RDs K mg H ρ xs vs → RS K mg H ρ st → KR K mg (rD K mg) (fun cls d _ H' => E cls d H') [] Q H ρ (FH Act xs st) → codeAny (model P w) A (.call (.ref a) ⟨.ref fl :: us, []⟩) (CR (L2.CX P w) outer P w H s Q E) s
structure GOk (P : Program) (w : World) (K : PySem.W.Frag) (mg : Str → Option Value) (base : Heap) (k : Nat) (G : Gam) : Prop where
  hf : ∀ f FH, G.hf f = some FH → ∃ a fd ps, mg f = some (.ref a) ∧ PySem.W.keepIn K (.ref a) = true ∧ Binds K fd ps [] ∧ (∀ j, k ≤ j → HOk P w K mg base j a fd ps FH) ∧ ∀ Act xs st, (∃ z, FH Act xs st = z ∧ z ≠ .bad) → xs.length + 1 = ps.length
  fn : ∀ (f : Str) F, askB f = false → G.fn f = some F → ∃ a fd ps, mg f = some (.ref a) ∧ PySem.W.keepIn K (.ref a) = true ∧ Binds K fd ps [] ∧ FnG P w K mg base k a fd ps (spD K mg ps.length F) ∧ ∀ xs st, (∃ z, F xs st = z ∧ z ≠ .bad) → xs.length = ps.length
  gc : ∀ x d, G.gc x = some d → ∃ u v, mg x = some u ∧ RelV v u ∧ ∀ H ρ, RD K mg H ρ d v
  bt : ∀ x ∈ allB, mg x = none
  xc : ∀ c, G.xc c = true → ∃ C bmB B newId initId, mg c = some (.ref C) ∧ PySem.W.keepIn K (.ref C) = true ∧ ExcBaseFacts B newId initId bmB ∧ PySem.W.excIn K C bmB newId = true ∧ PySem.W.subIn K (.ref C) (.type "BaseException") = some true ∧ PySem.W.typeIn K (.ref C) = some (.type "type")
  xr : ∀ c, G.xr c = true → 2 ≤ k ∧ RingF P w K mg base c
  ist : ∀ e c b, G.ist e c = some b → ∃ C, mg e = some (.ref C) ∧ ExcC K C ∧ ((∃ D, mg c = some (.ref D) ∧ PySem.W.kitOne K (.ref C) (.ref D) = some b) ∨ (c = "ValueError" ∧ PySem.W.kitOne K (.ref C) (.type "ValueError") = some b))
  cl : ∀ c ∈ G.cl, ∃ D, mg c = some (.ref D)
  sub : ∀ c' c b, G.sub c' c = some b → ∃ C D, mg c' = some (.ref C) ∧ mg c = some (.ref D) ∧ PySem.W.exmOne K (.ref C) (.ref D) = some b
  sm : SmB base
structure Gd (X : Cx) (k : Nat) : Prop where
  calm : X.calm = true
  nd : X.N.Nodup
  room : Rm k X.A
  pass : PassesOwn (model X.prog X.w) X.A X.env X.xe
noncomputable abbrev GX (X : Cx) (k : Nat) (G : Gam) : Prop := GOk X.prog X.w X.K X.mg X.base k G
theorem Gd.hu {X : Cx} {k : Nat} (g : Gd X k) : X.A.units + 64 < cLine := g.room.r.units
section
variable {X : Cx} {k : Nat} {G : Gam} {a b c e : Expr} {es : List Expr} {ma mb mc : Env → Stt → Rs A} {pos : Pos}
theorem KR.ofO {K : PySem.W.Frag} {mg : Str → Option Value} {α β : Type} {rel : Rl α β} {W : WX} {σ : L2.St} {Q : β → Hp → Prop} {H : Hp} {ρ : List Addr} {o : Option α} {st : Stt} (h : KR K mg rel W σ Q H ρ (Ev.ofO o st)) : ∃ z, o = some z ∧ KR K mg rel W σ Q H ρ (.ok z st) := by
  cases o with
  | none => exact h.elim
  | some z => exact ⟨z, rfl, h⟩
theorem ja_v {i : Nat} {x : Str} (hN : X.N[i]? = some x) (hv : Vis X.env.scope x) (hd : (x == ("__debug__" : Str)) = false) (hcd : (x == ("__classdict__" : Str)) = false) : JA X L (fun env st => evA G env (.v i) st) (.Name x pos) := by
  intro W tk
  refine PE.imp (pe_var hN hv hd hcd) ?_
  rintro σ H Q ⟨ρ, env, st, he, hs, h⟩
  simp only [evA] at h
  split at h
  · rename_i d e
    obtain ⟨v, h1, h2⟩ := he.2 _ _ e
    exact ⟨v, h1, fin_d h hs h2⟩
  · exact h.elim
theorem ja_int {i : Int} {j : Nat} : JA X L (fun env st => evA G env (.c (.int i)) st) (.Constant (.int i) j pos) := by
  intro W tk
  refine PE.imp pe_int ?_
  rintro σ H Q ⟨ρ, env, st, he, hs, h⟩
  exact fin_d h hs (.int _)
theorem ja_bl {i : Bool} {j : Nat} : JA X L (fun env st => evA G env (.c (.bl i)) st) (.Constant (.bool i) j pos) := by
  intro W tk
  refine PE.imp pe_bl ?_
  rintro σ H Q ⟨ρ, env, st, he, hs, h⟩
  exact fin_d h hs (.bl _)
theorem ja_non {j : Nat} : JA X L (fun env st => evA G env (.c .non) st) (.Constant .none j pos) := by
  intro W tk
  refine PE.imp pe_non ?_
  rintro σ H Q ⟨ρ, env, st, he, hs, h⟩
  exact fin_d h hs .non
theorem ja_str {x : Str} {j : Nat} : JA X L (fun env st => evA G env (.c (.str x)) st) (.Constant (.str x) j pos) := by
  intro W tk
  refine PE.imp pe_str ?_
  rintro σ H Q ⟨ρ, env, st, he, hs, h⟩
  exact fin_d h hs (.str _)
/-- where nothing is told the wish is not met -/
theorem ja_g {x : Str} (gx : GX X k G) (hna : askB x = false) (hg : Gl X x) (hd : (x == ("__debug__" : Str)) = false) : JA X L (fun env st => evA G env (.g x) st) (.Name x pos) := by
  intro W tk
  cases q : G.gc x with
  | none =>
    cases qf : G.fn x with
    | none =>
      refine ⟨fun pins s σ H Q I h => ?_⟩
      obtain ⟨ρ, env, st, he, hs, h⟩ := h
      simp only [evA, q, qf] at h
      exact h.elim
    | some F =>
      obtain ⟨a, fd, ps, h1, _⟩ := gx.fn x F hna qf
      refine PE.imp (pe_glob (v := .ref a) hg h1 rfl hd) ?_
      rintro σ H Q ⟨ρ, env, st, he, hs, h⟩
      simp only [evA, q, qf, Option.isSome_some, if_true] at h
      exact fin_d h hs (.obj h1)
  | some d =>
    obtain ⟨u, v, h1, h2, h3⟩ := gx.gc x d q
    refine PE.imp (pe_glob hg h1 h2 hd) ?_
    rintro σ H Q ⟨ρ, env, st, he, hs, h⟩
    simp only [evA, q] at h
    exact fin_d h hs (h3 H ρ)
theorem ja_bin {op : Operator} {xa xb : Ex} (ha : JA X L (fun env st => evA G env xa st) a) (hb : JA X L (fun env st => evA G env xb st) b) : JA X L (fun env st => evA G env (.bin op xa xb) st) (.BinOp a op b pos) := by
  intro W tk
  refine PE.imp (pe_op op_any (ha W tk) (hb W tk)) ?_
  rintro σ H Q ⟨ρ, env, st, he, hs, h⟩
  simp only [evA] at h
  refine ⟨ρ, env, st, he, hs, KR.bind h ?_⟩
  intro x st1 v1 H1 ρ1 e1 s1 r1 h1
  refine ⟨ρ1, env, st1, he.mono e1, s1, KR.bind (h1.ext anti_A e1) ?_⟩
  intro y st2 v2 H2 ρ2 e2 s2 r2 h2
  exact binA_ok s2 (r1.mono e2) r2 (h2.ext anti_A e2)
theorem ja_neg {xa : Ex} (ha : JA X L (fun env st => evA G env xa st) a) : JA X L (fun env st => evA G env (.neg xa) st) (.UnaryOp .USub a pos) := by
  intro W tk
  refine PE.imp (pe_un un_neg (ha W tk)) ?_
  rintro σ H Q ⟨ρ, env, st, he, hs, h⟩
  simp only [evA] at h
  refine ⟨ρ, env, st, he, hs, KR.bind h ?_⟩
  intro x st1 v1 H1 ρ1 e1 s1 r1 h1
  split at h1
  · obtain rfl := r1.int
    exact ⟨_, rfl, fin_d (h1.ext anti_A e1) s1 (.int _)⟩
  · exact h1.elim
theorem KR.tru {K : PySem.W.Frag} {mg : Str → Option Value} {γ δ : Type} {rel2 : Rl γ δ} {W : WX} {σ : L2.St} {H H0 H1 : Hp} {ρ ρ1 : List Addr} {x : A} {v : V} {st : Stt} {Q : δ → Hp → Prop} {kk : Bool → M γ} (s : RS K mg H1 ρ1 st) (r : RA K mg H0 H1 ρ1 x v)
    (h : KR K mg rel2 W σ Q H ρ ((truA x st).bind kk)) : ∃ b, TruV K v H1 b ∧ KR K mg rel2 W σ Q H ρ (kk b st) := by
  cases q : truA x st with
  | ok b st' =>
    obtain ⟨rfl, t⟩ := truA_ok s r q
    rw [q] at h
    exact ⟨b, t, h⟩
  | exc c fs st' => exact (truA_exc q).elim
  | bad => rw [q] at h; exact h.elim
theorem ja_nt {xa : Ex} (ha : JA X L (fun env st => evA G env xa st) a) : JA X L (fun env st => evA G env (.nt xa) st) (.UnaryOp .Not a pos) := by
  intro W tk
  refine PE.imp (pe_notT (ha W tk)) ?_
  rintro σ H Q ⟨ρ, env, st, he, hs, h⟩
  simp only [evA] at h
  refine ⟨ρ, env, st, he, hs, KR.bind h ?_⟩
  intro x st1 v1 H1 ρ1 e1 s1 r1 h1
  obtain ⟨t, tv, h2⟩ := KR.tru s1 r1 h1
  exact ⟨t, tv, fin_d (h2.ext anti_A e1) s1 (.bl _)⟩
theorem ja_one {op : BoolOp} {xa : Ex} (ha : JA X L (fun env st => evA G env xa st) a) : JA X L (fun env st => evA G env xa st) (.BoolOp op [a] pos) := fun W tk => pe_one (ha W tk)
theorem ja_and {rest : List Expr} {xa xb : Ex} {r : Es} (ha : JA X L (fun env st => evA G env xa st) a) (hb : JA X L (fun env st => evAnd G env (.cons xb r) st) (.BoolOp .And (b :: rest) pos)) : JA X L (fun env st => evAnd G env (.cons xa (.cons xb r)) st) (.BoolOp .And (a :: b :: rest) pos) := by
  intro W tk
  refine PE.imp (pe_andT (ha W tk) (hb W tk)) ?_
  rintro σ H Q ⟨ρ, env, st, he, hs, h⟩
  simp only [evAnd] at h
  refine ⟨ρ, env, st, he, hs, KR.bind h ?_⟩
  intro x st1 v1 H1 ρ1 e1 s1 r1 h1
  obtain ⟨t, tv, h2⟩ := KR.tru s1 r1 h1
  refine ⟨t, tv, ?_⟩
  cases t with
  | true =>
    rw [if_pos rfl] at h2 ⊢
    exact ⟨ρ1, env, st1, he.mono e1, s1, by simpa only [evAnd] using h2.ext anti_A e1⟩
  | false =>
    rw [if_neg Bool.false_ne_true] at h2 ⊢
    exact h2 v1 H1 ρ1 e1 s1 r1
theorem ja_or {rest : List Expr} {xa xb : Ex} {r : Es} (ha : JA X L (fun env st => evA G env xa st) a) (hb : JA X L (fun env st => evOr G env (.cons xb r) st) (.BoolOp .Or (b :: rest) pos)) : JA X L (fun env st => evOr G env (.cons xa (.cons xb r)) st) (.BoolOp .Or (a :: b :: rest) pos) := by
  intro W tk
  refine PE.imp (pe_orT (ha W tk) (hb W tk)) ?_
  rintro σ H Q ⟨ρ, env, st, he, hs, h⟩
  simp only [evOr] at h
  refine ⟨ρ, env, st, he, hs, KR.bind h ?_⟩
  intro x st1 v1 H1 ρ1 e1 s1 r1 h1
  obtain ⟨t, tv, h2⟩ := KR.tru s1 r1 h1
  refine ⟨t, tv, ?_⟩
  cases t with
  | false =>
    rw [if_neg Bool.false_ne_true] at h2 ⊢
    exact ⟨ρ1, env, st1, he.mono e1, s1, by simpa only [evOr] using h2.ext anti_A e1⟩
  | true =>
    rw [if_pos rfl] at h2 ⊢
    exact h2 v1 H1 ρ1 e1 s1 r1
theorem ja_cmp {op : CmpOp} {xa xb : Ex} (gd : Gd X k) (ha : JA X L (fun env st => evA G env xa st) a) (hb : JA X L (fun env st => evA G env xb st) b) (hm : behindInMarks op b = false) : JA X L (fun env st => evA G env (.cmp xa op xb) st) (.Compare a [op] [b] pos) := by
  intro W tk
  refine PE.imp (pe_cmpR op_any (ha W tk) (hb W tk) hm) ?_
  rintro σ H Q ⟨ρ, env, st, he, hs, h⟩
  simp only [evA] at h
  refine ⟨ρ, env, st, he, hs, KR.bind h ?_⟩
  intro x st1 v1 H1 ρ1 e1 s1 r1 h1
  refine ⟨ρ1, env, st1, he.mono e1, s1, KR.bind (h1.ext anti_A e1) ?_⟩
  intro y st2 v2 H2 ρ2 e2 s2 r2 h2
  obtain ⟨z, ez, h3⟩ := KR.ofO h2
  simp only [Option.map_eq_some_iff] at ez
  obtain ⟨t, ez, rfl⟩ := ez
  exact cmpA_ok gd.hu s2 (r1.mono e2) r2 ez (fin_d (h3.ext anti_A e2) s2 (.bl _))
theorem ja_cmp2 {op op' : CmpOp} {xa xb xc : Ex} (gd : Gd X k) (ha : JA X L (fun env st => evA G env xa st) a) (hb : JA X L (fun env st => evA G env xb st) b) (hc : JA X L (fun env st => evA G env xc st) c) (hm : lastMarks [op, op'] [b, c] = false) :
    JA X L (fun env st => evA G env (.cmp2 xa op xb op' xc) st) (.Compare a [op, op'] [b, c] pos) := by
  intro W tk
  refine PE.imp (pe_chain op_any op_any (ha W tk) (hb W tk) (hc W tk) hm) ?_
  rintro σ H Q ⟨ρ, env, st, he, hs, h⟩
  simp only [evA] at h
  refine ⟨ρ, env, st, he, hs, KR.bind h ?_⟩
  intro x st1 v1 H1 ρ1 e1 s1 r1 h1
  refine ⟨ρ1, env, st1, he.mono e1, s1, KR.bind (h1.ext anti_A e1) ?_⟩
  intro y st2 v2 H2 ρ2 e2 s2 r2 h2
  cases q : cmpA op x y st2 with
  | none => rw [q] at h2; exact h2.elim
  | some t =>
    rw [q] at h2
    have h3 := h2.ext anti_A e2
    refine cmpA_ok gd.hu s2 (r1.mono e2) r2 q ⟨t, rfl, ?_⟩
    cases t with
    | false =>
      rw [if_neg Bool.false_ne_true]
      exact fin_d h3 s2 (.bl _)
    | true =>
      rw [if_pos rfl]
      refine ⟨ρ2, env, st2, (he.mono e1).mono e2, s2, KR.bind (rel2 := RA X.K X.mg) (Q := Q) (k := fun z st => ofO ((cmpA op' y z st).map fun r => A.d (.bl r)) st) h3 ?_⟩
      intro z st3 v3 H3 ρ3 e3 s3 r3 h4
      obtain ⟨z', ez, h5⟩ := KR.ofO h4
      simp only [Option.map_eq_some_iff] at ez
      obtain ⟨t, ez, rfl⟩ := ez
      exact cmpA_ok gd.hu s3 (r2.mono e3) r3 ez (fin_d (h5.ext anti_A e3) s3 (.bl _))
theorem ja_cmp3 {d : Expr} {op op' op2 : CmpOp} {xa xb xc xd : Ex} (gd : Gd X k) (ha : JA X L (fun env st => evA G env xa st) a) (hb : JA X L (fun env st => evA G env xb st) b) (hc : JA X L (fun env st => evA G env xc st) c) (hd : JA X L (fun env st => evA G env xd st) d) (hm : lastMarks [op, op', op2] [b, c, d] = false) :
    JA X L (fun env st => evA G env (.cmp3 xa op xb op' xc op2 xd) st) (.Compare a [op, op', op2] [b, c, d] pos) := by
  intro W tk
  refine PE.imp (pe_chain3 op_any op_any op_any (ha W tk) (hb W tk) (hc W tk) (hd W tk) hm) ?_
  rintro σ H Q ⟨ρ, env, st, he, hs, h⟩
  simp only [evA] at h
  refine ⟨ρ, env, st, he, hs, KR.bind h ?_⟩
  intro x st1 v1 H1 ρ1 e1 s1 r1 h1
  refine ⟨ρ1, env, st1, he.mono e1, s1, KR.bind (h1.ext anti_A e1) ?_⟩
  intro y st2 v2 H2 ρ2 e2 s2 r2 h2
  cases q : cmpA op x y st2 with
  | none => rw [q] at h2; exact h2.elim
  | some t =>
    rw [q] at h2
    have h3 := h2.ext anti_A e2
    refine cmpA_ok gd.hu s2 (r1.mono e2) r2 q ⟨t, rfl, ?_⟩
    cases t with
    | false =>
      rw [if_neg Bool.false_ne_true]
      exact fin_d h3 s2 (.bl _)
    | true =>
      rw [if_pos rfl]
      refine ⟨ρ2, env, st2, (he.mono e1).mono e2, s2, KR.bind (rel2 := RA X.K X.mg) (Q := Q) (k := fun z st => (ofO (cmpA op' y z st) st).bind fun r st => if r = true then (evA G env xd st).bind fun u st => ofO ((cmpA op2 z u st).map fun r => A.d (.bl r)) st else .ok (A.d (.bl false)) st) h3 ?_⟩
      intro z st3 v3 H3 ρ3 e3 s3 r3 h4
      cases q : cmpA op' y z st3 with
      | none => rw [q] at h4; exact h4.elim
      | some t =>
        rw [q] at h4
        have h5 := h4.ext anti_A e3
        refine cmpA_ok gd.hu s3 (r2.mono e3) r3 q ⟨t, rfl, ?_⟩
        cases t with
        | false =>
          rw [if_neg Bool.false_ne_true]
          exact fin_d h5 s3 (.bl _)
        | true =>
          rw [if_pos rfl]
          refine ⟨ρ3, env, st3, ((he.mono e1).mono e2).mono e3, s3, KR.bind (rel2 := RA X.K X.mg) (Q := Q) (k := fun u st => ofO ((cmpA op2 z u st).map fun r => A.d (.bl r)) st) h5 ?_⟩
          intro u st4 v4 H4 ρ4 e4 s4 r4 h6
          obtain ⟨z', ez, h7⟩ := KR.ofO h6
          simp only [Option.map_eq_some_iff] at ez
          obtain ⟨t, ez, rfl⟩ := ez
          exact cmpA_ok gd.hu s4 (r3.mono e4) r4 ez (fin_d (h7.ext anti_A e4) s4 (.bl _))
theorem ja_ix {xa xb : Ex} (ha : JA X L (fun env st => evA G env xa st) a) (hb : JA X L (fun env st => evA G env xb st) b) (hp : PlainIx b) : JA X L (fun env st => evA G env (.ix xa xb) st) (.Subscript a b pos) := by
  intro W tk
  refine PE.imp (pe_ix ix_any (ha W tk) (hb W tk) hp) ?_
  rintro σ H Q ⟨ρ, env, st, he, hs, h⟩
  simp only [evA] at h
  refine ⟨ρ, env, st, he, hs, KR.bind h ?_⟩
  intro x st1 v1 H1 ρ1 e1 s1 r1 h1
  refine ⟨ρ1, env, st1, he.mono e1, s1, KR.bind (h1.ext anti_A e1) ?_⟩
  intro y st2 v2 H2 ρ2 e2 s2 r2 h2
  obtain ⟨z, ez, h3⟩ := KR.ofO h2
  exact ixA_ok s2 (r1.mono e2) r2 ez (h3.ext anti_A e2)
theorem jo_no : JO X L (fun env st => evO G env .no st) none := by
  intro W tk
  refine ⟨fun pins s σ H Q I h => po_none.run pins s σ H Q I ?_⟩
  obtain ⟨ρ, env, st, he, hs, h⟩ := h
  exact h none H ρ (Ext.refl _ _) hs rfl
theorem jo_so {xa : Ex} (ha : JA X L (fun env st => evA G env xa st) a) : JO X L (fun env st => evO G env (.so xa) st) (some a) := by
  intro W tk
  refine ⟨fun pins s σ H Q I h => (po_some (ha W tk)).run pins s σ H Q I ?_⟩
  obtain ⟨ρ, env, st, he, hs, h⟩ := h
  simp only [evO] at h
  refine ⟨ρ, env, st, he, hs, KR.bind h ?_⟩
  intro x st1 v1 H1 ρ1 e1 s1 r1 h1
  obtain ⟨z, ez, h3⟩ := KR.ofO h1
  unfold partA at ez
  split at ez
  · cases ez
    obtain rfl := r1.int
    exact ⟨_, rfl, h3 _ H1 ρ1 e1 s1 rfl⟩
  · cases ez
theorem ja_sl {xa : Ex} {xl xh : Eo} {lo hi : Option Expr} {p2 : Pos} (ha : JA X L (fun env st => evA G env xa st) a) (hl : JO X L (fun env st => evO G env xl st) lo) (hh : JO X L (fun env st => evO G env xh st) hi) :
    JA X L (fun env st => evA G env (.sl xa xl xh) st) (.Subscript a (.Slice lo hi none p2) pos) := by
  intro W tk
  refine PE.imp (pe_slice sl_any (ha W tk) (hl W tk) (hh W tk)) ?_
  rintro σ H Q ⟨ρ, env, st, he, hs, h⟩
  simp only [evA] at h
  refine ⟨ρ, env, st, he, hs, KR.bind h ?_⟩
  intro x st1 v1 H1 ρ1 e1 s1 r1 h1
  refine ⟨ρ1, env, st1, he.mono e1, s1, KR.bind (h1.ext anti_A e1) ?_⟩
  intro y st2 v2 H2 ρ2 e2 s2 r2 h2
  cases r2
  refine ⟨ρ2, env, st2, (he.mono e1).mono e2, s2, KR.bind (h2.ext anti_A e2) ?_⟩
  intro y st3 v3 H3 ρ3 e3 s3 r3 h3
  cases r3
  obtain ⟨z, ez, h4⟩ := KR.ofO h3
  exact slA_ok s3 ((r1.mono e2).mono e3) ez (h4.ext anti_A e3)
theorem ja_ife {xa xb xt : Ex} {t : Expr} (ht : JT X L (fun env st => tst G env xt st) t) (ha : JA X L (fun env st => evA G env xa st) a) (hb : JA X L (fun env st => evA G env xb st) b) : JA X L (fun env st => evA G env (.ife xt xa xb) st) (.IfExp t a b pos) := by
  intro W tk
  refine PE.imp (pe_ifExp (ht W tk) (ha W tk) (hb W tk)) ?_
  rintro σ H Q ⟨ρ, env, st, he, hs, h⟩
  have e0 : evA G env (.ife xt xa xb) st = (tst G env xt st).bind fun r st => if r = true then evA G env xa st else evA G env xb st := by
    simp only [evA, tst]
    cases evA G env xt st <;> rfl
  have h : KR X.K X.mg (RA X.K X.mg) W σ Q H ρ (evA G env (.ife xt xa xb) st) := h
  rw [e0] at h
  refine ⟨ρ, env, st, he, hs, KR.bind h ?_⟩
  intro x st1 v1 H1 ρ1 e1 s1 r1 h1
  cases r1
  cases x with
  | true =>
    rw [if_pos rfl] at h1 ⊢
    exact ⟨ρ1, env, st1, he.mono e1, s1, h1.ext anti_A e1⟩
  | false =>
    rw [if_neg Bool.false_ne_true] at h1 ⊢
    exact ⟨ρ1, env, st1, he.mono e1, s1, h1.ext anti_A e1⟩
end
end Ev
namespace Ev
open PySem PySem.Spec PyProof.Rows L2
variable {L : LT}
section
variable {X : Cx} {k : Nat} {G : Gam} {a b c e : Expr} {es : List Expr} {ma mb mc : Env → Stt → Rs A} {pos : Pos}
theorem jt_of {xa : Ex} (ha : JA X L (fun env st => evA G env xa st) a) (he : ∀ whole, isTrue a X.env whole = (do let v ← whole; standAt a.pos; holding [v] (truthy v))) : JT X L (fun env st => tst G env xa st) a := by
  intro W tk
  refine PT.imp (pt_truth (ha W tk) he) ?_
  rintro σ H Q ⟨ρ, env, st, he, hs, h⟩
  refine ⟨ρ, env, st, he, hs, KR.bind (m := evA G env xa st) (k := truA) h ?_⟩
  intro x st1 v1 H1 ρ1 e1 s1 r1 h1
  cases q : truA x st1 with
  | ok b st' =>
    obtain ⟨rfl, t⟩ := truA_ok s1 r1 q
    rw [q] at h1
    exact ⟨b, t, h1 b H1 ρ1 e1 s1 rfl⟩
  | exc c fs st' => exact (truA_exc q).elim
  | bad => rw [q] at h1; exact h1.elim
theorem tst_nt {xa : Ex} {env : Env} {st : Stt} : tst G env (.nt xa) st = (tst G env xa st).bind fun b st => .ok (!b) st := by
  simp only [tst, evA]
  cases evA G env xa st with
  | ok x st1 =>
    simp only [Rs.bind]
    cases truA x st1 <;> rfl
  | exc c fs st => rfl
  | bad => rfl
theorem jt_nt {xa : Ex} (ha : JT X L (fun env st => tst G env xa st) a) : JT X L (fun env st => tst G env (.nt xa) st) (.UnaryOp .Not a pos) := by
  intro W tk
  refine PT.imp (pt_not (ha W tk)) ?_
  rintro σ H Q ⟨ρ, env, st, he, hs, h⟩
  have h : KR X.K X.mg rEq W σ Q H ρ (tst G env (.nt xa) st) := h
  rw [tst_nt] at h
  refine ⟨ρ, env, st, he, hs, KR.bind h ?_⟩
  intro x st1 v1 H1 ρ1 e1 s1 r1 h1
  cases r1
  exact h1 _ H1 ρ1 e1 s1 rfl
theorem jt_cmp {op : CmpOp} {xa xb : Ex} (gd : Gd X k) (ha : JA X L (fun env st => evA G env xa st) a) (hb : JA X L (fun env st => evA G env xb st) b) (hm : behindInMarks op b = false) : JT X L (fun env st => tst G env (.cmp xa op xb) st) (.Compare a [op] [b] pos) := by
  intro W tk
  refine PT.imp (pt_cmpR op_any (ha W tk) (hb W tk) hm) ?_
  rintro σ H Q ⟨ρ, env, st, he, hs, h⟩
  simp only [tst, evA] at h
  cases qa : evA G env xa st with
  | exc c fs st1 => refine ⟨ρ, env, st, he, hs, ?_⟩; simp only [qa, Rs.bind] at h ⊢; exact h
  | bad => rw [qa] at h; exact h.elim
  | ok x st1 =>
    simp only [qa, Rs.bind] at h
    refine ⟨ρ, env, st, he, hs, ?_⟩
    simp only [qa]
    intro v1 H1 ρ1 e1 s1 r1
    refine ⟨ρ1, env, st1, he.mono e1, s1, ?_⟩
    cases qb : evA G env xb st1 with
    | exc c fs st2 => simp only [qb] at h ⊢; exact KR.ext (rel := rEq) anti_eq (m := Rs.exc c fs st2) h e1
    | bad => rw [qb] at h; exact h.elim
    | ok y st2 =>
      simp only [qb] at h ⊢
      intro v2 H2 ρ2 e2 s2 r2
      cases q : cmpA op x y st2 with
      | none => rw [q] at h; exact h.elim
      | some t =>
        simp only [q, Option.map_some, ofO, truA] at h
        exact cmpA_ok (Q := fun z H => ∃ k, z = .bl k ∧ Q k H) gd.hu s2 (r1.mono e2) r2 q ⟨t, rfl, h t H2 ρ2 (e1.trans e2) s2 rfl⟩
theorem jt_cmp2 {op op' : CmpOp} {xa xb xc : Ex} (gd : Gd X k) (ha : JA X L (fun env st => evA G env xa st) a) (hb : JA X L (fun env st => evA G env xb st) b) (hc : JA X L (fun env st => evA G env xc st) c) (hm : lastMarks [op, op'] [b, c] = false) :
    JT X L (fun env st => tst G env (.cmp2 xa op xb op' xc) st) (.Compare a [op, op'] [b, c] pos) := by
  intro W tk
  have j := ja_cmp2 (G := G) gd ha hb hc hm (pos := pos) W tk
  refine PT.imp (pt_chain op_any op_any (ha W tk) (hb W tk) (hc W tk) hm) ?_
  rintro σ H Q ⟨ρ, env, st, he, hs, h⟩
  have h : KR X.K X.mg rEq W σ Q H ρ ((evA G env (.cmp2 xa op xb op' xc) st).bind truA) := h
  simp only [evA] at h
  show tChain (anyOp X (compareOp op)) (anyOp X (compareOp op')) _ _ _ σ H fun x H' => ∃ k, x = .bl k ∧ Q k H'
  cases qa : evA G env xa st with
  | exc c fs st1 => refine ⟨ρ, env, st, he, hs, ?_⟩; simp only [qa, Rs.bind] at h ⊢; exact h
  | bad => rw [qa] at h; exact h.elim
  | ok x st1 =>
    simp only [qa, Rs.bind] at h
    refine ⟨ρ, env, st, he, hs, ?_⟩
    simp only [qa]
    intro v1 H1 ρ1 e1 s1 r1
    refine ⟨ρ1, env, st1, he.mono e1, s1, ?_⟩
    cases qb : evA G env xb st1 with
    | exc c fs st2 => simp only [qb] at h ⊢; exact KR.ext (rel := rEq) anti_eq (m := Rs.exc c fs st2) h e1
    | bad => rw [qb] at h; exact h.elim
    | ok y st2 =>
      simp only [qb] at h ⊢
      intro v2 H2 ρ2 e2 s2 r2
      cases q : cmpA op x y st2 with
      | none => rw [q] at h; exact h.elim
      | some t =>
        simp only [q, ofO] at h
        refine cmpA_ok gd.hu s2 (r1.mono e2) r2 q ⟨t, rfl, ?_⟩
        cases t with
        | false =>
          rw [if_neg Bool.false_ne_true]
          rw [if_neg Bool.false_ne_true] at h
          exact ⟨false, rfl, h false H2 ρ2 (e1.trans e2) s2 rfl⟩
        | true =>
          rw [if_pos rfl]
          rw [if_pos rfl] at h
          refine ⟨ρ2, env, st2, (he.mono e1).mono e2, s2, ?_⟩
          cases qc : evA G env xc st2 with
          | exc c fs st2 => simp only [qc] at h ⊢; exact KR.ext (rel := rEq) anti_eq (m := Rs.exc c fs st2) h (e1.trans e2)
          | bad => rw [qc] at h; exact h.elim
          | ok z st3 =>
            simp only [qc] at h ⊢
            intro v3 H3 ρ3 e3 s3 r3
            cases q : cmpA op' y z st3 with
            | none => rw [q] at h; exact h.elim
            | some t =>
              simp only [q, Option.map_some, ofO, truA] at h
              exact cmpA_ok (Q := fun z H => ∃ k, z = .bl k ∧ Q k H) gd.hu s3 (r2.mono e3) r3 q ⟨t, rfl, h t H3 ρ3 ((e1.trans e2).trans e3) s3 rfl⟩
theorem jt_cmp3 {d : Expr} {op op' op2 : CmpOp} {xa xb xc xd : Ex} (gd : Gd X k) (ha : JA X L (fun env st => evA G env xa st) a) (hb : JA X L (fun env st => evA G env xb st) b) (hc : JA X L (fun env st => evA G env xc st) c) (hd : JA X L (fun env st => evA G env xd st) d) (hm : lastMarks [op, op', op2] [b, c, d] = false) :
    JT X L (fun env st => tst G env (.cmp3 xa op xb op' xc op2 xd) st) (.Compare a [op, op', op2] [b, c, d] pos) := by
  intro W tk
  refine PT.imp (pt_chain3 op_any op_any op_any (ha W tk) (hb W tk) (hc W tk) (hd W tk) hm) ?_
  rintro σ H Q ⟨ρ, env, st, he, hs, h⟩
  have h : KR X.K X.mg rEq W σ Q H ρ ((evA G env (.cmp3 xa op xb op' xc op2 xd) st).bind truA) := h
  simp only [evA] at h
  show tChain3 (anyOp X (compareOp op)) (anyOp X (compareOp op')) (anyOp X (compareOp op2)) _ _ _ _ σ H fun x H' => ∃ k, x = .bl k ∧ Q k H'
  cases qa : evA G env xa st with
  | exc c fs st1 => refine ⟨ρ, env, st, he, hs, ?_⟩; simp only [qa, Rs.bind] at h ⊢; exact h
  | bad => rw [qa] at h; exact h.elim
  | ok x st1 =>
    simp only [qa, Rs.bind] at h
    refine ⟨ρ, env, st, he, hs, ?_⟩
    simp only [qa]
    intro v1 H1 ρ1 e1 s1 r1
    refine ⟨ρ1, env, st1, he.mono e1, s1, ?_⟩
    cases qb : evA G env xb st1 with
    | exc c fs st2 => simp only [qb] at h ⊢; exact KR.ext (rel := rEq) anti_eq (m := Rs.exc c fs st2) h e1
    | bad => rw [qb] at h; exact h.elim
    | ok y st2 =>
      simp only [qb] at h ⊢
      intro v2 H2 ρ2 e2 s2 r2
      cases q : cmpA op x y st2 with
      | none => rw [q] at h; exact h.elim
      | some t =>
        simp only [q, ofO] at h
        refine cmpA_ok gd.hu s2 (r1.mono e2) r2 q ⟨t, rfl, ?_⟩
        cases t with
        | false =>
          rw [if_neg Bool.false_ne_true]
          rw [if_neg Bool.false_ne_true] at h
          exact ⟨false, rfl, h false H2 ρ2 (e1.trans e2) s2 rfl⟩
        | true =>
          rw [if_pos rfl]
          rw [if_pos rfl] at h
          refine ⟨ρ2, env, st2, (he.mono e1).mono e2, s2, ?_⟩
          cases qc : evA G env xc st2 with
          | exc c fs st2 => simp only [qc] at h ⊢; exact KR.ext (rel := rEq) anti_eq (m := Rs.exc c fs st2) h (e1.trans e2)
          | bad => rw [qc] at h; exact h.elim
          | ok z st3 =>
            simp only [qc] at h ⊢
            intro v3 H3 ρ3 e3 s3 r3
            cases q : cmpA op' y z st3 with
            | none => rw [q] at h; exact h.elim
            | some t =>
              simp only [q] at h
              refine cmpA_ok gd.hu s3 (r2.mono e3) r3 q ⟨t, rfl, ?_⟩
              cases t with
              | false =>
                rw [if_neg Bool.false_ne_true]
                rw [if_neg Bool.false_ne_true] at h
                exact ⟨false, rfl, h false H3 ρ3 ((e1.trans e2).trans e3) s3 rfl⟩
              | true =>
                rw [if_pos rfl]
                rw [if_pos rfl] at h
                refine ⟨ρ3, env, st3, ((he.mono e1).mono e2).mono e3, s3, ?_⟩
                cases qd : evA G env xd st3 with
                | exc c fs st4 => simp only [qd] at h ⊢; exact KR.ext (rel := rEq) anti_eq (m := Rs.exc c fs st4) h ((e1.trans e2).trans e3)
                | bad => rw [qd] at h; exact h.elim
                | ok u st4 =>
                  simp only [qd] at h ⊢
                  intro v4 H4 ρ4 e4 s4 r4
                  cases q : cmpA op2 z u st4 with
                  | none => rw [q] at h; exact h.elim
                  | some t =>
                    simp only [q, Option.map_some, truA] at h
                    exact cmpA_ok (Q := fun z H => ∃ k, z = .bl k ∧ Q k H) gd.hu s4 (r3.mono e4) r4 q ⟨t, rfl, h t H4 ρ4 (((e1.trans e2).trans e3).trans e4) s4 rfl⟩
/-- and, or as tests -/
noncomputable def tstAnd (G : Gam) (env : Env) (es : Es) (st : Stt) : Rs Bool := (evAnd G env es st).bind truA
noncomputable def tstOr (G : Gam) (env : Env) (es : Es) (st : Stt) : Rs Bool := (evOr G env es st).bind truA
noncomputable def JW (X : Cx) (L : LT) (m : Env → Stt → Rs Bool) (e : Expr) : Prop := ∀ W, Takes X W → PW X e (tR X.K X.mg L rEq m W)
theorem PW.imp {X : Cx} {e : Expr} {t t' : TT} (h : PW X e t) (i : ∀ σ H Q, t' σ H Q → t σ H Q) : PW X e t' := ⟨fun wh pins s σ H Q I q => h.run wh pins s σ H Q I (i σ H Q q)⟩
theorem jw_and1 {xa : Ex} (ha : JT X L (fun env st => tst G env xa st) a) : JW X L (fun env st => tstAnd G env (.cons xa .nil) st) (.BoolOp .And [a] pos) := fun W tk => by
  have := pw_and1 (pos := pos) (ha W tk)
  simpa only [tstAnd, evAnd, tst] using this
theorem jw_or1 {xa : Ex} (ha : JT X L (fun env st => tst G env xa st) a) : JW X L (fun env st => tstOr G env (.cons xa .nil) st) (.BoolOp .Or [a] pos) := fun W tk => by
  have := pw_or1 (pos := pos) (ha W tk)
  simpa only [tstOr, evOr, tst] using this
theorem truA_same {x : A} {st st1 : Stt} {b : Bool} (h : truA x st = .ok b st1) : st1 = st := by
  unfold truA at h
  split at h
  · cases h; rfl
  · cases h; rfl
  · cases h; rfl
  · split at h <;> cases h; rfl
  · cases h; rfl
  · split at h <;> cases h; rfl
theorem tstAnd_cons {xa xb : Ex} {r : Es} {env : Env} {st : Stt} : tstAnd G env (.cons xa (.cons xb r)) st = (tst G env xa st).bind fun t st => if t = true then tstAnd G env (.cons xb r) st else .ok false st := by
  simp only [tstAnd, tst]
  rw [show evAnd G env (.cons xa (.cons xb r)) st = (evA G env xa st).bind fun x st => (truA x st).bind fun t st => if t = true then evAnd G env (.cons xb r) st else .ok x st from by simp only [evAnd]]
  cases evA G env xa st with
  | exc c fs st1 => rfl
  | bad => rfl
  | ok x st1 =>
    simp only [Rs.bind]
    cases q : truA x st1 with
    | exc c fs st1 => rfl
    | bad => rfl
    | ok t st2 =>
      obtain rfl := truA_same q
      cases t with
      | true => simp
      | false => simp [q]
theorem tstOr_cons {xa xb : Ex} {r : Es} {env : Env} {st : Stt} : tstOr G env (.cons xa (.cons xb r)) st = (tst G env xa st).bind fun t st => if t = true then .ok true st else tstOr G env (.cons xb r) st := by
  simp only [tstOr, tst]
  rw [show evOr G env (.cons xa (.cons xb r)) st = (evA G env xa st).bind fun x st => (truA x st).bind fun t st => if t = true then .ok x st else evOr G env (.cons xb r) st from by simp only [evOr]]
  cases evA G env xa st with
  | exc c fs st1 => rfl
  | bad => rfl
  | ok x st1 =>
    simp only [Rs.bind]
    cases q : truA x st1 with
    | exc c fs st1 => rfl
    | bad => rfl
    | ok t st2 =>
      obtain rfl := truA_same q
      cases t with
      | true => simp [q]
      | false => simp
theorem jw_and {rest : List Expr} {xa xb : Ex} {r : Es} (ha : JT X L (fun env st => tst G env xa st) a) (hb : JW X L (fun env st => tstAnd G env (.cons xb r) st) (.BoolOp .And (b :: rest) pos)) : JW X L (fun env st => tstAnd G env (.cons xa (.cons xb r)) st) (.BoolOp .And (a :: b :: rest) pos) := by
  intro W tk
  refine PW.imp (pw_and (ha W tk) (hb W tk)) ?_
  rintro σ H Q ⟨ρ, env, st, he, hs, h⟩
  have h : KR X.K X.mg rEq W σ Q H ρ (tstAnd G env (.cons xa (.cons xb r)) st) := h
  rw [tstAnd_cons] at h
  refine ⟨ρ, env, st, he, hs, KR.bind h ?_⟩
  intro x st1 v1 H1 ρ1 e1 s1 r1 h1
  cases r1
  cases x with
  | true =>
    rw [if_pos rfl] at h1 ⊢
    exact ⟨ρ1, env, st1, he.mono e1, s1, h1.ext anti_eq e1⟩
  | false =>
    rw [if_neg Bool.false_ne_true] at h1 ⊢
    exact h1 _ H1 ρ1 e1 s1 rfl
theorem jw_or {rest : List Expr} {xa xb : Ex} {r : Es} (ha : JT X L (fun env st => tst G env xa st) a) (hb : JW X L (fun env st => tstOr G env (.cons xb r) st) (.BoolOp .Or (b :: rest) pos)) : JW X L (fun env st => tstOr G env (.cons xa (.cons xb r)) st) (.BoolOp .Or (a :: b :: rest) pos) := by
  intro W tk
  refine PW.imp (pw_or (ha W tk) (hb W tk)) ?_
  rintro σ H Q ⟨ρ, env, st, he, hs, h⟩
  have h : KR X.K X.mg rEq W σ Q H ρ (tstOr G env (.cons xa (.cons xb r)) st) := h
  rw [tstOr_cons] at h
  refine ⟨ρ, env, st, he, hs, KR.bind h ?_⟩
  intro x st1 v1 H1 ρ1 e1 s1 r1 h1
  cases r1
  cases x with
  | false =>
    rw [if_neg Bool.false_ne_true] at h1 ⊢
    exact ⟨ρ1, env, st1, he.mono e1, s1, h1.ext anti_eq e1⟩
  | true =>
    rw [if_pos rfl] at h1 ⊢
    exact h1 _ H1 ρ1 e1 s1 rfl
theorem jt_and {es : List Expr} {r : Es} (h : JW X L (fun env st => tstAnd G env r st) (.BoolOp .And es pos)) : JT X L (fun env st => tst G env (.and r) st) (.BoolOp .And es pos) := fun W tk => by
  have := (h W tk).pt
  simpa only [tstAnd, tst, evA] using this
theorem jt_or {es : List Expr} {r : Es} (h : JW X L (fun env st => tstOr G env r st) (.BoolOp .Or es pos)) : JT X L (fun env st => tst G env (.or r) st) (.BoolOp .Or es pos) := fun W tk => by
  have := (h W tk).pt
  simpa only [tstOr, tst, evA] using this
theorem je_of {xa : Ex} (ha : JA X L (fun env st => evA G env xa st) a) : JE X L (fun env st => evE G env xa st) a := by
  intro W tk
  refine PE.imp (ha W tk) ?_
  rintro σ H Q ⟨ρ, env, st, he, hs, h⟩
  refine ⟨ρ, env, st, he, hs, KR.bind (m := evA G env xa st) (k := allocA) h ?_⟩
  intro x st1 v1 H1 ρ1 e1 s1 r1 h1
  cases r1 with
  | d r => exact h1 v1 H1 ρ1 e1 s1 r
  | l g1 g2 g3 g4 => exact h1 _ H1 _ (e1.name g2) (s1.name g1 (.lst g3 g4)) (RD.last s1)
theorem jl_nil : JL X L (fun env st => evEs G env .nil st) [] := by
  intro W tk
  refine PA.imp pa_nil ?_
  rintro σ H Q ⟨ρ, env, st, he, hs, h⟩
  exact h [] H ρ (Ext.refl _ _) hs .nil
theorem jl_cons {xa : Ex} {r : Es} (ha : JA X L (fun env st => evA G env xa st) a) (hr : JL X L (fun env st => evEs G env r st) es) (hs : starEach (a :: es) X.env = (false, eval a X.env) :: starEach es X.env) : JL X L (fun env st => evEs G env (.cons xa r) st) (a :: es) := by
  intro W tk
  refine PA.imp (pa_cons (je_of ha W tk) (hr W tk) hs) ?_
  rintro σ H Q ⟨ρ, env, st, he, hs, h⟩
  have e0 : evEs G env (.cons xa r) st = (evE G env xa st).bind fun y st => (evEs G env r st).bind fun ys st => .ok (y :: ys) st := by
    simp only [evEs, evE]
    cases evA G env xa st <;> rfl
  have h : KR X.K X.mg (rDs X.K X.mg) W σ Q H ρ (evEs G env (.cons xa r) st) := h
  rw [e0] at h
  refine ⟨ρ, env, st, he, hs, KR.bind h ?_⟩
  intro x st1 v1 H1 ρ1 e1 s1 r1 h1
  refine ⟨ρ1, env, st1, he.mono e1, s1, KR.bind (h1.ext anti_Ds e1) ?_⟩
  intro y st2 v2 H2 ρ2 e2 s2 r2 h2
  exact h2 _ H2 ρ2 e2 s2 (.cons (RD.mono e2 r1) r2)
theorem jls_nil : JLs X L (fun env st => evAs G env .nil st) [] := by
  intro W tk
  refine PA.imp pa_nil ?_
  rintro σ H Q ⟨ρ, env, st, he, hs, h⟩
  exact h [] H ρ (Ext.refl _ _) hs .nil
theorem jls_cons {xa : Ex} {r : Es} (ha : JA X L (fun env st => evA G env xa st) a) (hr : JLs X L (fun env st => evAs G env r st) es) (hs : starEach (a :: es) X.env = (false, eval a X.env) :: starEach es X.env) : JLs X L (fun env st => evAs G env (.cons xa r) st) (a :: es) := by
  intro W tk
  refine PA.imp (pa_cons (ha W tk) (hr W tk) hs) ?_
  rintro σ H Q ⟨ρ, env, st, he, hs, h⟩
  have h : KR X.K X.mg (RAs X.K X.mg) W σ Q H ρ (evAs G env (.cons xa r) st) := h
  simp only [evAs] at h
  refine ⟨ρ, env, st, he, hs, KR.bind h ?_⟩
  intro x st1 v1 H1 ρ1 e1 s1 r1 h1
  refine ⟨ρ1, env, st1, he.mono e1, s1, KR.bindAt e1 h1 ?_⟩
  intro y st2 v2 H2 ρ2 e2 s2 r2 h2
  exact h2 _ H2 ρ2 (e1.trans e2) s2 (.cons (r1.mono e2) (r2.anti e1))
theorem ja_tup {xs : Es} {n : Nat} (ha : JL X L (fun env st => evEs G env xs st) es) : JA X L (fun env st => evA G env (.tup xs) st) (.Tuple es n pos) := by
  intro W tk
  refine PE.imp (pe_tup (ha W tk)) ?_
  rintro σ H Q ⟨ρ, env, st, he, hs, h⟩
  simp only [evA] at h
  refine ⟨ρ, env, st, he, hs, KR.bind h ?_⟩
  intro x st1 v1 H1 ρ1 e1 s1 r1 h1
  split at h1
  · rename_i c
    exact ⟨by rw [← RDs.length r1]; exact line_of c, fun p hp => fin_tup (h1.ext anti_A e1) s1 r1 hp⟩
  · exact h1.elim
theorem ja_lst {xs : Es} (ha : JL X L (fun env st => evEs G env xs st) es) : JA X L (fun env st => evA G env (.lst xs) st) (.List es pos) := by
  intro W tk
  refine PE.imp (pe_lst (ha W tk)) ?_
  rintro σ H Q ⟨ρ, env, st, he, hs, h⟩
  simp only [evA] at h
  refine ⟨ρ, env, st, he, hs, KR.bind h ?_⟩
  intro x st1 v1 H1 ρ1 e1 s1 r1 h1
  split at h1
  · rename_i c
    exact ⟨by rw [← RDs.length r1]; exact line_of c, fun p hp => fin_lst (h1.ext anti_A e1) s1 r1 hp⟩
  · exact h1.elim
theorem ja_rev {xa : Ex} {j : Nat} {p1 p2 p3 : Pos} (ha : JA X L (fun env st => evA G env xa st) a) : JA X L (fun env st => evA G env (.rev xa) st) (.Subscript a (.Slice none none (some (.UnaryOp .USub (.Constant (.int 1) j p1) p2)) p3) pos) := by
  intro W tk
  refine PE.imp (pe_rev (ha W tk)) ?_
  rintro σ H Q ⟨ρ, env, st, he, hs, h⟩
  simp only [evA] at h
  refine ⟨ρ, env, st, he, hs, KR.bind h ?_⟩
  intro x st1 v1 H1 ρ1 e1 s1 r1 h1
  cases ht : tupOf x with
  | some xs =>
    rw [ht] at h1
    have a1 : x = .d (.tup xs) := by
      cases x with
      | d z => cases z <;> simp [tupOf] at ht; rw [ht]
      | l z => simp [tupOf] at ht
    subst a1
    obtain ⟨p, vs, rfl, h2, t2⟩ := r1.val.tup'
    exact ⟨p, vs, rfl, .inr ⟨h2, fun q hq => fin_tup (h1.ext anti_A e1) s1 t2.reverse hq⟩⟩
  | none =>
    rw [ht] at h1
    cases hl : lstOf st1 x with
    | none => simp only [hl] at h1; exact h1.elim
    | some xs =>
      simp only [hl] at h1
      obtain ⟨p, vs, rfl, h2, t2⟩ := r1.seqL s1 hl
      exact ⟨p, vs, rfl, .inl ⟨h2, fun q hq => fin_lst (h1.ext anti_A e1) s1 t2.reverse hq⟩⟩
theorem ja_dic1 {k : Int} {d : D} {u : V} {j : Nat} {p1 : Pos} {te : Expr} (hv : PE X te (tC u)) (hd : ∀ H ρ, RD X.K X.mg H ρ d u) : JA X L (fun env st => evA G env (.dic1 k d) st) (.Dict [some (.Constant (.int k) j p1)] [te] pos) := by
  intro W tk
  refine PE.imp (pe_disp (pps_cons pe_int hv pps_nil) rfl rfl (by simp) (by simp)) ?_
  rintro σ H Q ⟨ρ, env, st, he, hs, h⟩
  simp only [evA] at h
  intro p hp
  refine ⟨upd_same, [(Sum.inl k, u)], rfl, by simp, ?_⟩
  have eu : upd (upd H p (.dK [])) p (.dK (mergeK [] [(Sum.inl k, u)])) = upd H p (.dK [(Sum.inl k, u)]) := by
    funext z
    by_cases e : z = p
    · subst e; rw [upd_same, upd_same]; rfl
    · rw [upd_ne e, upd_ne e, upd_ne e]
  rw [eu]
  have e := Ext.fresh (ρ := ρ) (o := .dK [(Sum.inl k, u)]) hp
  exact h (.ref p) _ _ ((e.trans (Ext.refl _ _)).name hp) ((hs.grow hp).name (hs.fresh hp) (.dic upd_same (.cons (hd _ _) .nil))) (.d (RD.last (hs.grow hp)))
theorem ja_dict0 : JA X L (fun env st => evA G env .dict0 st) (.Dict [] [] pos) := by
  intro W tk
  refine PE.imp (pe_dnewK) ?_
  rintro σ H Q ⟨ρ, env, st, he, hs, h⟩
  intro p hp
  have e := Ext.fresh (ρ := ρ) (o := .dK []) hp
  exact h (.ref p) _ _ ((e.trans (Ext.refl _ _)).name hp) ((hs.grow hp).name (hs.fresh hp) (.dic upd_same .nil)) (.d (RD.last (hs.grow hp)))
/-- {k: v} -/
theorem ja_dicE {xk xv : Ex} (ha : JA X L (fun env st => evA G env xk st) a) (hb : JA X L (fun env st => evA G env xv st) b) : JA X L (fun env st => evA G env (.dicE xk xv) st) (.Dict [some a] [b] pos) := by
  intro W tk
  refine PE.imp (pe_disp (pps_cons (ha W tk) (je_of hb W tk) pps_nil) rfl rfl (by simp) (by simp)) ?_
  rintro σ H Q ⟨ρ, env, st, he, hs, h⟩
  simp only [evA] at h
  intro p hp
  have e0 := Ext.fresh (ρ := ρ) (o := .dK []) hp
  have np := hs.fresh hp
  refine ⟨ρ, env, st, he.mono e0, hs.grow hp, KR.bindAt e0 h ?_⟩
  intro x st1 v1 H1 ρ1 e1 s1 r1 h1a
  have ea : ((evA G env xv st1).bind fun y st => (allocA y st).bind fun z st => match x with
    | .d (.int i) => (.ok (.d (.loc st.length)) (st ++ [.dic [(Sum.inl i, z)]]) : Rs A)
    | _ => .bad) = (evE G env xv st1).bind fun z st => match x with
    | .d (.int i) => .ok (.d (.loc st.length)) (st ++ [.dic [(Sum.inl i, z)]])
    | _ => .bad := by
    unfold evE
    cases evA G env xv st1 <;> rfl
  have h1 : KR X.K X.mg (RA X.K X.mg) W σ Q H ρ ((evA G env xv st1).bind fun y st => (allocA y st).bind fun z st => match x with
    | .d (.int i) => (.ok (.d (.loc st.length)) (st ++ [.dic [(Sum.inl i, z)]]) : Rs A)
    | _ => .bad) := h1a
  clear h1a
  rw [ea] at h1
  refine ⟨ρ1, env, st1, (he.mono e0).mono e1, s1, KR.bindAt (e0.trans e1) h1 ?_⟩
  intro z st2 v2 H2 ρ2 e2 s2 r2 h2
  have d1 : H1 p = some (.dK []) := e1.out p _ upd_same np (fun ps q => by cases q)
  have np1 : p ∉ ρ1 := fun m => by
    rcases e1.new p m with q | q
    · exact np q
    · rw [upd_same] at q; cases q
  have d2 : H2 p = some (.dK []) := e2.out p _ d1 np1 (fun ps q => by cases q)
  have np2 : p ∉ ρ2 := fun m => by
    rcases e2.new p m with q | q
    · exact np1 q
    · rw [d1] at q; cases q
  split at h2
  · rename_i i
    obtain rfl := r1.int
    refine ⟨d2, [(Sum.inl i, v2)], rfl, by simp, ?_⟩
    have em : mergeK [] [((Sum.inl i : Key), v2)] = [(Sum.inl i, v2)] := rfl
    rw [em]
    have E := (e0.trans e1).trans e2
    have s3 : RS X.K X.mg H2 (ρ2 ++ [p]) (st2 ++ [.dic []]) := s2.name np2 (.dic d2 .nil)
    have mp : p ∈ ρ2 ++ [p] := by simp
    have hl : (ρ2 ++ [p])[st2.length]? = some p := by rw [← s2.len]; simp
    have w := Ext.write (u := .dK [((Sum.inl i : Key), v2)]) s3 mp
    have s4 := s3.write (u := .dK [((Sum.inl i : Key), v2)]) (o := .dic [(Sum.inl i, z)]) hl (.dic upd_same (.cons ((r2.name).mono w) .nil))
    have es : (st2 ++ [Ob.dic []]).set st2.length (.dic [(Sum.inl i, z)]) = st2 ++ [.dic [(Sum.inl i, z)]] := by simp
    rw [es] at s4
    have F : Ext ρ H (ρ2 ++ [p]) (upd H2 p (.dK [((Sum.inl i : Key), v2)])) := by
      have ne : ∀ a o, H a = some o → a ≠ p := fun a o q z => by rw [z, hp] at q; cases q
      refine ⟨?_, fun a m => ?_, fun a o q n t => ?_, fun a o q im => ?_, fun a q => ?_, fun a ps q => ?_⟩
      · obtain ⟨r, hr⟩ := E.pre
        exact ⟨r ++ [p], by rw [hr, List.append_assoc]⟩
      · rcases List.mem_append.mp m with m | m
        · exact E.new a m
        · rw [List.mem_singleton.mp m]; exact .inr hp
      · rw [upd_ne (ne a o q)]; exact E.out a o q n t
      · rw [upd_ne (ne a o q)]; exact E.imm a o q im
      · by_cases z : a = p
        · rw [z]; exact hp
        · rw [upd_ne z] at q; exact E.kept a q
      · rw [upd_ne (ne a _ q)]; exact E.tb a ps q
    exact h2 (.ref p) _ _ F s4 (.d (.loc hl))
  · exact h2.elim
theorem ja_call {f : Str} {xs : Es} {p : Pos} (gx : GX X k G) (hna : askB f = false) (gd : Gd X k) (hg : Gl X f) (hdb : (f == ("__debug__" : Str)) = false) (ha : JL X L (fun env st => evEs G env xs st) (e :: es))
    (hs : starEach (e :: es) X.env = (false, eval e X.env) :: starEach es X.env) (hpl : (backTo pos (starEach es X.env)).any (·.1) = false) : JA X L (fun env st => evA G env (.call f xs) st) (.Call (.Name f p) (e :: es) [] pos) := by
  intro W tk
  cases q : G.fn f with
  | none =>
    refine ⟨fun pins s σ H Q I h => ?_⟩
    obtain ⟨ρ, env, st, he, hs, h⟩ := h
    simp only [evA, q] at h
    exact h.elim
  | some F =>
    obtain ⟨a, fd, ps, h1, h2, h3, h4, h5⟩ := gx.fn f F hna q
    refine PE.imp (pe_callG tk h4 gd.room hg h1 h2 h3 (ha W tk) hdb hs hpl) ?_
    rintro σ H Q ⟨ρ, env, st, he, hs, h⟩
    simp only [evA, q] at h
    refine ⟨ρ, env, st, he, hs, KR.bind h ?_⟩
    intro x st1 v1 H1 ρ1 e1 s1 r1 h
    refine ⟨?_, ρ1, x, st1, r1, s1, ?_⟩
    · rw [← RDs.length r1]
      refine h5 x st1 ⟨_, rfl, fun z => ?_⟩
      rw [z] at h
      exact h.elim
    · cases qf : F x st1 with
      | bad => rw [qf] at h; exact h.elim
      | exc c fs st2 =>
        rw [qf] at h
        exact fun cls d H' ρ' f s r => h cls d H' ρ' (e1.trans f) s r
      | ok z st2 =>
        rw [qf] at h
        exact fun b H' ρ' f s r => h b H' ρ' (e1.trans f) s (.d r)
end
end Ev
namespace Ev
open PySem PySem.Spec PyProof.Rows L2
variable {L : LT}
section
variable {X : Cx} {k : Nat} {G : Gam} {a b c e : Expr} {es : List Expr} {pos : Pos} {ρ : List Addr} {H H0 H1 : Hp} {σ : L2.St} {W : WX} {st st' : Stt} {env : Env} {x y z : A} {v u : V} {Q : V → Hp → Prop} {K : PySem.W.Frag} {mg : Str → Option Value}
theorem boolsOf_ok : ∀ {xs : List D} {bs : List Bool} {vs : List V}, boolsOf xs = some bs → RDs K mg H ρ xs vs → vs = bs.map V.bl
  | [], _, _, h, r => by cases h; cases r; rfl
  | .bl b :: xs, _, _, h, r => by
    simp only [boolsOf, Option.map_eq_some_iff] at h
    obtain ⟨cs, h, rfl⟩ := h
    cases r with
    | cons r1 r2 =>
      cases r1
      rw [boolsOf_ok h r2]; rfl
  | .non :: _, _, _, h, _ => by simp [boolsOf] at h
  | .int _ :: _, _, _, h, _ => by simp [boolsOf] at h
  | .str _ :: _, _, _, h, _ => by simp [boolsOf] at h
  | .ty _ :: _, _, _, h, _ => by simp [boolsOf] at h
  | .tup _ :: _, _, _, h, _ => by simp [boolsOf] at h
  | .rol _ :: _, _, _, h, _ => by simp [boolsOf] at h
  | .loc _ :: _, _, _, h, _ => by simp [boolsOf] at h
  | .obj _ :: _, _, _, h, _ => by simp [boolsOf] at h
  | .exn _ _ :: _, _, _, h, _ => by simp [boolsOf] at h
  | .clo _ _ :: _, _, _, h, _ => by simp [boolsOf] at h
/-- what a built-in's name stands for -/
noncomputable def btab : List (Str × Value) := [("len", .builtin "len"), ("all", .builtin "all"), ("any", .builtin "any"), ("sum", .builtin "sum"), ("abs", .builtin "abs"), ("max", .builtin "max"), ("min", .builtin "min"),
  ("int", .type "int"), ("str", .type "str"), ("list", .type "list"), ("tuple", .type "tuple"), ("sorted", .builtin "sorted"), ("repr", .builtin "repr")]
noncomputable def isBT : Value → Bool
  | .builtin _ => true
  | .type _ => true
  | _ => false
theorem btab_ok : (btab.all fun p => decide (bootBuiltins p.1 = some p.2) && decide (p.1 ≠ "__name__") && decide ((p.1 == ("__debug__" : Str)) = false) && isBT p.2) = true := by decide +kernel
noncomputable def bval (f : Str) : Option Value := btab.lookup f
theorem bval_mem {f : Str} {u : Value} (h : bval f = some u) : (f, u) ∈ btab := PySem.mem_of_lookup h
theorem bval_boot {f : Str} {u : Value} (h : bval f = some u) : bootBuiltins f = some u ∧ f ≠ "__name__" ∧ (f == ("__debug__" : Str)) = false ∧ isBT u = true := by
  have q := List.all_eq_true.mp btab_ok _ (bval_mem h)
  simp only [Bool.and_eq_true, decide_eq_true_eq] at q
  exact ⟨q.1.1.1, q.1.1.2, q.1.2, q.2⟩
theorem bval_all {f : Str} {u : Value} (h : bval f = some u) : f ∈ allB := by
  have q : (btab.all fun p => decide (p.1 ∈ allB)) = true := by decide +kernel
  simpa using List.all_eq_true.mp q _ (bval_mem h)
theorem rds_int {ns : List Int} : RDs K mg H ρ (ns.map D.int) (ns.map V.int) := by
  induction ns with
  | nil => exact .nil
  | cons i r ih => exact .cons (.int i) ih
theorem maxI_none : ∀ {is : List Int}, maxI is = none → is = []
  | [], _ => rfl
  | i :: r, h => by
    simp only [maxI] at h
    split at h <;> cases h
theorem maxI_some : ∀ {is : List Int} {m : Int}, maxI is = some m → m ∈ is ∧ ∀ y ∈ is, y ≤ m
  | [], _, h => by cases h
  | i :: r, m, h => by
    simp only [maxI] at h
    split at h
    · rename_i e
      cases h
      rw [maxI_none e]
      simp
    · rename_i x e
      obtain ⟨h1, h2⟩ := maxI_some e
      cases h
      split
      · exact ⟨by simp, fun y hy => (List.mem_cons.mp hy).elim (fun e => by omega) (fun q => by have := h2 y q; omega)⟩
      · exact ⟨by simp [h1], fun y hy => (List.mem_cons.mp hy).elim (fun e => by omega) (fun q => h2 y q)⟩
theorem minI_none : ∀ {is : List Int}, minI is = none → is = []
  | [], _ => rfl
  | i :: r, h => by
    simp only [minI] at h
    split at h <;> cases h
theorem minI_some : ∀ {is : List Int} {m : Int}, minI is = some m → m ∈ is ∧ ∀ y ∈ is, m ≤ y
  | [], _, h => by cases h
  | i :: r, m, h => by
    simp only [minI] at h
    split at h
    · rename_i e
      cases h
      rw [minI_none e]
      simp
    · rename_i x e
      obtain ⟨h1, h2⟩ := minI_some e
      cases h
      split
      · exact ⟨by simp, fun y hy => (List.mem_cons.mp hy).elim (fun e => by omega) (fun q => by have := h2 y q; omega)⟩
      · exact ⟨by simp [h1], fun y hy => (List.mem_cons.mp hy).elim (fun e => by omega) (fun q => h2 y q)⟩
theorem bi1b_ok {f : Str} {cu : Value} (hf : bval f = some cu) (hc : X.calm = true) (sm : SmB X.base) (gu : X.A.guards = some []) (hu : X.A.units + 64 < cLine) (s : RS X.K X.mg H ρ st) (r : RA X.K X.mg H0 H ρ x v) (h : bi1b f x st = some z) (q : KR X.K X.mg (RA X.K X.mg) W σ Q H ρ (.ok z st)) : anyCall X cu [v] H Q := by
  unfold bi1b at h
  split at h
  · rename_i e
    subst e
    have : cu = .builtin "repr" := by
      have e2 : bval "repr" = some (.builtin "repr") := by decide +kernel
      rw [e2] at hf; exact (Option.some.inj hf).symm
    subst this
    split at h
    · rename_i d
      obtain ⟨p, e1, h⟩ := Option.bind_eq_some_iff.mp h
      obtain ⟨fuel, e1⟩ : ∃ n, toPyR st n d = some p := by
        unfold toPyRX at e1
        split at e1
        · rename_i e
          cases e1
          exact ⟨_, e⟩
        · split at e1
          · rename_i q
            cases e1
            exact Classical.choose_spec q
          · cases e1
      split at h
      · rename_i c
        cases h
        cases r with
        | d r => exact ⟨_, call_reprD sm gu hu, v, p, ρ, st, _, d, rfl, s, r, e1, c.1, c.2.1, line_of (decide_eq_true c.2.2), fin_d q s (.str _)⟩
      · cases h
    · cases h
  split at h
  · rename_i e
    subst e
    have : cu = .builtin "max" := by
      have e2 : bval "max" = some (.builtin "max") := by decide +kernel
      rw [e2] at hf; exact (Option.some.inj hf).symm
    subst this
    obtain ⟨xs, e1, h⟩ := Option.bind_eq_some_iff.mp h
    obtain ⟨is, e2, h⟩ := Option.bind_eq_some_iff.mp h
    simp only [Option.map_eq_some_iff] at h
    obtain ⟨m, e3, rfl⟩ := h
    obtain ⟨p, vs, rfl, hq, t⟩ := r.seqL s e1
    obtain rfl := intsOf_ok e2 t
    obtain ⟨m1, m2⟩ := maxI_some e3
    refine ⟨_, cr_max hc, p, is, rfl, hq, List.length_pos_of_mem m1, fun m' h1 h2 => ?_⟩
    have : m' = m := Int.le_antisymm (m2 m' h1) (h2 m m1)
    rw [this]
    exact fin_d q s (.int _)
  split at h
  · rename_i e
    subst e
    have : cu = .builtin "min" := by
      have e2 : bval "min" = some (.builtin "min") := by decide +kernel
      rw [e2] at hf; exact (Option.some.inj hf).symm
    subst this
    obtain ⟨xs, e1, h⟩ := Option.bind_eq_some_iff.mp h
    split at h
    · rename_i is e2
      simp only [Option.map_eq_some_iff] at h
      obtain ⟨m, e3, rfl⟩ := h
      obtain ⟨p, vs, rfl, hq, t⟩ := r.seqL s e1
      obtain rfl := intsOf_ok e2 t
      obtain ⟨m1, m2⟩ := minI_some e3
      refine ⟨_, cr_min hc, p, is, rfl, hq, List.length_pos_of_mem m1, fun m' h1 h2 => ?_⟩
      have : m' = m := Int.le_antisymm (h2 m m1) (m2 m' h1)
      rw [this]
      exact fin_d q s (.int _)
    · obtain ⟨tl, e2, h⟩ := Option.bind_eq_some_iff.mp h
      simp only [Option.map_eq_some_iff] at h
      obtain ⟨m, e3, rfl⟩ := h
      obtain ⟨p, vs, rfl, hq, t⟩ := r.seqL s e1
      cases tl with
      | nil => cases e3
      | cons x tl =>
        cases e3
        refine ⟨_, cr_minT hc hu, p, vs, x, tl, rfl, hq, tupsI_dp e2 t, fun i w hw hx => ?_⟩
        have hx2 : xs[i]? = some (.tup ((minR x tl).map .int)) := by
          rw [tupsI_at e2, List.getElem?_map, hx]; rfl
        obtain ⟨w', hw', rd⟩ := t.get hx2
        rw [hw] at hw'
        cases hw'
        exact fin_d q s rd
  · cases h
theorem bi1_ok {f : Str} {cu : Value} (hf : bval f = some cu) (hc : X.calm = true) (sm : SmB X.base) (gu : X.A.guards = some []) (hu : X.A.units + 64 < cLine) (s : RS X.K X.mg H ρ st) (r : RA X.K X.mg H0 H ρ x v) (h : bi1 f x st = some z) (q : KR X.K X.mg (RA X.K X.mg) W σ Q H ρ (.ok z st)) : anyCall X cu [v] H Q := by
  unfold bi1 at h
  split at h
  · rename_i e
    subst e
    have : cu = .builtin "len" := by
      have e2 : bval "len" = some (.builtin "len") := by decide +kernel
      rw [e2] at hf; exact (Option.some.inj hf).symm
    subst this
    split at h
    · rename_i y
      split at h
      · rename_i c
        cases h
        obtain rfl := r.str
        exact ⟨_, call_len_str, y, rfl, line_of c, fin_d q s (.int _)⟩
      · cases h
    · simp only [Option.map_eq_some_iff] at h
      obtain ⟨xs, e, rfl⟩ := h
      obtain ⟨p, vs, rfl, hq, t⟩ := r.seq s e
      exact ⟨_, call_len_seq, p, vs, rfl, hq, by rw [← t.length]; exact fin_d q s (.int _)⟩
  split at h
  · rename_i e
    subst e
    have : cu = .builtin "all" := by
      have e2 : bval "all" = some (.builtin "all") := by decide +kernel
      rw [e2] at hf; exact (Option.some.inj hf).symm
    subst this
    obtain ⟨xs, e1, h⟩ := Option.bind_eq_some_iff.mp h
    simp only [Option.map_eq_some_iff] at h
    obtain ⟨bs, e2, rfl⟩ := h
    obtain ⟨p, vs, rfl, hq, t⟩ := r.seqL s e1
    obtain rfl := boolsOf_ok e2 t
    exact ⟨_, cr_all hc, p, bs, rfl, hq, fin_d q s (.bl _)⟩
  split at h
  · rename_i e
    subst e
    have : cu = .builtin "any" := by
      have e2 : bval "any" = some (.builtin "any") := by decide +kernel
      rw [e2] at hf; exact (Option.some.inj hf).symm
    subst this
    obtain ⟨xs, e1, h⟩ := Option.bind_eq_some_iff.mp h
    simp only [Option.map_eq_some_iff] at h
    obtain ⟨bs, e2, rfl⟩ := h
    obtain ⟨p, vs, rfl, hq, t⟩ := r.seqL s e1
    obtain rfl := boolsOf_ok e2 t
    exact ⟨_, cr_any hc, p, bs, rfl, hq, fin_d q s (.bl _)⟩
  split at h
  · rename_i e
    subst e
    have : cu = .builtin "sum" := by
      have e2 : bval "sum" = some (.builtin "sum") := by decide +kernel
      rw [e2] at hf; exact (Option.some.inj hf).symm
    subst this
    obtain ⟨xs, e1, h⟩ := Option.bind_eq_some_iff.mp h
    simp only [Option.map_eq_some_iff] at h
    obtain ⟨bs, e2, rfl⟩ := h
    obtain ⟨p, vs, rfl, hq, t⟩ := r.seqL s e1
    obtain rfl := intsOf_ok e2 t
    exact ⟨_, cr_sum hc, p, bs, rfl, hq, fin_d q s (.int _)⟩
  split at h
  · rename_i e
    subst e
    have : cu = .builtin "abs" := by
      have e2 : bval "abs" = some (.builtin "abs") := by decide +kernel
      rw [e2] at hf; exact (Option.some.inj hf).symm
    subst this
    split at h
    · cases h
      obtain rfl := r.int
      exact ⟨_, call_abs, _, rfl, fin_d q s (.int _)⟩
    · cases h
  split at h
  · rename_i e
    subst e
    have : cu = .type "int" := by
      have e2 : bval "int" = some (.type "int") := by decide +kernel
      rw [e2] at hf; exact (Option.some.inj hf).symm
    subst this
    split at h
    · cases h
      obtain rfl := r.int
      exact ⟨_, call_int1, .inl ⟨_, rfl, fin_d q s (.int _)⟩⟩
    · cases h
      obtain rfl := r.bl
      exact ⟨_, call_int1, .inr ⟨_, rfl, fin_d q s (.int _)⟩⟩
    · cases h
  split at h
  · rename_i e
    subst e
    have : cu = .type "str" := by
      have e2 : bval "str" = some (.type "str") := by decide +kernel
      rw [e2] at hf; exact (Option.some.inj hf).symm
    subst this
    split at h
    · split at h
      · rename_i c
        cases h
        obtain rfl := r.int
        exact ⟨_, call_str_int, _, rfl, c, fin_d q s (.str _)⟩
      · cases h
    · cases h
  split at h
  · rename_i e
    subst e
    have : cu = .type "list" := by
      have e2 : bval "list" = some (.type "list") := by decide +kernel
      rw [e2] at hf; exact (Option.some.inj hf).symm
    subst this
    simp only [Option.map_eq_some_iff] at h
    obtain ⟨xs, e, rfl⟩ := h
    obtain ⟨p, vs, rfl, hq, t⟩ := r.seq s e
    exact ⟨_, call_list_of, p, vs, rfl, hq, fun l hl => fin_lst q s t hl⟩
  split at h
  · rename_i e
    subst e
    have : cu = .type "tuple" := by
      have e2 : bval "tuple" = some (.type "tuple") := by decide +kernel
      rw [e2] at hf; exact (Option.some.inj hf).symm
    subst this
    simp only [Option.map_eq_some_iff] at h
    obtain ⟨xs, e, rfl⟩ := h
    obtain ⟨p, vs, rfl, hq, t⟩ := r.seq s e
    rcases hq with hq | hq
    · exact ⟨_, call_tuple_of, p, vs, rfl, .inl ⟨hq, fun l hl => fin_tup q s t hl⟩⟩
    · exact ⟨_, call_tuple_of, p, vs, rfl, .inr ⟨hq, fin_d q s (.tup hq t)⟩⟩
  split at h
  · rename_i e
    subst e
    have : cu = .builtin "sorted" := by
      have e2 : bval "sorted" = some (.builtin "sorted") := by decide +kernel
      rw [e2] at hf; exact (Option.some.inj hf).symm
    subst this
    have srt : ∀ {ns' is : List Int}, ns'.Perm is → ns'.Pairwise (· ≤ ·) → ns' = is.mergeSort (fun a b => decide (a ≤ b)) := fun {ns' is} hp hs => by
      refine List.Perm.eq_of_pairwise (le := fun a b => a ≤ b) (fun a b _ _ h1 h2 => Int.le_antisymm h1 h2) hs ?_ (hp.trans (List.mergeSort_perm _ _).symm)
      have := List.pairwise_mergeSort (le := fun (a b : Int) => decide (a ≤ b)) (fun a b c h1 h2 => by simp at *; omega) (fun a b => by simp; omega) is
      exact this.imp (fun h => by simpa using h)
    unfold sortA at h
    split at h
    · rename_i xs e1
      simp only [Option.map_eq_some_iff] at h
      obtain ⟨is, e2, rfl⟩ := h
      obtain ⟨p, vs, rfl, hq, t⟩ := r.seqL s e1
      obtain rfl := intsOf_ok e2 t
      refine ⟨_, cr_sortedI, p, is, rfl, hq, fun ns' q' hp hs hn => ?_⟩
      rw [srt hp hs]
      exact fin_lst q s rds_int hn
    · split at h
      · rename_i l _ _
        obtain ⟨kvs, e1, h⟩ := Option.bind_eq_some_iff.mp h
        obtain ⟨is, e2, h⟩ := Option.bind_eq_some_iff.mp h
        split at h
        · rename_i h64
          cases h
          cases r with
          | d r =>
            cases r with
            | loc q1 =>
              obtain ⟨vs, g1, g2⟩ := s.dic q1 e1
              refine ⟨_, call_sortedDI hc, _, vs, is, rfl, .inl g1, g2.keysI e2, h64, fun ns' q' hp hs hn => ?_⟩
              rw [srt hp hs]
              exact fin_lst q s rds_int hn
        · cases h
      · rename_i xs _ _
        simp only [Option.map_eq_some_iff] at h
        obtain ⟨is, e2, rfl⟩ := h
        cases r with
        | d r =>
          cases r with
          | tup hq t =>
            obtain rfl := intsOf_ok e2 t
            refine ⟨_, cr_sortedIT, _, is, rfl, hq, fun ns' q' hp hs hn => ?_⟩
            rw [srt hp hs]
            exact fin_lst q s rds_int hn
      · cases h
  · exact bi1b_ok hf hc sm gu hu s r h q
theorem bi2_ok {f : Str} {cu : Value} (hf : bval f = some cu) (hc : X.calm = true) (s : RS X.K X.mg H ρ st) (r : RA X.K X.mg H0 H ρ x v) (r2 : RA X.K X.mg H1 H ρ y u) (h : bi2 f x y st = some z) (q : KR X.K X.mg (RA X.K X.mg) W σ Q H ρ (.ok z st)) : anyCall X cu [v, u] H Q := by
  unfold bi2 at h
  split at h
  · rename_i e
    subst e
    have : cu = .builtin "max" := by
      have e2 : bval "max" = some (.builtin "max") := by decide +kernel
      rw [e2] at hf; exact (Option.some.inj hf).symm
    subst this
    split at h
    · cases h
      obtain rfl := r.int
      obtain rfl := r2.int
      exact ⟨_, call_max2 hc, _, _, rfl, fin_d q s (.int _)⟩
    · cases h
  split at h
  · rename_i e
    subst e
    have : cu = .builtin "min" := by
      have e2 : bval "min" = some (.builtin "min") := by decide +kernel
      rw [e2] at hf; exact (Option.some.inj hf).symm
    subst this
    split at h
    · cases h
      obtain rfl := r.int
      obtain rfl := r2.int
      exact ⟨_, call_min2 hc, _, _, rfl, fin_d q s (.int _)⟩
    · cases h
  · cases h
theorem ja_bi {f : Str} {xs : Es} {p : Pos} {cu : Value} (gx : GX X k G) (gd : Gd X k) (hg : Gl X f) (hf : bval f = some cu) (ha : JLs X L (fun env st => evAs G env xs st) (e :: es))
    (hs : starEach (e :: es) X.env = (false, eval e X.env) :: starEach es X.env) (hpl : (backTo pos (starEach es X.env)).any (·.1) = false) : JA X L (fun env st => evA G env (.bi f xs) st) (.Call (.Name f p) (e :: es) [] pos) := by
  intro W tk
  obtain ⟨b1, b2, b3, b4⟩ := bval_boot hf
  have hm := gx.bt f (bval_all hf)
  have main : PE X (.Call (.Name f p) (e :: es) [] pos) (tCB (anyCall X cu) (tR X.K X.mg L (RAs X.K X.mg) (fun env st => evAs G env xs st) W)) := by
    have sh : (∃ id, cu = .builtin id) ∨ ∃ T, cu = .type T := by
      cases cu with
      | builtin id => exact .inl ⟨_, rfl⟩
      | type T => exact .inr ⟨_, rfl⟩
      | _ => cases b4
    rcases sh with ⟨id, rfl⟩ | ⟨T, rfl⟩
    · exact pe_callB call_any hg hm b1 (ha W tk) b2 b3 hs hpl
    · exact pe_callTy call_any hg hm b1 (ha W tk) b2 b3 hs hpl
  refine PE.imp main ?_
  rintro σ H Q ⟨ρ, env, st, he, hs, h⟩
  simp only [evA] at h
  refine ⟨ρ, env, st, he, hs, KR.bind h ?_⟩
  intro as st1 vs H1 ρ1 e1 s1 r1 h1
  unfold biA at h1
  split at h1
  · rename_i a
    obtain ⟨z, ez, h2⟩ := KR.ofO h1
    cases r1 with
    | cons ra rn =>
      cases rn
      exact bi1_ok hf gd.calm gx.sm gd.room.gu gd.hu s1 ra ez (h2.ext anti_A e1)
  · rename_i a b
    obtain ⟨z, ez, h2⟩ := KR.ofO h1
    cases r1 with
    | cons ra rn =>
      cases rn with
      | cons rb rn =>
        cases rn
        exact bi2_ok hf gd.calm s1 ra rb ez (h2.ext anti_A e1)
  · exact h1.elim
theorem ty_tab : (tyNames.all fun n => decide (bootBuiltins (Str.ofString n) = some (.type n)) && decide (Str.ofString n ∈ allB) && decide (Str.ofString n ≠ "__name__") && decide ((Str.ofString n == ("__debug__" : Str)) = false)) = true := by decide +kernel
theorem tyName_ok {x : Str} {n : String} (h : tyName x = some n) : bootBuiltins x = some (.type n) ∧ x ∈ allB ∧ x ≠ "__name__" ∧ (x == ("__debug__" : Str)) = false := by
  unfold tyName at h
  have h1 := List.find?_some h
  have h2 := List.mem_of_find?_eq_some h
  have q := List.all_eq_true.mp ty_tab _ h2
  simp only [Bool.and_eq_true, decide_eq_true_eq] at q h1
  subst h1
  exact ⟨q.1.1.1, q.1.1.2, q.1.2, q.2⟩
theorem ja_isi1 {xa : Ex} {T : Str} {n : String} {p p2 : Pos} (gx : GX X k G) (gd : Gd X k) (hg : Gl X "isinstance") (hgT : Gl X T) (hT : tyName T = some n) (ha : JA X L (fun env st => evA G env xa st) a)
    (hs : starEach (a :: [.Name T p2]) X.env = (false, eval a X.env) :: starEach [.Name T p2] X.env) : JA X L (fun env st => evA G env (.isi xa [T]) st) (.Call (.Name "isinstance" p) [a, .Name T p2] [] pos) := by
  intro W tk
  obtain ⟨b1, b2, b3, b4⟩ := tyName_ok hT
  have hm := gx.bt "isinstance" (by decide +kernel)
  refine PE.imp (pe_callB call_isi hg hm PyProof.Rows.boot_isinstance (pa_cons (ha W tk) (pa_cons (pe_bltn (v := .ty n) hgT (gx.bt T b2) b1 rfl b3 b4) pa_nil) hs) (by decide +kernel) (by decide +kernel) hs) ?_
  rintro σ H Q ⟨ρ, env, st, he, hs, h⟩
  simp only [evA] at h
  refine ⟨ρ, env, st, he, hs, KR.bind h ?_⟩
  intro x st1 v1 H1 ρ1 e1 s1 r1 h1
  obtain ⟨z, ez, h2⟩ := KR.ofO h1
  simp only [Option.map_eq_some_iff, isiA, isiOne, hT] at ez
  obtain ⟨b, ez, rfl⟩ := ez
  split at ez
  · rename_i t e1'
    exact ⟨v1, .ty n, _, _, b, rfl, .ty n, tyA_ok s1 r1 e1', kit_ty ez, fin_d (h2.ext anti_A e1) s1 (.bl _)⟩
  · cases ez
noncomputable def anyMt (X : Cx) (id : String) : V → List V → Hp → VK → Prop := fun x xs H Q => ∃ r, MtR X id r ∧ r x xs H Q
theorem mt_any {X : Cx} {id : String} : MtR X id (anyMt X id) := fun pins s σ H x xs v us Q I r1 r2 ⟨_, h, q⟩ => h pins s σ H x xs v us Q I r1 r2 q
theorem MtM.r {X : Cx} {id : String} {r : V → List V → Hp → VK → Prop} (h : MtM X id r) : MtR X id r := h
structure MI (m : Str) (T id : String) : Prop where
  pa : PlainAttrs T
  slot : Slot T m id
  hty : typeOf (.builtin id) = pure (.type "method_descriptor")
theorem mi_of {m : Str} {T id : String} (h : mtab.lookup m = some (T, id)) : MI m T id := by
  have := PySem.mem_of_lookup h
  simp only [mtab, List.mem_cons, List.not_mem_nil, or_false, Prod.mk.injEq] at this
  rcases this with ⟨rfl, rfl, rfl⟩ | ⟨rfl, rfl, rfl⟩ | ⟨rfl, rfl, rfl⟩ | ⟨rfl, rfl, rfl⟩ | ⟨rfl, rfl, rfl⟩ | ⟨rfl, rfl, rfl⟩
  · exact ⟨PySem.F.plainAttrs_list, PySem.F.slot_list_append, PySem.F.type_list_append⟩
  · exact ⟨PySem.F.plainAttrs_list, PySem.F.slot_list_pop, PySem.F.type_list_pop⟩
  · exact ⟨PySem.F.plainAttrs_list, PySem.F.slot_list_extend, PySem.F.type_list_extend⟩
  · exact ⟨PySem.F.plainAttrs_list, PySem.F.slot_list_insert, PySem.F.type_list_insert⟩
  · exact ⟨PySem.F.plainAttrs_list, PySem.F.slot_list_count, PySem.F.type_list_count⟩
  · exact ⟨PySem.F.plainAttrs_list, PySem.F.slot_list_index, PySem.F.type_list_index⟩
theorem rcv_ok {m : Str} {T id : String} (hm : mtab.lookup m = some (T, id)) (s : RS K mg H ρ st) (r : RA K mg H0 H ρ x v) (h : rcv m x st = true) : tyV K T v H := by
  unfold rcv at h
  rw [hm] at h
  simp only at h
  split at h
  · rename_i e
    subst e
    obtain ⟨xs, e⟩ := Option.isSome_iff_exists.mp h
    obtain ⟨p, vs, rfl, hq, _⟩ := r.seqL s e
    exact .inl ⟨rfl, vs, hq⟩
  · cases h
theorem RA.loc {l : Nat} (r : RA K mg H0 H ρ (.d (.loc l)) v) : ∃ p, v = .ref p ∧ ρ[l]? = some p := by
  cases r.val with
  | loc h => exact ⟨_, rfl, h⟩
theorem RDs.dropLast {xs : List D} {vs : List V} (h : RDs K mg H ρ xs vs) : RDs K mg H ρ xs.dropLast vs.dropLast := by
  rw [List.dropLast_eq_take, List.dropLast_eq_take, h.length]
  exact h.take _
theorem mtA_ok {m : Str} {T id : String} {ys : List A} {vs : List V} {Hb : Hp} {ρb : List Addr} (hm : mtab.lookup m = some (T, id)) (eb : Ext ρb Hb ρ H) (s : RS X.K X.mg H ρ st) (r1 : RA X.K X.mg H0 H ρ x v) (r2 : RAs X.K X.mg Hb H ρ ys vs)
    (h : KR X.K X.mg (RA X.K X.mg) W σ Q Hb ρb (mtA m x ys st)) : anyMt X id v vs H Q := by
  unfold mtA at h
  split at h
  · rename_i e
    subst e
    obtain ⟨rfl, rfl⟩ : T = "list" ∧ id = "list.append" := by
      have e2 : mtab.lookup ("append" : Str) = some ("list", "list.append") := by decide +kernel
      rw [e2] at hm; cases hm; exact ⟨rfl, rfl⟩
    split at h
    · rename_i l a
      obtain ⟨p, rfl, hl⟩ := r1.loc
      have mem := List.mem_of_getElem? hl
      cases r2 with
      | cons ra rn =>
        cases rn
        cases ra with
        | d ra =>
          have h : KR X.K X.mg (RA X.K X.mg) W σ Q Hb ρb (match stLst st l with
            | some xs => if lenOk xs.length then .ok (.d .non) (st.set l (.lst (xs ++ [_]))) else .bad
            | none => .bad) := h
          split at h
          · rename_i xs e
            split at h
            · rename_i c
              obtain ⟨us, g1, g2⟩ := s.lst hl e
              refine ⟨_, MtM.r mt_append, p, us, _, rfl, rfl, g1, ?_, ?_⟩
              · rw [← g2.length]; exact line_lt c
              · exact h _ _ ρ (eb.trans (Ext.write s mem)) (s.write hl (.lst upd_same ((g2.append (.cons ra .nil)).mono (Ext.write s mem)))) (.d .non)
            · exact h.elim
          · exact h.elim
        | @l zs q ws q1 q2 q3 q4 =>
          have h : KR X.K X.mg (RA X.K X.mg) W σ Q Hb ρb (match stLst (st ++ [Ob.lst zs]) l with
            | some xs => if lenOk xs.length then .ok (.d .non) ((st ++ [Ob.lst zs]).set l (Ob.lst (xs ++ [D.loc st.length]))) else .bad
            | none => .bad) := h
          have s' : RS X.K X.mg H (ρ ++ [q]) (st ++ [.lst zs]) := s.name q1 (.lst q3 q4)
          have hl' : (ρ ++ [q])[l]? = some p := by rw [List.getElem?_append_left (List.getElem?_eq_some_iff.mp hl).1]; exact hl
          have mem' := List.mem_of_getElem? hl'
          have eb' := eb.name q2
          split at h
          · rename_i xs e
            split at h
            · rename_i c
              obtain ⟨us, g1, g2⟩ := s'.lst hl' e
              refine ⟨_, MtM.r mt_append, p, us, _, rfl, rfl, g1, ?_, ?_⟩
              · rw [← g2.length]; exact line_lt c
              · exact h _ _ (ρ ++ [q]) (eb'.trans (Ext.write s' mem')) (s'.write hl' (.lst upd_same ((g2.append (.cons (RD.last s) .nil)).mono (Ext.write s' mem')))) (.d .non)
            · exact h.elim
          · exact h.elim
    · exact h.elim
  split at h
  · rename_i e
    subst e
    obtain ⟨rfl, rfl⟩ : T = "list" ∧ id = "list.pop" := by
      have e2 : mtab.lookup ("pop" : Str) = some ("list", "list.pop") := by decide +kernel
      rw [e2] at hm; cases hm; exact ⟨rfl, rfl⟩
    split at h
    · rename_i l
      obtain ⟨p, rfl, hl⟩ := r1.loc
      have mem := List.mem_of_getElem? hl
      cases r2
      split at h
      · rename_i xs e
        split at h
        · rename_i y e2
          obtain ⟨us, g1, g2⟩ := s.lst hl e
          obtain ⟨w, g3, g4⟩ := g2.get e2
          refine ⟨_, MtM.r mt_pop, p, us, w, rfl, rfl, g1, by rw [← g2.length]; exact g3, ?_⟩
          exact h _ _ ρ (eb.trans (Ext.write s mem)) (s.write hl (.lst upd_same (g2.dropLast.mono (Ext.write s mem)))) (.d (g4.mono (Ext.write s mem)))
        · exact h.elim
      · exact h.elim
    · rename_i l i
      obtain ⟨p, rfl, hl⟩ := r1.loc
      have mem := List.mem_of_getElem? hl
      cases r2 with
      | cons ra rn =>
        cases rn
        obtain rfl := ra.int
        split at h
        · rename_i xs e
          split at h
          · rename_i c
            split at h
            · rename_i k ek
              split at h
              · rename_i y e2
                obtain ⟨us, g1, g2⟩ := s.lst hl e
                obtain ⟨w, g3, g4⟩ := g2.get e2
                refine ⟨_, MtM.r mt_popAt, p, us, i, k, w, rfl, rfl, g1, by omega, by omega, by rw [← g2.length]; exact ek, g3, ?_⟩
                exact h _ _ ρ (eb.trans (Ext.write s mem)) (s.write hl (.lst upd_same ((g2.eraseIdx k).mono (Ext.write s mem)))) (.d (g4.mono (Ext.write s mem)))
              · exact h.elim
            · exact h.elim
          · exact h.elim
        · exact h.elim
    · exact h.elim
  split at h
  · rename_i e
    subst e
    obtain ⟨rfl, rfl⟩ : T = "list" ∧ id = "list.extend" := by
      have e2 : mtab.lookup ("extend" : Str) = some ("list", "list.extend") := by decide +kernel
      rw [e2] at hm; cases hm; exact ⟨rfl, rfl⟩
    split at h
    · rename_i l a
      obtain ⟨p, rfl, hl⟩ := r1.loc
      have mem := List.mem_of_getElem? hl
      cases r2 with
      | cons ra rn =>
        cases rn
        split at h
        · rename_i xs zs e e2
          split at h
          · rename_i c
            obtain ⟨us, g1, g2⟩ := s.lst hl e
            obtain ⟨p2, ws, rfl, g3, g4⟩ := ra.seqM s e2
            refine ⟨_, MtM.r mt_extend, p, p2, us, ws, rfl, rfl, g1, g3, ?_, ?_⟩
            · rw [← g2.length, ← g4.length]; exact line_of c
            · exact h _ _ ρ (eb.trans (Ext.write s mem)) (s.write hl (.lst upd_same ((g2.append g4).mono (Ext.write s mem)))) (.d .non)
          · exact h.elim
        · exact h.elim
    · exact h.elim
  split at h
  · rename_i e
    subst e
    obtain ⟨rfl, rfl⟩ : T = "list" ∧ id = "list.insert" := by
      have e2 : mtab.lookup ("insert" : Str) = some ("list", "list.insert") := by decide +kernel
      rw [e2] at hm; cases hm; exact ⟨rfl, rfl⟩
    split at h
    · rename_i l i y
      obtain ⟨p, rfl, hl⟩ := r1.loc
      have mem := List.mem_of_getElem? hl
      cases r2 with
      | cons ra rn =>
        cases rn with
        | cons rb rn =>
          cases rn
          obtain rfl := ra.int
          split at h
          · rename_i xs e
            split at h
            · rename_i c
              obtain ⟨us, g1, g2⟩ := s.lst hl e
              refine ⟨_, mt_insert, p, us, i, _, rfl, rfl, g1, ?_, c.2.1, by omega, ?_⟩
              · rw [← g2.length]; exact line_lt c.1
              · exact h _ _ ρ (eb.trans (Ext.write s mem)) (s.write hl (.lst upd_same ((((g2.take _).append (.cons rb.val .nil)).append (g2.drop _)).mono (Ext.write s mem)))) (.d .non)
            · exact h.elim
          · exact h.elim
    · exact h.elim
  split at h
  · rename_i e
    subst e
    obtain ⟨rfl, rfl⟩ : T = "list" ∧ id = "list.count" := by
      have e2 : mtab.lookup ("count" : Str) = some ("list", "list.count") := by decide +kernel
      rw [e2] at hm; cases hm; exact ⟨rfl, rfl⟩
    split at h
    · rename_i xs y e
      split at h
      · rename_i c
        obtain ⟨p, ws, rfl, hq, t⟩ := r1.seqL s e
        cases r2 with
        | cons ra rn =>
          cases rn
          obtain ⟨rfl, f1⟩ := vF_ok c.1 ra.val
          obtain ⟨rfl, f2⟩ := vFs_ok c.2 t
          refine ⟨_, mt_cntL, p, _, _, rfl, rfl, hq, f1, f2, ?_⟩
          have ec : ((xs.map vF).countP fun z => eqV z (vF y)) = xs.countP fun z => eqF z y := by rw [List.countP_map]; rfl
          rw [ec]
          exact h _ _ ρ eb s (.d (.int _))
      · exact h.elim
    · exact h.elim
  split at h
  · rename_i e
    subst e
    obtain ⟨rfl, rfl⟩ : T = "list" ∧ id = "list.index" := by
      have e2 : mtab.lookup ("index" : Str) = some ("list", "list.index") := by decide +kernel
      rw [e2] at hm; cases hm; exact ⟨rfl, rfl⟩
    split at h
    · rename_i xs y e
      split at h
      · rename_i c
        split at h
        · rename_i j ej
          obtain ⟨p, ws, rfl, hq, t⟩ := r1.seqL s e
          cases r2 with
          | cons ra rn =>
            cases rn
            obtain ⟨rfl, f1⟩ := vF_ok c.1 ra.val
            obtain ⟨rfl, f2⟩ := vFs_ok c.2 t
            obtain ⟨hj, h3, h4⟩ := List.findIdx?_eq_some_iff_getElem.mp ej
            refine ⟨_, mt_index, p, _, _, j, vF xs[j], rfl, rfl, hq, f1, f2, by simp [hj], h3, ?_, ?_⟩
            · intro m z' hmj hz
              rw [List.getElem?_map] at hz
              simp only [Option.map_eq_some_iff] at hz
              obtain ⟨w, hw, rfl⟩ := hz
              obtain ⟨hm1, rfl⟩ := List.getElem?_eq_some_iff.mp hw
              have := h4 m hmj
              simpa [eqF] using this
            · exact h _ _ ρ eb s (.d (.int _))
        · exact h.elim
      · exact h.elim
    · exact h.elim
  · exact h.elim
theorem ja_mt0 {m : Str} {T id : String} {xa : Ex} {apos : Pos} (hm : mtab.lookup m = some (T, id)) (ha : JA X L (fun env st => evA G env xa st) a) (hbase : attributeBase a m X.env (eval a X.env) = eval a X.env) (hline : (apos.endLine == pos.line) = true) :
    JA X L (fun env st => evA G env (.mt m xa .nil) st) (.Call (.Attribute a m apos) [] [] pos) := by
  intro W tk
  have mi := mi_of hm
  refine PE.imp (pe_bm0 mi.pa mi.slot mi.hty mt_any (ha W tk) hbase hline) ?_
  rintro σ H Q ⟨ρ, env, st, he, hs, h⟩
  simp only [evA, evAs] at h
  refine ⟨ρ, env, st, he, hs, KR.bind h ?_⟩
  intro x st1 v1 H1 ρ1 e1 s1 r1 h1
  split at h1
  · rename_i c
    exact ⟨rcv_ok hm s1 r1 c, mtA_ok hm e1 s1 r1 .nil h1⟩
  · exact h1.elim
theorem ja_mt {m : Str} {T id : String} {xa : Ex} {xs : Es} {apos : Pos} (hm : mtab.lookup m = some (T, id)) (ha : JA X L (fun env st => evA G env xa st) a) (hb : JLs X L (fun env st => evAs G env xs st) (e :: es))
    (hbase : attributeBase a m X.env (eval a X.env) = eval a X.env) (hline : (apos.endLine == pos.line) = true)
    (hfew : ((backTo pos (starEach (e :: es) X.env)).all (fun x => !x.1) && (backToKw pos (keywordEach [] X.env)).all (fun x => x.1.isSome) && decide ((e :: es).length + ([] : List Keyword).length + (if ([] : List Keyword).isEmpty then 0 else 1) < 30)) = true)
    (hst : starEach (e :: es) X.env = (false, eval e X.env) :: starEach es X.env) (hpl : (backTo pos (starEach es X.env)).any (·.1) = false) :
    JA X L (fun env st => evA G env (.mt m xa xs) st) (.Call (.Attribute a m apos) (e :: es) [] pos) := by
  intro W tk
  have mi := mi_of hm
  refine PE.imp (pe_bm mi.pa mi.slot mi.hty mt_any (ha W tk) (hb W tk) hbase hfew hline hst hpl) ?_
  rintro σ H Q ⟨ρ, env, st, he, hs, h⟩
  simp only [evA] at h
  refine ⟨ρ, env, st, he, hs, KR.bind h ?_⟩
  intro x st1 v1 H1 ρ1 e1 s1 r1 h1
  split at h1
  · rename_i c
    refine ⟨rcv_ok hm s1 r1 c, ρ1, env, st1, he.mono e1, s1, KR.bindAt e1 h1 ?_⟩
    intro ys st2 vs H2 ρ2 e2 s2 r2 h2
    exact mtA_ok hm (e1.trans e2) s2 (r1.mono e2) (r2.anti e1) h2
  · exact h1.elim
theorem ja_nset {xa : Ex} {p p2 q : Pos} (gx : GX X k G) (gd : Gd X k) (hg : Gl X "len") (hg2 : Gl X "set") (ha : JA X L (fun env st => evA G env xa st) a) (hs : starEach [a] X.env = (false, eval a X.env) :: starEach [] X.env) :
    JA X L (fun env st => evA G env (.nset xa) st) (.Call (.Name "len" p) [.Call (.Name "set" p2) [a] [] q] [] pos) := by
  intro W tk
  refine PE.imp (pe_lenSetA gd.calm hg (gx.bt "len" (by decide +kernel)) hg2 (gx.bt "set" (by decide +kernel)) (ha W tk) hs) ?_
  rintro σ H Q ⟨ρ, env, st, he, hs, h⟩
  simp only [evA] at h
  refine ⟨ρ, env, st, he, hs, KR.bind h ?_⟩
  intro x st1 v1 H1 ρ1 e1 s1 r1 h1
  obtain ⟨z, ez, h2⟩ := KR.ofO h1
  obtain ⟨xs, e2, ez⟩ := Option.bind_eq_some_iff.mp ez
  obtain ⟨is, e3, ez⟩ := Option.bind_eq_some_iff.mp ez
  split at ez
  · rename_i hl
    cases ez
    obtain ⟨p, vs, rfl, hq, t⟩ := r1.seq s1 e2
    obtain rfl := intsOf_ok e3 t
    exact ⟨p, is, rfl, hq, hl, fin_d (h2.ext anti_A e1) s1 (.int _)⟩
  · cases ez
theorem ja_sset {xa : Ex} {p p2 q : Pos} (gx : GX X k G) (gd : Gd X k) (hg : Gl X "sorted") (hg2 : Gl X "set") (ha : JA X L (fun env st => evA G env xa st) a) (hs : starEach [a] X.env = (false, eval a X.env) :: starEach [] X.env) :
    JA X L (fun env st => evA G env (.sset xa) st) (.Call (.Name "sorted" p) [.Call (.Name "set" p2) [a] [] q] [] pos) := by
  intro W tk
  refine PE.imp (pe_sortSet gd.calm hg (gx.bt "sorted" (by decide +kernel)) hg2 (gx.bt "set" (by decide +kernel)) (ha W tk) hs) ?_
  rintro σ H Q ⟨ρ, env, st, he, hs, h⟩
  simp only [evA] at h
  refine ⟨ρ, env, st, he, hs, KR.bind h ?_⟩
  intro x st1 v1 H1 ρ1 e1 s1 r1 h1
  obtain ⟨z, ez, h2⟩ := KR.ofO h1
  obtain ⟨xs, e2, ez⟩ := Option.bind_eq_some_iff.mp ez
  obtain ⟨is, e3, ez⟩ := Option.bind_eq_some_iff.mp ez
  split at ez
  · rename_i hl
    cases ez
    obtain ⟨p, vs, rfl, hq, t⟩ := r1.seqT e2
    obtain rfl := intsOf_ok e3 t
    refine ⟨p, is, rfl, hq, hl, fun ns q' hs hm hn => ?_⟩
    rw [sortS_of hs hm]
    exact fin_lst (h2.ext anti_A e1) s1 rds_int hn
  · cases ez
theorem rgOk_ok {i j : Int} (h : rgOk i j = true) : RgOk i j := by
  have h := of_decide_eq_true h
  exact ⟨h.1, h.2.1, h.2.2.1, h.2.2.2.1, by omega⟩
theorem rds_rng {i : Int} {n : Nat} : RDs K mg H ρ (rngI i n) ((List.range n).map fun m => V.int (i + (m : Nat))) := by
  unfold rngI
  generalize List.range n = L
  induction L with
  | nil => exact .nil
  | cons a r ih => exact .cons (.int _) ih
theorem ja_rgl1 {xa : Ex} {p p2 q : Pos} {T : Str} {t : Bool} (hT : T = if t = true then "tuple" else "list") (gx : GX X k G) (gd : Gd X k) (hg : Gl X T) (hg2 : Gl X "range") (ha : JA X L (fun env st => evA G env xa st) a) (hs : starEach [a] X.env = (false, eval a X.env) :: starEach [] X.env) :
    JA X L (fun env st => evA G env (.rgl t xa .no) st) (.Call (.Name T p) [.Call (.Name "range" p2) [a] [] q] [] pos) := by
  intro W tk
  have hr := prg_1 (pos := q) (p := p2) hg2 (gx.bt "range" (by decide +kernel)) (ha W tk) hs
  cases t with
  | true =>
    subst hT
    refine PE.imp (pe_tupRg gd.calm hg (gx.bt "tuple" (by decide +kernel)) hr) ?_
    rintro σ H Q ⟨ρ, env, st, he, hs, h⟩
    simp only [evA, evO] at h
    refine ⟨ρ, env, st, he, hs, KR.bind h ?_⟩
    intro x st1 v1 H1 ρ1 e1 s1 r1 h1
    simp only [Rs.bind] at h1
    split at h1
    · split at h1
      · rename_i c
        obtain rfl := r1.int
        refine ⟨_, rfl, rgOk_ok c, fun z hz => ?_⟩
        have h2 := fin_tup (h1.ext anti_A e1) s1 rds_rng hz
        unfold rgV
        rw [Int.sub_zero]
        exact h2
      · exact h1.elim
    · exact h1.elim
  | false =>
    subst hT
    refine PE.imp (pe_listRg gd.calm hg (gx.bt "list" (by decide +kernel)) hr) ?_
    rintro σ H Q ⟨ρ, env, st, he, hs, h⟩
    simp only [evA, evO] at h
    refine ⟨ρ, env, st, he, hs, KR.bind h ?_⟩
    intro x st1 v1 H1 ρ1 e1 s1 r1 h1
    simp only [Rs.bind] at h1
    split at h1
    · split at h1
      · rename_i c
        obtain rfl := r1.int
        refine ⟨_, rfl, rgOk_ok c, fun z hz => ?_⟩
        have h2 := fin_lst (h1.ext anti_A e1) s1 rds_rng hz
        unfold rgV
        rw [Int.sub_zero]
        exact h2
      · exact h1.elim
    · exact h1.elim
end
end Ev
namespace Ev
open PySem PySem.Spec PyProof.Rows L2
variable {L : LT}
mutual
theorem same_eq : ∀ {a b : D}, same a b = true → a = b
  | .non, .non, _ => rfl
  | .bl a, .bl b, h => by simp [same] at h; rw [h]
  | .int a, .int b, h => by simp [same] at h; rw [h]
  | .str a, .str b, h => by simp [same] at h; rw [h]
  | .ty a, .ty b, h => by simp [same] at h; rw [h]
  | .tup a, .tup b, h => by simp only [same] at h; rw [sames_eq h]
  | .rol a, .rol b, h => by simp only [same] at h; rw [sames_eq h]
  | .loc a, .loc b, h => by simp [same] at h; rw [h]
  | .obj a, .obj b, h => by simp [same] at h; rw [h]
  | .exn a fs, .exn b gs, h => by simp only [same, Bool.and_eq_true, decide_eq_true_eq] at h; rw [h.1, sames_eq h.2]
  | .clo a fs, .clo b gs, h => by simp only [same, Bool.and_eq_true, beq_iff_eq] at h; rw [h.1, sames_eq h.2]
  | .non, .bl _, h | .non, .int _, h | .non, .str _, h | .non, .ty _, h | .non, .tup _, h | .non, .rol _, h | .non, .loc _, h | .non, .obj _, h | .non, .exn _ _, h | .non, .clo _ _, h => by simp [same] at h
  | .bl _, .non, h | .bl _, .int _, h | .bl _, .str _, h | .bl _, .ty _, h | .bl _, .tup _, h | .bl _, .rol _, h | .bl _, .loc _, h | .bl _, .obj _, h | .bl _, .exn _ _, h | .bl _, .clo _ _, h => by simp [same] at h
  | .int _, .non, h | .int _, .bl _, h | .int _, .str _, h | .int _, .ty _, h | .int _, .tup _, h | .int _, .rol _, h | .int _, .loc _, h | .int _, .obj _, h | .int _, .exn _ _, h | .int _, .clo _ _, h => by simp [same] at h
  | .str _, .non, h | .str _, .bl _, h | .str _, .int _, h | .str _, .ty _, h | .str _, .tup _, h | .str _, .rol _, h | .str _, .loc _, h | .str _, .obj _, h | .str _, .exn _ _, h | .str _, .clo _ _, h => by simp [same] at h
  | .ty _, .non, h | .ty _, .bl _, h | .ty _, .int _, h | .ty _, .str _, h | .ty _, .tup _, h | .ty _, .rol _, h | .ty _, .loc _, h | .ty _, .obj _, h | .ty _, .exn _ _, h | .ty _, .clo _ _, h => by simp [same] at h
  | .tup _, .non, h | .tup _, .bl _, h | .tup _, .int _, h | .tup _, .str _, h | .tup _, .ty _, h | .tup _, .rol _, h | .tup _, .loc _, h | .tup _, .obj _, h | .tup _, .exn _ _, h | .tup _, .clo _ _, h => by simp [same] at h
  | .rol _, .non, h | .rol _, .bl _, h | .rol _, .int _, h | .rol _, .str _, h | .rol _, .ty _, h | .rol _, .tup _, h | .rol _, .loc _, h | .rol _, .obj _, h | .rol _, .exn _ _, h | .rol _, .clo _ _, h => by simp [same] at h
  | .loc _, .non, h | .loc _, .bl _, h | .loc _, .int _, h | .loc _, .str _, h | .loc _, .ty _, h | .loc _, .tup _, h | .loc _, .rol _, h | .loc _, .obj _, h | .loc _, .exn _ _, h | .loc _, .clo _ _, h => by simp [same] at h
  | .obj _, .non, h | .obj _, .bl _, h | .obj _, .int _, h | .obj _, .str _, h | .obj _, .ty _, h | .obj _, .tup _, h | .obj _, .rol _, h | .obj _, .loc _, h | .obj _, .exn _ _, h | .obj _, .clo _ _, h => by simp [same] at h
  | .exn _ _, .non, h | .exn _ _, .bl _, h | .exn _ _, .int _, h | .exn _ _, .str _, h | .exn _ _, .ty _, h | .exn _ _, .tup _, h | .exn _ _, .rol _, h | .exn _ _, .loc _, h | .exn _ _, .obj _, h | .exn _ _, .clo _ _, h => by simp [same] at h
  | .clo _ _, .non, h | .clo _ _, .bl _, h | .clo _ _, .int _, h | .clo _ _, .str _, h | .clo _ _, .ty _, h | .clo _ _, .tup _, h | .clo _ _, .rol _, h | .clo _ _, .loc _, h | .clo _ _, .obj _, h | .clo _ _, .exn _ _, h => by simp [same] at h
theorem sames_eq : ∀ {a b : List D}, sames a b = true → a = b
  | [], [], _ => rfl
  | a :: r, b :: q, h => by
    simp only [sames, Bool.and_eq_true] at h
    rw [same_eq h.1, sames_eq h.2]
  | [], _ :: _, h => by simp [sames] at h
  | _ :: _, [], h => by simp [sames] at h
end
mutual
theorem same_refl : ∀ (a : D), same a a = true
  | .non => by simp [same]
  | .bl _ => by simp [same]
  | .int _ => by simp [same]
  | .str _ => by simp [same]
  | .ty _ => by simp [same]
  | .tup a => by simp [same, sames_refl a]
  | .rol a => by simp [same, sames_refl a]
  | .loc _ => by simp [same]
  | .obj _ => by simp [same]
  | .exn _ a => by simp [same, sames_refl a]
  | .clo _ a => by simp [same, sames_refl a]
theorem sames_refl : ∀ (a : List D), sames a a = true
  | [] => by simp [sames]
  | a :: r => by simp [sames, same_refl a, sames_refl r]
end
theorem live_at {st : Stt} {ls : List (Nat × List D)} {l : Nat} {xs : List D} (h : liveOk st ls = true) (m : (l, xs) ∈ ls) : stLst st l = some xs := by
  have q := List.all_eq_true.mp h _ m
  simp only at q
  split at q
  · rename_i zs e
    rw [e, sames_eq q]
  · cases q
theorem live_append {st : Stt} {a b : List (Nat × List D)} (h : liveOk st (a ++ b) = true) : liveOk st a = true ∧ liveOk st b = true := by
  unfold liveOk at h ⊢
  rw [List.all_append, Bool.and_eq_true] at h
  exact h
structure RJ (K : PySem.W.Frag) (mg : Str → Option Value) (H : Hp) (ρ : List Addr) (I : Its) (J : L2.It) : Prop where
  go : ∀ (i : Nat) (x : D) H2 ρ2 st2, Ext ρ H ρ2 H2 → RS K mg H2 ρ2 st2 → liveOk st2 I.live = true → I.xs[i]? = some x → J.go i H2
  yld : ∀ (i : Nat) (x : D) H2 ρ2 st2 v H', Ext ρ H ρ2 H2 → RS K mg H2 ρ2 st2 → liveOk st2 I.live = true → I.xs[i]? = some x → J.yld i H2 v H' → Ext ρ2 H2 ρ2 H' ∧ RS K mg H' ρ2 st2 ∧ RD K mg H' ρ2 x v
  stop : ∀ H2 ρ2 st2, Ext ρ H ρ2 H2 → RS K mg H2 ρ2 st2 → liveOk st2 I.live = true → J.stop I.xs.length H2
noncomputable def KI (K : PySem.W.Frag) (mg : Str → Option Value) (W : WX) (σ : L2.St) (R : L2.It → Hp → Prop) (H : Hp) (ρ : List Addr) : Rs Its → Prop
  | .ok I st => ∀ J H' ρ', Ext ρ H ρ' H' → RS K mg H' ρ' st → RJ K mg H' ρ' I J → R J H'
  | .exc c fs st => ∀ cls d H' ρ', Ext ρ H ρ' H' → RS K mg H' ρ' st → RX K mg H' ρ' c fs cls d → W cls d σ H'
  | .bad => False
noncomputable def tI (K : PySem.W.Frag) (mg : Str → Option Value) (L : LT) (m : Env → Stt → Rs Its) (W : WX) : TI := fun σ H R => ∃ ρ env st, REnv K mg L H ρ env σ ∧ RS K mg H ρ st ∧ KI K mg W σ R H ρ (m env st)
noncomputable def JI (X : Cx) (L : LT) (m : Env → Stt → Rs Its) (tg iter : Expr) : Prop := ∀ W, Takes X W → PI X tg iter (tI X.K X.mg L m W)
theorem PI.imp {X : Cx} {tg iter : Expr} {t t' : TI} (h : PI X tg iter t) (i : ∀ σ H R, t' σ H R → t σ H R) : PI X tg iter t' := ⟨fun pins s σ H R I q => h.run pins s σ H R I (i σ H R q)⟩
section
variable {K : PySem.W.Frag} {mg : Str → Option Value} {W : WX} {σ : L2.St} {R : L2.It → Hp → Prop} {H H1 H0 : Hp} {ρ ρ1 : List Addr} {st : Stt} {I : Its} {x y : A} {v u : V} {α β : Type}
theorem KI.ext {m : Rs Its} (h : KI K mg W σ R H ρ m) (e : Ext ρ H ρ1 H1) : KI K mg W σ R H1 ρ1 m := by
  cases m with
  | ok a st => exact fun b H' ρ' f s r => h b H' ρ' (e.trans f) s r
  | exc c fs st => exact fun cls d H' ρ' f s r => h cls d H' ρ' (e.trans f) s r
  | bad => exact h
theorem KI.bind {rel : Rl α β} {Q : β → Hp → Prop} {m : Rs α} {k : α → M Its} (h : KI K mg W σ R H ρ (m.bind k))
    (hk : ∀ a st b H1 ρ1, Ext ρ H ρ1 H1 → RS K mg H1 ρ1 st → rel H H1 ρ1 a b → KI K mg W σ R H ρ (k a st) → Q b H1) : KR K mg rel W σ Q H ρ m := by
  cases m with
  | ok a st => exact fun b H' ρ' e s r => hk a st b H' ρ' e s r h
  | exc c fs st => exact h
  | bad => exact h
theorem KI.ofO {o : Option Its} (h : KI K mg W σ R H ρ (Ev.ofO o st)) : ∃ z, o = some z ∧ KI K mg W σ R H ρ (.ok z st) := by
  cases o with
  | none => exact h.elim
  | some z => exact ⟨z, rfl, h⟩
/-- a list's items as they stay -/
theorem src_list {p : Addr} {vs : List V} (s : RS K mg H ρ st) (r : RA K mg H0 H ρ x v) (h : srcA st x = some I) (ht : tupOf x = none) : ∃ p, v = .ref p ∧ (∀ H2 ρ2 st2, Ext ρ H ρ2 H2 → RS K mg H2 ρ2 st2 → liveOk st2 I.live = true → ∃ vs, SqL K H2 p vs ∧ RDs K mg H2 ρ2 I.xs vs) := by
  unfold srcA at h
  split at h
  · rename_i l
    simp only [Option.map_eq_some_iff] at h
    obtain ⟨xs, e, rfl⟩ := h
    obtain ⟨p, rfl, hl⟩ := r.loc
    refine ⟨p, rfl, fun H2 ρ2 st2 e2 s2 lv => ?_⟩
    obtain ⟨vs, g1, g2⟩ := s2.lst (e2.get hl) (live_at lv (List.mem_singleton.mpr rfl))
    exact ⟨vs, .inl (.inl g1), g2⟩
  · rename_i nl
    simp only [Option.map_eq_some_iff] at h
    obtain ⟨xs, e, rfl⟩ := h
    unfold seqOf at e
    rw [ht] at e
    simp only at e
    cases r with
    | d r =>
      cases r with
      | loc q => exact absurd rfl (nl _)
      | rol q t =>
        cases (Option.some.inj e : _ = xs)
        exact ⟨_, rfl, fun H2 ρ2 st2 e2 s2 _ => ⟨_, (e2.sqR q).l, t.mono e2⟩⟩
      | _ => cases e
    | l q1 q2 q3 q4 =>
      cases (Option.some.inj e : _ = xs)
      exact ⟨_, rfl, fun H2 ρ2 st2 e2 s2 _ => ⟨_, .inl (.inl (e2.out _ _ q3 q1 fun ps z => by cases z)), q4.mono e2⟩⟩
theorem src_tup {xs : List D} (r : RA K mg H0 H ρ x v) (h : srcA st x = some I) (ht : tupOf x = some xs) : I = ⟨xs, []⟩ ∧ ∃ p vs, v = .ref p ∧ SqT K H p vs ∧ RDs K mg H ρ xs vs := by
  obtain ⟨p, vs, rfl, h1, h2⟩ := r.seqT ht
  refine ⟨?_, p, vs, rfl, h1, h2⟩
  unfold srcA at h
  split at h
  · rename_i l
    cases ht
  · unfold seqOf at h
    rw [ht] at h
    simp at h
    exact h.symm
theorem rj_list {p : Addr} (h : ∀ H2 ρ2 st2, Ext ρ H ρ2 H2 → RS K mg H2 ρ2 st2 → liveOk st2 I.live = true → ∃ vs, SqL K H2 p vs ∧ RDs K mg H2 ρ2 I.xs vs) : RJ K mg H ρ I (Itl K p) where
  go := fun i x H2 ρ2 st2 e s lv hx => by
    obtain ⟨vs, h1, h2⟩ := h H2 ρ2 st2 e s lv
    obtain ⟨w, h3, _⟩ := h2.get hx
    exact ⟨vs, w, h1, h3⟩
  yld := fun i x H2 ρ2 st2 v H' e s lv hx y => by
    obtain ⟨rfl, y⟩ := y
    obtain ⟨vs, h1, h2⟩ := h _ ρ2 st2 e s lv
    obtain ⟨w, h3, h4⟩ := h2.get hx
    have := y vs h1
    rw [h3] at this
    cases this
    exact ⟨Ext.refl _ _, s, h4⟩
  stop := fun H2 ρ2 st2 e s lv => by
    obtain ⟨vs, h1, h2⟩ := h H2 ρ2 st2 e s lv
    exact ⟨vs, h1, by rw [h2.length]; exact Nat.le_refl _⟩
theorem rj_tup {p : Addr} {xs : List D} {vs : List V} (h1 : SqT K H p vs) (h2 : RDs K mg H ρ xs vs) : RJ K mg H ρ ⟨xs, []⟩ (Itt K p) where
  go := fun i x H2 ρ2 st2 e s lv hx => by
    obtain ⟨w, h3, _⟩ := h2.get hx
    exact ⟨vs, w, e.sqT h1, h3⟩
  yld := fun i x H2 ρ2 st2 v H' e s lv hx y => by
    obtain ⟨rfl, y⟩ := y
    obtain ⟨w, h3, h4⟩ := h2.get hx
    have := y vs (e.sqT h1)
    rw [h3] at this
    cases this
    exact ⟨Ext.refl _ _, s, h4.mono e⟩
  stop := fun H2 ρ2 st2 e s lv => ⟨vs, e.sqT h1, by rw [← h2.length]; exact Nat.le_refl _⟩
theorem rj_rng {lo : Int} {n : Nat} : RJ K mg H ρ ⟨rngI lo n, []⟩ (Itr lo n) where
  go := fun i x H2 ρ2 st2 e s lv hx => by
    have := (List.getElem?_eq_some_iff.mp hx).1
    show i < n
    simpa [rngI] using this
  yld := fun i x H2 ρ2 st2 v H' e s lv hx y => by
    obtain ⟨rfl, rfl⟩ := y
    have hl := (List.getElem?_eq_some_iff.mp hx).1
    simp [rngI] at hl
    simp [rngI, hl] at hx
    subst hx
    exact ⟨Ext.refl _ _, s, .int _⟩
  stop := fun H2 ρ2 st2 e s lv => by simp [rngI, Itr]
theorem yld_pair {T : Addr} {a b : D} {w1 w2 : V} {ρ2 : List Addr} {H2 : Hp} {st2 : Stt} (s : RS K mg H2 ρ2 st2) (hT : H2 T = none) (r1 : RD K mg H2 ρ2 a w1) (r2 : RD K mg H2 ρ2 b w2) :
    Ext ρ2 H2 ρ2 (upd H2 T (.tup [w1, w2])) ∧ RS K mg (upd H2 T (.tup [w1, w2])) ρ2 st2 ∧ RD K mg (upd H2 T (.tup [w1, w2])) ρ2 (.tup [a, b]) (.ref T) :=
  ⟨Ext.fresh hT, s.grow hT, .tup (SqT.of upd_same) (.cons (r1.mono (Ext.fresh hT)) (.cons (r2.mono (Ext.fresh hT)) .nil))⟩
theorem rj_zipM {t u : Bool} {I J : Its} {p q : Addr} (h : ∀ H2 ρ2 st2, Ext ρ H ρ2 H2 → RS K mg H2 ρ2 st2 → liveOk st2 I.live = true → ∃ vs, SqX t K H2 p vs ∧ RDs K mg H2 ρ2 I.xs vs)
    (g : ∀ H2 ρ2 st2, Ext ρ H ρ2 H2 → RS K mg H2 ρ2 st2 → liveOk st2 J.live = true → ∃ vs, SqX u K H2 q vs ∧ RDs K mg H2 ρ2 J.xs vs) :
    RJ K mg H ρ ⟨List.zipWith (fun u w => .tup [u, w]) I.xs J.xs, I.live ++ J.live⟩ (ItM K t u p q) where
  go := fun i x H2 ρ2 st2 e s lv hx => by
    obtain ⟨l1, l2⟩ := live_append lv
    obtain ⟨vs, h1, h2⟩ := h H2 ρ2 st2 e s l1
    obtain ⟨ws, g1, g2⟩ := g H2 ρ2 st2 e s l2
    simp only [List.getElem?_zipWith_eq_some] at hx
    obtain ⟨a, b, ha, hb, rfl⟩ := hx
    obtain ⟨w, h3, _⟩ := h2.get ha
    obtain ⟨w', g3, _⟩ := g2.get hb
    exact ⟨vs, ws, w, w', h1, g1, h3, g3⟩
  yld := fun i x H2 ρ2 st2 v H' e s lv hx y => by
    obtain ⟨T, z1, z2, rfl, hT, rfl, y1, y2⟩ := y
    obtain ⟨l1, l2⟩ := live_append lv
    obtain ⟨vs, h1, h2⟩ := h H2 ρ2 st2 e s l1
    obtain ⟨ws, g1, g2⟩ := g H2 ρ2 st2 e s l2
    simp only [List.getElem?_zipWith_eq_some] at hx
    obtain ⟨a, b, ha, hb, rfl⟩ := hx
    obtain ⟨w, h3, h4⟩ := h2.get ha
    obtain ⟨w', g3, g4⟩ := g2.get hb
    have e1 := y1 vs h1
    rw [h3] at e1; cases e1
    have e2 := y2 ws g1
    rw [g3] at e2; cases e2
    exact yld_pair s hT h4 g4
  stop := fun H2 ρ2 st2 e s lv => by
    obtain ⟨l1, l2⟩ := live_append lv
    obtain ⟨vs, h1, h2⟩ := h H2 ρ2 st2 e s l1
    obtain ⟨ws, g1, g2⟩ := g H2 ρ2 st2 e s l2
    exact ⟨vs, ws, h1, g1, by simp only [List.length_zipWith, ← h2.length, ← g2.length]; omega⟩
theorem enumI_get : ∀ (xs : List D) (k i : Nat), (enumI k xs)[i]? = (xs[i]?).map fun x => D.tup [.int ((k + i : Nat) : Int), x]
  | [], k, i => by simp [enumI]
  | x :: r, k, 0 => by simp [enumI]
  | x :: r, k, i + 1 => by
    simp only [enumI, List.getElem?_cons_succ]
    rw [enumI_get r (k + 1) i]
    have : k + 1 + i = k + (i + 1) := by omega
    rw [this]
theorem enumI_length : ∀ (xs : List D) (k : Nat), (enumI k xs).length = xs.length
  | [], _ => rfl
  | _ :: r, k => by simp [enumI, enumI_length r]
theorem rj_enumL {I : Its} {p : Addr} (h : ∀ H2 ρ2 st2, Ext ρ H ρ2 H2 → RS K mg H2 ρ2 st2 → liveOk st2 I.live = true → ∃ vs, SqL K H2 p vs ∧ RDs K mg H2 ρ2 I.xs vs) :
    RJ K mg H ρ ⟨enumI 0 I.xs, I.live⟩ (Ite K p) where
  go := fun i x H2 ρ2 st2 e s lv hx => by
    obtain ⟨vs, h1, h2⟩ := h H2 ρ2 st2 e s lv
    rw [enumI_get] at hx
    simp only [Option.map_eq_some_iff] at hx
    obtain ⟨a, ha, rfl⟩ := hx
    obtain ⟨w, h3, _⟩ := h2.get ha
    exact ⟨vs, w, h1, h3⟩
  yld := fun i x H2 ρ2 st2 v H' e s lv hx y => by
    obtain ⟨T, z1, rfl, hT, rfl, y1⟩ := y
    obtain ⟨vs, h1, h2⟩ := h H2 ρ2 st2 e s lv
    rw [enumI_get] at hx
    simp only [Option.map_eq_some_iff] at hx
    obtain ⟨a, ha, rfl⟩ := hx
    obtain ⟨w, h3, h4⟩ := h2.get ha
    have e1 := y1 vs h1
    rw [h3] at e1; cases e1
    rw [Nat.zero_add]
    exact yld_pair s hT (.int _) h4
  stop := fun H2 ρ2 st2 e s lv => by
    obtain ⟨vs, h1, h2⟩ := h H2 ρ2 st2 e s lv
    refine ⟨vs, h1, ?_⟩
    rw [enumI_length, h2.length]; exact Nat.le_refl _
theorem rj_enumT {p : Addr} {xs : List D} {vs : List V} (h1 : SqT K H p vs) (h2 : RDs K mg H ρ xs vs) : RJ K mg H ρ ⟨enumI 0 xs, []⟩ (IteT K p) where
  go := fun i x H2 ρ2 st2 e s lv hx => by
    rw [enumI_get] at hx
    simp only [Option.map_eq_some_iff] at hx
    obtain ⟨a, ha, rfl⟩ := hx
    obtain ⟨w, h3, _⟩ := h2.get ha
    exact ⟨vs, w, e.sqT h1, h3⟩
  yld := fun i x H2 ρ2 st2 v H' e s lv hx y => by
    obtain ⟨T, z1, rfl, hT, rfl, y1⟩ := y
    rw [enumI_get] at hx
    simp only [Option.map_eq_some_iff] at hx
    obtain ⟨a, ha, rfl⟩ := hx
    obtain ⟨w, h3, h4⟩ := h2.get ha
    have e1 := y1 vs (e.sqT h1)
    rw [h3] at e1; cases e1
    rw [Nat.zero_add]
    exact yld_pair s hT (.int _) (h4.mono e)
  stop := fun H2 ρ2 st2 e s lv => by
    refine ⟨vs, e.sqT h1, ?_⟩
    rw [enumI_length, h2.length]; exact Nat.le_refl _
end
end Ev
namespace Ev
open PySem PySem.Spec PyProof.Rows L2
variable {L : LT}
section
variable {X : Cx} {k : Nat} {G : Gam} {a b c e tg : Expr} {es : List Expr} {pos : Pos}
noncomputable def iSeq (K : PySem.W.Frag) (tl : TE) : TI := fun σ H R => tl σ H fun x H1 => ∃ a, x = .ref a ∧ (((∃ xs, SqL K H1 a xs) ∧ R (Itl K a) H1) ∨ ((∃ xs, SqT K H1 a xs) ∧ R (Itt K a) H1))
theorem pi_seq {l : Expr} {tl : TE} (hl : PE X l tl) : PI X tg l (iSeq X.K tl) := by
  refine ⟨fun pins s σ H R I h => ?_⟩
  refine thn (hl.run pins s σ H _ I h) fun v s1 ⟨x, H1, I1, r1, q1⟩ => ?_
  obtain ⟨a, e, q⟩ := q1
  subst e
  cases r1
  rcases q with ⟨⟨xs, hq⟩, q⟩ | ⟨⟨xs, hq⟩, q⟩
  · obtain ⟨its, rv, p, hz⟩ := I1.list hq
    refine wpAny_pyIter_list p.isList ?_
    refine ⟨s1.heap.objs.size, [s1.heap.objs.size], _, _, H1, rfl, I1.kept (t' := s1.toks) fun b o e => Heap.get?_push_of_some _ e, turn_list a _, ⟨_, Heap.get?_push_size _ rfl, rfl, rfl⟩, fun b hb => ?_, q⟩
    have e : b = s1.heap.objs.size := by simpa using hb
    subst e
    exact I1.fpOk (Nat.le_refl _) (I1.hok.fresh (Nat.le_refl _))
  · obtain ⟨its, rv, p, hz⟩ := I1.tuple hq
    refine wpAny_pyIter_tuple (show s1.heap.IsTuple a its.toArray from p) ?_
    refine ⟨s1.heap.objs.size, [s1.heap.objs.size], _, _, H1, rfl, I1.kept (t' := s1.toks) fun b o e => Heap.get?_push_of_some _ e, turn_tuple a _, ⟨_, Heap.get?_push_size _ rfl, rfl, rfl⟩, fun b hb => ?_, q⟩
    have e : b = s1.heap.objs.size := by simpa using hb
    subst e
    exact I1.fpOk (Nat.le_refl _) (I1.hok.fresh (Nat.le_refl _))
theorem ji_val {xa : Ex} (ha : JA X L (fun env st => evA G env xa st) a) : JI X L (fun env st => evIt G env (.val xa) st) tg a := by
  intro W tk
  refine PI.imp (pi_seq (ha W tk)) ?_
  rintro σ H Q ⟨ρ, env, st, he, hs, h⟩
  simp only [evIt] at h
  refine ⟨ρ, env, st, he, hs, KI.bind h ?_⟩
  intro x st1 v1 H1 ρ1 e1 s1 r1 h1
  obtain ⟨I, eI, h2⟩ := KI.ofO h1
  cases ht : tupOf x with
  | none =>
    obtain ⟨p, rfl, hp⟩ := src_list (p := 0) (vs := []) s1 r1 eI ht
    refine ⟨p, rfl, .inl ⟨?_, h2 _ H1 ρ1 e1 s1 (rj_list hp)⟩⟩
    have lv : liveOk st1 I.live = true := by
      unfold srcA at eI
      split at eI
      · simp only [Option.map_eq_some_iff] at eI
        obtain ⟨xs, e2, rfl⟩ := eI
        simp only [liveOk, List.all_cons, List.all_nil, Bool.and_true, e2, sames_refl]
      · simp only [Option.map_eq_some_iff] at eI
        obtain ⟨xs, e2, rfl⟩ := eI
        rfl
    obtain ⟨vs, h3, _⟩ := hp H1 ρ1 st1 (Ext.refl _ _) s1 lv
    exact ⟨vs, h3⟩
  | some xs =>
    obtain ⟨rfl, p, vs, rfl, h3, h4⟩ := src_tup r1 eI ht
    exact ⟨p, rfl, .inr ⟨⟨vs, h3⟩, h2 _ H1 ρ1 e1 s1 (rj_tup h3 h4)⟩⟩
theorem rng_of {i : Int} (h : rngOk i = true) : -(2 ^ 62) ≤ i ∧ i < 2 ^ 62 := of_decide_eq_true h
theorem ji_rng {xa : Ex} {p : Pos} (gx : GX X k G) (hg : Gl X "range") (ha : JA X L (fun env st => evA G env xa st) a) (hs1 : starEach (a :: []) X.env = (false, eval a X.env) :: starEach [] X.env) : JI X L (fun env st => evIt G env (.rng xa) st) tg (.Call (.Name "range" p) [a] [] pos) := by
  intro W tk
  have hm := gx.bt "range" (by decide +kernel)
  refine PI.imp (pi_range1 hg hm (pa_cons (ha W tk) pa_nil hs1) hs1) ?_
  rintro σ H Q ⟨ρ, env, st, he, hs, h⟩
  simp only [evIt] at h
  refine ⟨ρ, env, st, he, hs, KI.bind h ?_⟩
  intro x st1 v1 H1 ρ1 e1 s1 r1 h1
  split at h1
  · rename_i n
    obtain rfl := r1.int
    split at h1
    · rename_i c
      have := rng_of c
      exact ⟨n, rfl, this.1, this.2, h1 _ H1 ρ1 e1 s1 rj_rng⟩
    · exact h1.elim
  · exact h1.elim
theorem ji_rng2 {xa xb : Ex} {p : Pos} (gx : GX X k G) (hg : Gl X "range") (ha : JA X L (fun env st => evA G env xa st) a) (hb : JA X L (fun env st => evA G env xb st) b)
    (hs2 : starEach (a :: [b]) X.env = (false, eval a X.env) :: starEach [b] X.env) (hs1 : starEach (b :: []) X.env = (false, eval b X.env) :: starEach [] X.env) : JI X L (fun env st => evIt G env (.rng2 xa xb) st) tg (.Call (.Name "range" p) [a, b] [] pos) := by
  intro W tk
  have hm := gx.bt "range" (by decide +kernel)
  refine PI.imp (pi_range2 hg hm (pa_cons (ha W tk) (pa_cons (hb W tk) pa_nil hs1) hs2) (by rw [hs2, hs1]; rfl) hs1) ?_
  rintro σ H Q ⟨ρ, env, st, he, hs, h⟩
  simp only [evIt] at h
  refine ⟨ρ, env, st, he, hs, KI.bind h ?_⟩
  intro x st1 v1 H1 ρ1 e1 s1 r1 h1
  refine ⟨ρ1, env, st1, he.mono e1, s1, KI.bind (h1.ext e1) ?_⟩
  intro y st2 v2 H2 ρ2 e2 s2 r2 h2
  split at h2
  · rename_i i j
    obtain rfl := r1.int
    obtain rfl := r2.int
    split at h2
    · rename_i c
      have c1 := rng_of c.1
      have c2 := rng_of c.2
      exact ⟨i, j, rfl, ⟨c1.1, c1.2, c2.1, c2.2⟩, h2 _ H2 ρ2 e2 s2 rj_rng⟩
    · exact h2.elim
  · exact h2.elim
theorem src_live {st : Stt} {x : A} {I : Its} (h : srcA st x = some I) : liveOk st I.live = true := by
  unfold srcA at h
  split at h
  · simp only [Option.map_eq_some_iff] at h
    obtain ⟨xs, e2, rfl⟩ := h
    simp only [liveOk, List.all_cons, List.all_nil, Bool.and_true, e2, sames_refl]
  · simp only [Option.map_eq_some_iff] at h
    obtain ⟨xs, e2, rfl⟩ := h
    rfl
theorem ji_zip {xa xb : Ex} {p tpos : Pos} {elts : List Expr} {kk : Nat} (gx : GX X k G) (hg : Gl X "zip") (ha : JA X L (fun env st => evA G env xa st) a) (hb : JA X L (fun env st => evA G env xb st) b)
    (hs2 : starEach (a :: [b]) X.env = (false, eval a X.env) :: starEach [b] X.env) (hs1 : starEach (b :: []) X.env = (false, eval b X.env) :: starEach [] X.env) (hpl : (backTo pos (starEach [b] X.env)).any (·.1) = false) :
    JI X L (fun env st => evIt G env (.zip xa xb) st) (.Tuple elts kk tpos) (.Call (.Name "zip" p) [a, b] [] pos) := by
  intro W tk
  have hm := gx.bt "zip" (by decide +kernel)
  refine PI.imp (pi_zipM hg hm (pa_cons (ha W tk) (pa_cons (hb W tk) pa_nil hs1) hs2) hs2 hpl) ?_
  rintro σ H Q ⟨ρ, env, st, he, hs, h⟩
  simp only [evIt] at h
  refine ⟨ρ, env, st, he, hs, KI.bind h ?_⟩
  intro x st1 v1 H1 ρ1 e1 s1 r1 h1
  refine ⟨ρ1, env, st1, he.mono e1, s1, KI.bind (h1.ext e1) ?_⟩
  intro y st2 v2 H2 ρ2 e2 s2 r2 h2
  split at h2
  · rename_i I J eI eJ
    have one : ∀ {z : A} {I : Its} {v : V} {H0 : Hp}, RA X.K X.mg H0 H2 ρ2 z v → srcA st2 z = some I → ∃ (t : Bool) (p : Addr) (vs : List V), v = .ref p ∧ SqX t X.K H2 p vs ∧ ∀ H3 ρ3 st3, Ext ρ2 H2 ρ3 H3 → RS X.K X.mg H3 ρ3 st3 → liveOk st3 I.live = true → ∃ vs, SqX t X.K H3 p vs ∧ RDs X.K X.mg H3 ρ3 I.xs vs := by
      intro z I v H0 r eI
      cases hx : tupOf z with
      | none =>
        obtain ⟨p, rfl, hp⟩ := src_list (p := 0) (vs := []) s2 r eI hx
        obtain ⟨vs, g1, _⟩ := hp H2 ρ2 st2 (Ext.refl _ _) s2 (src_live eI)
        exact ⟨false, p, vs, rfl, g1, hp⟩
      | some xs =>
        obtain ⟨rfl, p, vs, rfl, h3, h4⟩ := src_tup r eI hx
        exact ⟨true, p, vs, rfl, h3, fun H3 ρ3 st3 e _ _ => ⟨vs, e.sqT h3, h4.mono e⟩⟩
    obtain ⟨t, p, vs, rfl, g1, hp⟩ := one (r1.mono e2) eI
    obtain ⟨u, q, ws, rfl, g2, hq⟩ := one r2 eJ
    exact ⟨t, u, p, q, vs, ws, rfl, g1, g2, h2 _ H2 ρ2 e2 s2 (rj_zipM hp hq)⟩
  · exact h2.elim
theorem ji_enum {xa : Ex} {p tpos : Pos} {elts : List Expr} {kk : Nat} (gx : GX X k G) (hg : Gl X "enumerate") (ha : JA X L (fun env st => evA G env xa st) a) (hs1 : starEach (a :: []) X.env = (false, eval a X.env) :: starEach [] X.env) :
    JI X L (fun env st => evIt G env (.enum xa) st) (.Tuple elts kk tpos) (.Call (.Name "enumerate" p) [a] [] pos) := by
  intro W tk
  have hm := gx.bt "enumerate" (by decide +kernel)
  refine PI.imp (pi_enumE hg hm (pa_cons (ha W tk) pa_nil hs1) hs1) ?_
  rintro σ H Q ⟨ρ, env, st, he, hs, h⟩
  simp only [evIt] at h
  refine ⟨ρ, env, st, he, hs, KI.bind h ?_⟩
  intro x st1 v1 H1 ρ1 e1 s1 r1 h1
  split at h1
  · rename_i I eI
    cases hx : tupOf x with
    | none =>
      obtain ⟨p, rfl, hp⟩ := src_list (p := 0) (vs := []) s1 r1 eI hx
      obtain ⟨vs, g1, _⟩ := hp H1 ρ1 st1 (Ext.refl _ _) s1 (src_live eI)
      exact ⟨p, vs, rfl, .inl ⟨g1, h1 _ H1 ρ1 e1 s1 (rj_enumL hp)⟩⟩
    | some xs =>
      obtain ⟨rfl, p, vs, rfl, h3, h4⟩ := src_tup r1 eI hx
      exact ⟨p, vs, rfl, .inr ⟨h3, h1 _ H1 ρ1 e1 s1 (rj_enumT h3 h4)⟩⟩
  · exact h1.elim
noncomputable def gD (K : PySem.W.Frag) (mg : Str → Option Value) (L : LT) (t : Tg) : TG := fun v σ H Q => ∃ ρ env x env', REnv K mg L H ρ env σ ∧ RD K mg H ρ x v ∧ asgD t x env = some env' ∧
  ∀ σ', REnv K mg L H ρ env' σ' → (∀ vs, (∀ i ∈ slots t, i ∈ vs) → wipe σ' vs = wipe σ vs) → Q σ' H
noncomputable def gDs (K : PySem.W.Frag) (mg : Str → Option Value) (L : LT) (t : Tgs) : TGs := fun vs σ H Q => ∃ ρ env xs env', REnv K mg L H ρ env σ ∧ RDs K mg H ρ xs vs ∧ asgDs t xs env = some env' ∧
  ∀ σ', REnv K mg L H ρ env' σ' → (∀ vs, (∀ i ∈ slotss t, i ∈ vs) → wipe σ' vs = wipe σ vs) → Q σ' H
noncomputable abbrev JG (X : Cx) (L : LT) (t : Tg) (e : Expr) : Prop := PG X e (gD X.K X.mg L t)
noncomputable abbrev JGs (X : Cx) (L : LT) (t : Tgs) (es : List Expr) : Prop := PGs X es (gDs X.K X.mg L t)
theorem PG.imp {X : Cx} {e : Expr} {t t' : TG} (h : PG X e t) (i : ∀ v σ H Q, t' v σ H Q → t v σ H Q) : PG X e t' := ⟨fun pins s σ H v u Q I r q => h.run pins s σ H v u Q I r (i v σ H Q q)⟩
theorem PGs.imp {X : Cx} {e : List Expr} {t t' : TGs} (h : PGs X e t) (i : ∀ v σ H Q, t' v σ H Q → t v σ H Q) : PGs X e t' := ⟨fun pins s σ H v u Q I r q => h.run pins s σ H v u Q I r (i v σ H Q q)⟩
theorem wipe_set {σ : L2.St} {i : Nat} {x : Option V} : ∀ {vs : List Nat}, i ∈ vs → wipe (σ.set i x) vs = wipe σ vs
  | v :: vs, h => by
    unfold wipe
    by_cases e : i ∈ vs
    · rw [wipe_set e]
    · have : i = v := by
        rcases List.mem_cons.mp h with h | h
        · exact h
        · exact absurd h e
      subst this
      have go : ∀ (vs : List Nat), (wipe (σ.set i x) vs).set i none = (wipe σ vs).set i none := by
        intro vs
        induction vs with
        | nil => simp [wipe]
        | cons w ws ih =>
          unfold wipe
          by_cases e : w = i
          · subst e
            simp only [List.set_set]
            exact ih
          · rw [List.set_comm _ _ e, ih, List.set_comm _ _ (Ne.symm e)]
      exact go vs
theorem jg_nm {i : Nat} {x : Str} (hN : X.N.Nodup) (hi : X.N[i]? = some x) (hx : Loc X.env.scope x) (hf : X.fn x = true ∨ X.env.scope.names.lookup x = some .local) (hL : L i = none) : JG X L (.nm i) (.Name x pos) := by
  refine PG.imp (pg_name hN hi hx hf) ?_
  rintro v σ H Q ⟨ρ, env, d, env', he, r, ea, q⟩
  simp only [asgD] at ea
  split at ea
  · cases ea
    exact q _ (he.set r i hL) fun vs hv => wipe_set (hv i (by simp [slots]))
  · cases ea
theorem jgs_nil : JGs X L .nil [] := by
  refine PGs.imp pgs_nil ?_
  rintro v σ H Q ⟨ρ, env, xs, env', he, r, ea, q⟩
  cases r with
  | nil =>
    simp only [asgDs] at ea
    cases ea
    exact ⟨rfl, q σ he fun _ _ => rfl⟩
  | cons _ _ => simp [asgDs] at ea
theorem jgs_cons {t : Tg} {r : Tgs} (h1 : JG X L t e) (h2 : JGs X L r es) (hs : (assignEach (e :: es) X.env).map (·.2) = assign e X.env :: (assignEach es X.env).map (·.2)) : JGs X L (.cons t r) (e :: es) := by
  refine PGs.imp (pgs_cons h1 h2 hs) ?_
  rintro v σ H Q ⟨ρ, env, xs, env', he, rr, ea, q⟩
  cases rr with
  | nil => simp [asgDs] at ea
  | cons r1 r2 =>
    simp only [asgDs] at ea
    obtain ⟨e2, ea, eb⟩ := Option.bind_eq_some_iff.mp ea
    refine ⟨_, _, rfl, ρ, env, _, e2, he, r1, ea, fun σ2 he2 hw2 => ⟨ρ, e2, _, env', he2, r2, eb, fun σ3 he3 hw3 => q σ3 he3 fun vs hv => ?_⟩⟩
    rw [hw3 vs fun i hi => hv i (by simp [slotss, hi]), hw2 vs fun i hi => hv i (by simp [slotss, hi])]
noncomputable def tgsLen : Tgs → Nat
  | .nil => 0
  | .cons _ r => tgsLen r + 1
theorem asgDs_len : ∀ {t : Tgs} {xs : List D} {e e' : Env}, asgDs t xs e = some e' → xs.length = tgsLen t
  | .nil, [], _, _, _ => rfl
  | .nil, _ :: _, _, _, h => by simp [asgDs] at h
  | .cons _ _, [], _, _, h => by simp [asgDs] at h
  | .cons t r, x :: xs, e, e', h => by
    simp only [asgDs] at h
    obtain ⟨e2, _, eb⟩ := Option.bind_eq_some_iff.mp h
    simp [tgsLen, asgDs_len eb]
theorem jg_tup {ts : Tgs} {n kk : Nat} (hc : X.calm = true) (h : JGs X L ts es) (hn : (assignEach es X.env).length = tgsLen ts) (hst : (assignEach es X.env).findIdx? (·.1) = none) : JG X L (.tup ts) (.Tuple es kk pos) := by
  refine PG.imp (pg_tup hc h hn hst) ?_
  rintro v σ H Q ⟨ρ, env, d, env', he, r, ea, q⟩
  simp only [asgD] at ea
  split at ea
  · rename_i xs
    obtain ⟨a, vs, rfl, h1, h2⟩ := r.tup'
    refine ⟨a, vs, rfl, h1, ?_, ρ, env, xs, env', he, h2, ea, fun σ' h3 h4 => q σ' h3 fun vs hv => h4 vs (by simpa [slots] using hv)⟩
    rw [← h2.length, asgDs_len ea]
  · cases ea
end
end Ev
namespace Ev
open PySem PySem.Spec PyProof.Rows L2
variable {L : LT}
section
variable {K : PySem.W.Frag} {mg : Str → Option Value} {ρ ρ' ρ1 : List Addr} {H H' H1 : Hp} {D : Addr} {o : HO} {st : Stt}
theorem RD.move (im : ∀ a o, H a = some o → Imm o → H' a = some o) (go : ∀ (l : Nat) (a : Addr), ρ[l]? = some a → ρ'[l]? = some a) {x : Ev.D} {v : V} (h : RD K mg H ρ x v) : RD K mg H' ρ' x v := by
  have rd : ∀ {a : Addr} {u : HO}, Rd H a u → Imm u → Rd H' a u := fun {a u} h hi => by
    rcases h with h | ⟨o, h⟩
    · exact .inl (im a _ h hi)
    · exact .inr ⟨o, im a _ h trivial⟩
  have sT : ∀ {a : Addr} {xs : List V}, SqT K H a xs → SqT K H' a xs := fun h => by
    rcases h with h | h
    · exact .inl (rd h trivial)
    · exact .inr h
  have sR : ∀ {a : Addr} {xs : List V}, SqR K H a xs → SqR K H' a xs := fun h => by
    rcases h with ⟨o, h⟩ | h
    · exact .inl ⟨o, im _ _ h trivial⟩
    · exact .inr h
  exact (RD.rec (motive_1 := fun x v _ => RD K mg H' ρ' x v) (motive_2 := fun xs vs _ => RDs K mg H' ρ' xs vs)
    .non .bl .int .str .ty (fun h _ t => .tup (sT h) t) (fun h _ t => .rol (sR h) t) (fun h => .loc (go _ _ h)) .obj (fun h1 h2 => .exn0 h1 (im _ _ h2 trivial)) (fun h1 h2 h3 _ r => .exn1 h1 (im _ _ h2 trivial) (im _ _ h3 trivial) r) .nil (fun _ _ a b => .cons a b) h)
theorem RDs.move (im : ∀ a o, H a = some o → Imm o → H' a = some o) (go : ∀ (l : Nat) (a : Addr), ρ[l]? = some a → ρ'[l]? = some a) {xs : List Ev.D} {vs : List V} (h : RDs K mg H ρ xs vs) : RDs K mg H' ρ' xs vs := by
  induction xs generalizing vs with
  | nil => cases h; exact .nil
  | cons x xs ih => cases h with
    | cons a t => exact .cons (a.move im go) (ih t)
theorem RKs.move (im : ∀ a o, H a = some o → Imm o → H' a = some o) (go : ∀ (l : Nat) (a : Addr), ρ[l]? = some a → ρ'[l]? = some a) {κ : Type} {xs : List (κ × Ev.D)} {vs : List (κ × V)} (h : RKs K mg H ρ xs vs) : RKs K mg H' ρ' xs vs := by
  induction h with
  | nil => exact .nil
  | cons h _ ih => exact .cons (h.move im go) ih
theorem RO.move (im : ∀ a o, H a = some o → Imm o → H' a = some o) (go : ∀ (l : Nat) (a : Addr), ρ[l]? = some a → ρ'[l]? = some a) {u : Ob} {a : Addr} (h : RO K mg H ρ u a) (k : H' a = H a) : RO K mg H' ρ' u a := by
  cases h with
  | lst h1 h2 => exact .lst (k.trans h1) (h2.move im go)
  | dic h1 h2 => exact .dic (k.trans h1) (h2.move im go)
  | ins h0 h1 h2 => exact .ins h0 (k.trans h1) (h2.move im go)
theorem imm_poke {vs : List V} (h : H D = some (.lst vs)) : ∀ a u, H a = some u → Imm u → upd H D o a = some u := fun a u q i => by
  by_cases e : a = D
  · subst e; rw [h] at q; cases q; exact i.elim
  · rw [upd_ne e]; exact q
theorem RS.poke {vs : List V} (s : RS K mg H ρ st) (n : D ∉ ρ) (h : H D = some (.lst vs)) : RS K mg (upd H D o) ρ st :=
  ⟨s.tab.poke h (fun ps z => by cases z) (fun φ z => by cases z), s.len, s.nd, fun l a u h1 h2 => (s.at' l a u h1 h2).move (imm_poke h) (fun _ _ q => q) (upd_ne fun e => n (e ▸ List.mem_of_getElem? h1))⟩
theorem Ext.poke (e : Ext ρ H ρ' H') (h : H D = none) : Ext ρ H ρ' (upd H' D o) where
  pre := e.pre
  new := e.new
  out := fun a u q n nt => by rw [upd_ne (ne_of_none q h)]; exact e.out a u q n nt
  imm := fun a u q n => by rw [upd_ne (ne_of_none q h)]; exact e.imm a u q n
  kept := fun a q => by
    by_cases z : a = D
    · rw [z]; exact h
    · rw [upd_ne z] at q; exact e.kept a q
  tb := fun a ps q => by
    obtain ⟨m, h1⟩ := e.tb a ps q
    exact ⟨m, by rw [upd_ne (ne_of_none q h)]; exact h1⟩
theorem Ext.notin (e : Ext ρ H ρ' H') (n : D ∉ ρ) (h : H D = some o) : D ∉ ρ' := fun m => by
  rcases e.new D m with q | q
  · exact n q
  · rw [h] at q; cases q
theorem wipeE_len (e : Env) : ∀ vs, (wipeE e vs).length = e.length
  | [] => rfl
  | i :: r => by simp [wipeE, wipeE_len e r]
theorem wipeE_get {e : Env} {i : Nat} {x : Ev.D} : ∀ {vs}, (wipeE e vs)[i]? = some (some x) → e[i]? = some (some x) ∧ i ∉ vs
  | [], h => ⟨h, by simp⟩
  | v :: vs, h => by
    unfold wipeE at h
    by_cases hi : v = i
    · subst hi
      by_cases hv : v < (wipeE e vs).length
      · rw [List.getElem?_set_self hv] at h; cases h
      · rw [List.getElem?_eq_none (by simpa using hv)] at h; cases h
    · rw [List.getElem?_set_ne hi] at h
      obtain ⟨h1, h2⟩ := wipeE_get h
      exact ⟨h1, by simp only [List.mem_cons, not_or]; exact ⟨fun e => hi e.symm, h2⟩⟩
theorem wipe_get {σ : L2.St} {i : Nat} : ∀ {vs : List Nat}, i ∉ vs → (wipe σ vs)[i]? = σ[i]?
  | [], _ => rfl
  | v :: vs, h => by
    unfold wipe
    simp only [List.mem_cons, not_or] at h
    rw [List.getElem?_set_ne (fun e => h.1 e.symm), wipe_get h.2]
theorem wipe_in {σ : L2.St} {i : Nat} : ∀ {vs : List Nat}, i ∈ vs → (L2.wipe σ vs)[i]? = if i < σ.length then some none else none
  | v :: vs, h => by
    unfold L2.wipe
    by_cases e : v = i
    · subst e
      by_cases q : v < σ.length
      · rw [List.getElem?_set_self (by rw [wipe_length]; exact q), if_pos q]
      · rw [if_neg q, List.getElem?_eq_none (by rw [List.length_set, wipe_length]; omega)]
    · rw [List.getElem?_set_ne e]
      exact wipe_in ((List.mem_cons.mp h).resolve_left fun z => e z.symm)
theorem wipe_wipe {σ : L2.St} {vs : List Nat} : L2.wipe (L2.wipe σ vs) vs = L2.wipe σ vs := by
  apply List.ext_getElem?
  intro i
  by_cases h : i ∈ vs
  · rw [wipe_in h, wipe_in h, wipe_length]
  · rw [wipe_get h]
theorem REnv.wipe {env : Env} {σ : L2.St} (h : REnv K mg L H ρ env σ) (vs : List Nat) (hL : ∀ i ∈ vs, L i = none) : REnv K mg L H ρ (wipeE env vs) (L2.wipe σ vs) := by
  refine ⟨⟨by rw [wipeE_len, wipe_length, h.1.1], fun i f q => ?_⟩, fun i x q => ?_⟩
  · rw [wipe_get (fun m => by rw [hL i m] at q; cases q)]
    exact h.1.2 i f q
  obtain ⟨q1, q2⟩ := wipeE_get q
  obtain ⟨v, a, b⟩ := h.2 i x q1
  exact ⟨v, by rw [wipe_get q2]; exact a, b⟩
end
section
variable {K : PySem.W.Frag} {mg : Str → Option Value} {W : WX} {σ : L2.St} {H H1 H0 : Hp} {ρ ρ1 : List Addr} {st : Stt} {α β γ δ : Type}
theorem KI.bindV {rel2 : Rl γ δ} {Q : δ → Hp → Prop} {R : L2.It → Hp → Prop} {m : Rs Its} {k : Its → M γ} (h : KR K mg rel2 W σ Q H ρ (m.bind k))
    (hk : ∀ I st J H1 ρ1, m = .ok I st → Ext ρ H ρ1 H1 → RS K mg H1 ρ1 st → RJ K mg H1 ρ1 I J → KR K mg rel2 W σ Q H ρ (k I st) → R J H1) : KI K mg W σ R H ρ m := by
  cases m with
  | ok a st => exact fun b H' ρ' e s r => hk a st b H' ρ' rfl e s r h
  | exc c fs st => exact h
  | bad => exact h
theorem Rs.bind_ok {m : Rs α} {k : α → M γ} {z : γ} {s : Stt} (h : m.bind k = .ok z s) : ∃ a s1, m = .ok a s1 ∧ k a s1 = .ok z s := by
  cases m with
  | ok a s1 => exact ⟨a, s1, rfl, h⟩
  | exc c fs s1 => cases h
  | bad => cases h
/-- a run that ends well takes any wish -/
theorem KR.ok {rel : Rl α β} {R : β → Hp → Prop} {m : Rs α} {a : α} {st' : Stt} (h : m = .ok a st') (hk : ∀ b H1 ρ1, Ext ρ H ρ1 H1 → RS K mg H1 ρ1 st' → rel H H1 ρ1 a b → R b H1) : KR K mg rel W σ R H ρ m := by
  subst h
  exact hk
end
noncomputable def JTs (X : Cx) (L : LT) (m : Env → Stt → Rs Bool) (ifs : List Expr) : Prop := ∀ W, Takes X W → PTs X ifs (tR X.K X.mg L rEq m W)
theorem PTs.imp {X : Cx} {e : List Expr} {t t' : TT} (h : PTs X e t) (i : ∀ σ H Q, t' σ H Q → t σ H Q) : PTs X e t' := ⟨fun pins s σ H Q I q => h.run pins s σ H Q I (i σ H Q q)⟩
/-- a comprehension's test -/
noncomputable def evIf (G : Gam) (env : Env) (f : Eo) (st : Stt) : Rs Bool := match f with
  | .no => .ok true st
  | .so c => (evA G env c st).bind truA
section
variable {X : Cx} {k : Nat} {G : Gam} {a b c e tg iter elt : Expr} {es ifs : List Expr} {pos : Pos}
theorem jts_no : JTs X L (fun env st => evIf G env .no st) [] := by
  intro W tk
  refine PTs.imp pts_nil ?_
  rintro σ H Q ⟨ρ, env, st, he, hs, h⟩
  exact h true H ρ (Ext.refl _ _) hs rfl
theorem jts_so {xc : Ex} (h : JT X L (fun env st => tst G env xc st) c) : JTs X L (fun env st => evIf G env (.so xc) st) [c] := fun W tk => pts_one (h W tk)
theorem acc_len {live : List (Nat × List Ev.D)} {step : Ev.D → Stt → Rs (Option Ev.D)} {x : Ev.D} {r zs : List Ev.D} {st st' : Stt} (h : lcGo live step (x :: r) st = .ok zs st') :
    liveOk st live = true ∧ ∃ y st1 ys, step x st = .ok y st1 ∧ lcGo live step r st1 = .ok ys st' ∧ zs = (match y with
      | some z => z :: ys
      | none => ys) := by
  simp only [lcGo] at h
  split at h
  · rename_i lv
    refine ⟨lv, ?_⟩
    split at h
    · rename_i y st1 e1
      split at h
      · rename_i ys st2 e2
        cases h
        exact ⟨y, st1, ys, e1, e2, rfl⟩
      · cases h
    · cases h
  · cases h
/-- one turn's run -/
noncomputable def lcStep (G : Gam) (env : Env) (t : Tg) (f : Eo) (xe : Ex) (x : Ev.D) (st : Stt) : Rs (Option Ev.D) :=
  (ofO (asgD t x env) st).bind fun e2 st => (evIf G e2 f st).bind fun b st => if b = true then (evE G e2 xe st).bind fun z st => .ok (some z) st else .ok none st
theorem evA_lc {t : Tg} {xi : It} {f : Eo} {xe : Ex} {ow : List Nat} {env : Env} {st : Stt} : evA G env (.lc xe t xi f ow) st = (evIt G env xi st).bind fun I st => (lcGo I.live (lcStep G (wipeE env ow) t f xe) I.xs st).bind fun ys st => if lenOk I.xs.length = true then .ok (.l ys) st else .bad := by
  simp only [evA]
  congr 1
  funext I st
  congr 2
  funext x st
  unfold lcStep
  congr 1
  funext e2 st
  cases f <;> simp only [evIf] <;> congr 1 <;> funext b st <;> cases b <;> simp only [Bool.false_eq_true, if_true, if_false, evE] <;> cases evA G e2 xe st <;> rfl
noncomputable abbrev tLcE (X : Cx) (G : Gam) (W : WX) (t : Tg) (xi : It) (f : Eo) (xe : Ex) (ow : List Nat) : TE := tLc (tI X.K X.mg L (fun env st => evIt G env xi st) W) (gD X.K X.mg L t) (tR X.K X.mg L rEq (fun env st => evIf G env f st) (fun _ _ _ _ => False)) (tR X.K X.mg L (rD X.K X.mg) (fun env st => evE G env xe st) (fun _ _ _ _ => False)) ow
theorem lc_imp {W : WX} {t : Tg} {xi : It} {f : Eo} {xe : Ex} {own : List (Str × Nat)} (hsl : ∀ i ∈ slots t, i ∈ own.map (·.2)) (hL : ∀ i ∈ own.map (·.2), L i = none) :
    ∀ σ H Q, tR X.K X.mg L (RA X.K X.mg) (fun env st => evA G env (.lc xe t xi f (own.map (·.2))) st) W σ H Q → tLcE (L := L) X G W t xi f xe (own.map (·.2)) σ H Q := by
  rintro σ H Q ⟨ρ, env, st, hE, hS, h⟩
  have h : KR X.K X.mg (RA X.K X.mg) W σ Q H ρ (evA G env (.lc xe t xi f (own.map (·.2))) st) := h
  rw [evA_lc] at h
  refine ⟨ρ, env, st, hE, hS, KI.bindV h ?_⟩
  intro I st1 J H1 ρ1 _ e1 s1 rj h1 D hD
  have e10 : H D = none := e1.kept D hD
  -- the block's run ends well
  have hrun : ∃ ys st', lcGo I.live (lcStep G (wipeE env (own.map (·.2))) t f xe) I.xs st1 = .ok ys st' ∧ lenOk I.xs.length = true ∧ KR X.K X.mg (RA X.K X.mg) W σ Q H ρ (.ok (.l ys) st') := by
    cases q : lcGo I.live (lcStep G (wipeE env (own.map (·.2))) t f xe) I.xs st1 with
    | ok ys st' =>
      rw [q] at h1
      have h1 : KR X.K X.mg (RA X.K X.mg) W σ Q H ρ (if lenOk I.xs.length = true then .ok (.l ys) st' else .bad) := h1
      split at h1
      · rename_i c
        exact ⟨ys, st', rfl, c, h1⟩
      · exact h1.elim
    | exc c fs st' =>
      exfalso
      cases q2 : I.xs with
      | nil => rw [q2] at q; simp only [lcGo] at q; split at q <;> cases q
      | cons x r =>
        rw [q2] at q; simp only [lcGo] at q
        split at q
        · split at q
          · split at q <;> cases q
          · cases q
        · cases q
    | bad => rw [q] at h1; exact h1.elim
  obtain ⟨ys, st', hgo, hlen, hfin⟩ := hrun
  have hlen : I.xs.length ≤ 1000000 := of_decide_eq_true hlen
  have hE1 := hE.mono e1
  refine ⟨fun i m H2 => m = I.xs.length - i ∧ i ≤ I.xs.length ∧ ∃ ρ2 st2 acc vacc zs, Ext ρ1 H1 ρ2 H2 ∧ RS X.K X.mg H2 ρ2 st2 ∧ D ∉ ρ2 ∧ H2 D = some (.lst vacc) ∧ RDs X.K X.mg H2 ρ2 acc vacc ∧ acc.length ≤ i ∧
    lcGo I.live (lcStep G (wipeE env (own.map (·.2))) t f xe) (I.xs.drop i) st2 = .ok zs st' ∧ ys = acc ++ zs, ⟨I.xs.length, rfl, Nat.zero_le _, ρ1, st1, [], [], ys, Ext.fresh hD, s1.grow hD, s1.fresh hD, upd_same, .nil, Nat.le_refl _, hgo, rfl⟩, ?_⟩
  rintro i m H2 ⟨rfl, hle, ρ2, st2, acc, vacc, zs, x2, s2, n2, d2, r2, l2, g2, rfl⟩
  by_cases hlt : i < I.xs.length
  · right
    have hx : I.xs[i]? = some I.xs[i] := List.getElem?_eq_getElem hlt
    rw [List.drop_eq_getElem_cons hlt] at g2
    obtain ⟨lv, y, st3, zs3, e3, g3, rfl⟩ := acc_len g2
    refine ⟨rj.go i _ H2 ρ2 st2 x2 s2 lv hx, fun H' => ∃ ρ2 st2 acc vacc zs, Ext ρ1 H1 ρ2 H' ∧ RS X.K X.mg H' ρ2 st2 ∧ D ∉ ρ2 ∧ H' D = some (.lst vacc) ∧ RDs X.K X.mg H' ρ2 acc vacc ∧ acc.length ≤ i + 1 ∧
      lcGo I.live (lcStep G (wipeE env (own.map (·.2))) t f xe) (I.xs.drop (i + 1)) st2 = .ok zs st' ∧ _ = acc ++ zs, fun H' z => ⟨_, by omega, rfl, hlt, z⟩, fun v H3 yy => ?_⟩
    obtain ⟨x3, s3, r3⟩ := rj.yld i _ H2 ρ2 st2 v H3 x2 s2 lv hx yy
    unfold lcStep at e3
    obtain ⟨env2, st4, e4, e31⟩ := Rs.bind_ok e3
    have e4' : asgD t I.xs[i] (wipeE env (own.map (·.2))) = some env2 ∧ st2 = st4 := by
      cases q : asgD t I.xs[i] (wipeE env (own.map (·.2))) with
      | none => rw [q] at e4; cases e4
      | some z => rw [q] at e4; cases e4; exact ⟨rfl, rfl⟩
    obtain ⟨e41, e42⟩ := e4'
    rw [e42] at s3
    obtain ⟨bb, st5, e5, e3⟩ := Rs.bind_ok e31
    refine ⟨ρ2, _, _, env2, ((hE1.mono (x2.trans x3)).wipe _ hL), r3, e41, fun σ2 he2 hw2 => ⟨(hw2 _ hsl).trans wipe_wipe, ρ2, env2, _, he2, s3, KR.ok e5 ?_⟩⟩
    intro b' H5 ρ5 x5 s5 hb
    subst hb
    have d3 : H3 D = some (.lst vacc) := x3.out _ _ d2 n2 fun ps z => by cases z
    have n3 : D ∉ ρ2 := n2
    have d5 : H5 D = some (.lst vacc) := x5.out _ _ d3 n3 fun ps z => by cases z
    have n5 : D ∉ ρ5 := x5.notin n3 d3
    cases bb with
    | false =>
      rw [if_neg Bool.false_ne_true] at e3 ⊢
      cases e3
      exact ⟨ρ5, _, acc, vacc, zs3, (x2.trans x3).trans x5, s5, n5, d5, (r2.mono x3).mono x5, by omega, g3, rfl⟩
    | true =>
      rw [if_pos rfl] at e3 ⊢
      obtain ⟨z, st6, e6, e3⟩ := Rs.bind_ok e3
      cases e3
      refine ⟨ρ5, env2, _, he2.mono x5, s5, KR.ok e6 ?_⟩
      intro y' H6 ρ6 x6 s6 ry
      have d6 : H6 D = some (.lst vacc) := x6.out _ _ d5 n5 fun ps z => by cases z
      have n6 : D ∉ ρ6 := x6.notin n5 d5
      have racc := ((r2.mono x3).mono x5).mono x6
      refine ⟨vacc, d6, ?_, ρ6, _, acc ++ [z], vacc ++ [y'], zs3, (((x2.trans x3).trans x5).trans x6).poke hD, s6.poke n6 d6, n6, upd_same, ?_, ?_, g3, by simp⟩
      · rw [← racc.length]
        have : acc.length ≤ 1000000 := by omega
        exact Nat.lt_of_le_of_lt this (by decide)
      · exact (racc.append (.cons ry .nil)).move (imm_poke d6) (fun _ _ q => q)
      · simp; omega
  · left
    have hi2 : i = I.xs.length := by omega
    subst hi2
    rw [List.drop_length] at g2
    simp only [lcGo] at g2
    split at g2
    · rename_i lv
      cases g2
      rw [List.append_nil] at hfin
      exact ⟨rj.stop H2 ρ2 _ x2 s2 lv, hfin _ H2 ρ2 (e1.trans x2) s2 (.l n2 e10 d2 r2)⟩
    · cases g2
theorem ja_lc {t : Tg} {xi : It} {f : Eo} {xe : Ex} {scope : Scope} {own : List (Str × Nat)} (gd : Gd X k) (hi : JI X L (fun env st => evIt G env xi st) tg iter) (ok : BlkOk X.N X.env.scope scope own)
    (hg : ∀ (s : Shared) (H : Hp) (C : Addr) (cl : List (Str × Addr)) (fp : List Addr), JG (X.blk s H scope (compEnvC scope cl C X.env) fp) L t tg)
    (ht : ∀ (s : Shared) (H : Hp) (C : Addr) (cl : List (Str × Addr)) (fp : List Addr), JTs (X.blk s H scope (compEnvC scope cl C X.env) fp) L (fun env st => evIf G env f st) ifs)
    (he : ∀ (s : Shared) (H : Hp) (C : Addr) (cl : List (Str × Addr)) (fp : List Addr), JA (X.blk s H scope (compEnvC scope cl C X.env) fp) L (fun env st => evA G env xe st) elt)
    (hsl : ∀ i ∈ slots t, i ∈ own.map (·.2)) (hL : ∀ i ∈ own.map (·.2), L i = none) (hs : ∀ x, foldedSetIterable iter X.env x = pure x) :
    JA X L (fun env st => evA G env (.lc xe t xi f (own.map (·.2))) st) (.ListComp elt [⟨tg, iter, ifs, 0⟩] scope pos) := fun W tk =>
  PE.imp (pe_lc gd.calm gd.nd (hi W tk) ok hg (fun s H C cl fp => ht s H C cl fp _ L2.takes0) (fun s H C cl fp => je_of (he s H C cl fp) _ L2.takes0) hs) (lc_imp hsl hL)
end
end Ev
namespace Ev
open PySem PySem.Spec PyProof.Rows L2
variable {L : LT}
noncomputable def KS (K : PySem.W.Frag) (mg : Str → Option Value) (L : LT) (W : WX) (E : Ends) (H : Hp) (ρ : List Addr) : Rf → Prop
  | .ok .nx e st => ∀ σ' H' ρ', Ext ρ H ρ' H' → RS K mg H' ρ' st → REnv K mg L H' ρ' e σ' → E.nx σ' H'
  | .ok .bk e st => ∀ σ' H' ρ', Ext ρ H ρ' H' → RS K mg H' ρ' st → REnv K mg L H' ρ' e σ' → E.bk σ' H'
  | .ok .ct e st => ∀ σ' H' ρ', Ext ρ H ρ' H' → RS K mg H' ρ' st → REnv K mg L H' ρ' e σ' → E.ct σ' H'
  | .ok (.rt d) e st => ∀ v H' ρ', Ext ρ H ρ' H' → RS K mg H' ρ' st → RD K mg H' ρ' d v → E.rt v H'
  | .exc c fs e st => ∀ cls d σ' H' ρ', Ext ρ H ρ' H' → RS K mg H' ρ' st → REnv K mg L H' ρ' e σ' → RX K mg H' ρ' c fs cls d → W cls d σ' H'
  | .bad => False
noncomputable def tS (K : PySem.W.Frag) (mg : Str → Option Value) (L : LT) (m : Env → Stt → Rf) (W : WX) : TS := fun E σ H => ∃ ρ env st, REnv K mg L H ρ env σ ∧ RS K mg H ρ st ∧ KS K mg L W E H ρ (m env st)
noncomputable def JS (X : Cx) (L : LT) (m : Env → Stt → Rf) (s : Stmt) : Prop := ∀ W, Takes X W → PS X s (tS X.K X.mg L m W)
noncomputable def JSs (X : Cx) (L : LT) (m : Env → Stt → Rf) (ss : List Stmt) : Prop := ∀ W, Takes X W → PSs X ss (tS X.K X.mg L m W)
section
variable {K : PySem.W.Frag} {mg : Str → Option Value} {W : WX} {E E' : Ends} {H H1 H0 : Hp} {ρ ρ1 : List Addr} {σ : L2.St} {st st' : Stt} {env : Env} {α β : Type}
theorem KS.ext {m : Rf} (h : KS K mg L W E H ρ m) (e : Ext ρ H ρ1 H1) : KS K mg L W E H1 ρ1 m := by
  cases m with
  | ok f e' st => cases f with
    | nx => exact fun σ' H' ρ' f s r => h σ' H' ρ' (e.trans f) s r
    | rt d => exact fun v H' ρ' f s r => h v H' ρ' (e.trans f) s r
    | bk => exact fun σ' H' ρ' f s r => h σ' H' ρ' (e.trans f) s r
    | ct => exact fun σ' H' ρ' f s r => h σ' H' ρ' (e.trans f) s r
  | exc c fs e' st => exact fun cls d σ' H' ρ' f s r x => h cls d σ' H' ρ' (e.trans f) s r x
  | bad => exact h
/-- an expression first -/
theorem KS.exp {rel : Rl α β} {Q : β → Hp → Prop} {m : Rs α} {k : α → Stt → Rf} (he : REnv K mg L H ρ env σ) (h : KS K mg L W E H ρ (m.then env k))
    (hk : ∀ a st b H1 ρ1, Ext ρ H ρ1 H1 → RS K mg H1 ρ1 st → REnv K mg L H1 ρ1 env σ → rel H H1 ρ1 a b → KS K mg L W E H1 ρ1 (k a st) → Q b H1) : KR K mg rel W σ Q H ρ m := by
  cases m with
  | ok a st => exact fun b H' ρ' e s r => hk a st b H' ρ' e s (he.mono e) r (KS.ext h e)
  | exc c fs st => exact fun cls d H' ρ' e s x => h cls d σ H' ρ' e s (he.mono e) x
  | bad => exact h
/-- .. the wish as it stood ahead -/
theorem KS.exp0 {rel : Rl α β} {Q : β → Hp → Prop} {m : Rs α} {k : α → Stt → Rf} (he : REnv K mg L H ρ env σ) (h : KS K mg L W E H ρ (m.then env k))
    (hk : ∀ a st b H1 ρ1, Ext ρ H ρ1 H1 → RS K mg H1 ρ1 st → REnv K mg L H1 ρ1 env σ → rel H H1 ρ1 a b → KS K mg L W E H ρ (k a st) → Q b H1) : KR K mg rel W σ Q H ρ m := by
  cases m with
  | ok a st => exact fun b H' ρ' e s r => hk a st b H' ρ' e s (he.mono e) r h
  | exc c fs st => exact fun cls d H' ρ' e s x => h cls d σ H' ρ' e s (he.mono e) x
  | bad => exact h
theorem REnv.name {p : Addr} (h : REnv K mg L H ρ env σ) : REnv K mg L H (ρ ++ [p]) env σ := ⟨⟨h.1.1, fun i f q => by
  obtain ⟨a, t, rfl⟩ := h.1.2 i f q
  exact ⟨a, t ++ [p], by simp⟩⟩, fun i x q => let ⟨v, a, b⟩ := h.2 i x q; ⟨v, a, b.name⟩⟩
/-- a statement first -/
theorem KS.seq {m : Rf} {k : Env → Stt → Rf} (h : KS K mg L W E H ρ (m.then k))
    (hn : ∀ e st σ' H1 ρ1, Ext ρ H ρ1 H1 → RS K mg H1 ρ1 st → REnv K mg L H1 ρ1 e σ' → KS K mg L W E H1 ρ1 (k e st) → E'.nx σ' H1)
    (hr : E'.rt = E.rt) (hb : E'.bk = E.bk) (hc : E'.ct = E.ct) : KS K mg L W E' H ρ m := by
  cases m with
  | ok f e' st => cases f with
    | nx => exact fun σ' H' ρ' f s r => hn _ _ σ' H' ρ' f s r (KS.ext h f)
    | rt d => intro v H' ρ' f s r; rw [hr]; exact h v H' ρ' f s r
    | bk => intro σ' H' ρ' f s r; rw [hb]; exact h σ' H' ρ' f s r
    | ct => intro σ' H' ρ' f s r; rw [hc]; exact h σ' H' ρ' f s r
  | exc c fs e' st => exact h
  | bad => exact h
/-- a loop's turn -/
theorem KS.turn {m : Rf} {k : Env → Stt → Rf} (h : KS K mg L W E H ρ (match m with
      | .ok .nx e st => k e st
      | .ok .ct e st => k e st
      | .ok .bk e st => .ok .nx e st
      | r => r))
    (hn : ∀ e st σ' H1 ρ1, Ext ρ H ρ1 H1 → RS K mg H1 ρ1 st → REnv K mg L H1 ρ1 e σ' → KS K mg L W E H1 ρ1 (k e st) → E'.nx σ' H1)
    (hr : E'.rt = E.rt) (hb : E'.bk = E.nx) (hc : E'.ct = E'.nx) : KS K mg L W E' H ρ m := by
  cases m with
  | ok f e' st => cases f with
    | nx => exact fun σ' H' ρ' f s r => hn _ _ σ' H' ρ' f s r (KS.ext h f)
    | rt d => intro v H' ρ' f s r; rw [hr]; exact h v H' ρ' f s r
    | bk => intro σ' H' ρ' f s r; rw [hb]; exact h σ' H' ρ' f s r
    | ct => intro σ' H' ρ' f s r; rw [hc]; exact hn _ _ σ' H' ρ' f s r (KS.ext h f)
  | exc c fs e' st => exact h
  | bad => exact h
end
section
variable {X : Cx} {k : Nat} {G : Gam} {a b c e tg iter elt o : Expr} {es ifs : List Expr} {pos : Pos} {s : Stmt} {ss : List Stmt}
theorem jss_nil : JSs X L (fun env st => evSs G .nil env st) [] := by
  intro W tk
  refine PSs.imp pss_nil ?_
  rintro E σ H ⟨ρ, env, st, he, hs, h⟩
  exact h σ H ρ (Ext.refl _ _) hs he
theorem jss_cons {xs : Sx} {xr : Ss} (h1 : JS X L (fun env st => evS G xs env st) s) (h2 : JSs X L (fun env st => evSs G xr env st) ss) : JSs X L (fun env st => evSs G (.cons xs xr) env st) (s :: ss) := by
  intro W tk
  refine PSs.imp (pss_cons (h1 W tk) (h2 W tk)) ?_
  rintro E σ H ⟨ρ, env, st, he, hs, h⟩
  refine ⟨ρ, env, st, he, hs, KS.seq (E := E) (m := evS G xs env st) (k := fun e st => evSs G xr e st) (by simpa only [evSs] using h) ?_ rfl rfl rfl⟩
  intro e st' σ' H1 ρ1 e1 s1 r1 h1
  exact ⟨ρ1, e, st', r1, s1, h1⟩
theorem js_pass : JS X L (fun env st => evS G .pass env st) (.Pass pos) := by
  intro W tk
  refine PS.imp ps_pass ?_
  rintro E σ H ⟨ρ, env, st, he, hs, h⟩
  exact h σ H ρ (Ext.refl _ _) hs he
theorem js_doc {x : Str} {j : Nat} {pos' : Pos} : JS X L (fun env st => evS G .pass env st) (.Expr (.Constant (.str x) j pos) pos') := by
  intro W tk
  refine PS.imp ps_doc ?_
  rintro E σ H ⟨ρ, env, st, he, hs, h⟩
  exact h σ H ρ (Ext.refl _ _) hs he
theorem js_brk : JS X L (fun env st => evS G .brk env st) (.Break pos) := by
  intro W tk
  refine PS.imp ps_break ?_
  rintro E σ H ⟨ρ, env, st, he, hs, h⟩
  exact h σ H ρ (Ext.refl _ _) hs he
theorem js_cont : JS X L (fun env st => evS G .cont env st) (.Continue pos) := by
  intro W tk
  refine PS.imp ps_continue ?_
  rintro E σ H ⟨ρ, env, st, he, hs, h⟩
  exact h σ H ρ (Ext.refl _ _) hs he
theorem js_ret0 : JS X L (fun env st => evS G .ret0 env st) (.Return none pos) := by
  intro W tk
  refine PS.imp ps_retN ?_
  rintro E σ H ⟨ρ, env, st, he, hs, h⟩
  exact h _ H ρ (Ext.refl _ _) hs .non
theorem js_ret {xa : Ex} (ha : JA X L (fun env st => evA G env xa st) a) : JS X L (fun env st => evS G (.ret xa) env st) (.Return (some a) pos) := by
  intro W tk
  refine PS.imp (ps_ret (je_of ha W tk)) ?_
  rintro E σ H ⟨ρ, env, st, he, hs, h⟩
  refine ⟨ρ, env, st, he, hs, KS.exp (rel := rD X.K X.mg) (k := fun d st => Rf.ok (.rt d) env st) he h ?_⟩
  intro x st1 v1 H1 ρ1 e1 s1 he1 r1 h1
  exact h1 v1 H1 ρ1 (Ext.refl _ _) s1 r1
theorem js_ex {xa : Ex} (ha : JA X L (fun env st => evA G env xa st) a) (hs : swapsWith a none pos.line X.env = pure false) : JS X L (fun env st => evS G (.ex xa) env st) (.Expr a pos) := by
  intro W tk
  refine PS.imp (ps_expr (ha W tk) hs) ?_
  rintro E σ H ⟨ρ, env, st, he, hs, h⟩
  refine ⟨ρ, env, st, he, hs, KS.exp (rel := RA X.K X.mg) (k := fun _ st => Rf.ok .nx env st) he h ?_⟩
  intro x st1 v1 H1 ρ1 e1 s1 he1 r1 h1
  exact h1 σ H1 ρ1 (Ext.refl _ _) s1 he1
theorem js_if {xt : Ex} {xa xb : Ss} {t : Expr} {sa sb : List Stmt} (ht : JT X L (fun env st => tst G env xt st) t) (ha : JSs X L (fun env st => evSs G xa env st) sa) (hb : JSs X L (fun env st => evSs G xb env st) sb) :
    JS X L (fun env st => evS G (.ife xt xa xb) env st) (.If t sa sb pos) := by
  intro W tk
  refine PS.imp (ps_if (ht W tk) (ha W tk) (hb W tk)) ?_
  rintro E σ H ⟨ρ, env, st, he, hs, h⟩
  have h : KS X.K X.mg L W E H ρ (evS G (.ife xt xa xb) env st) := h
  rw [evS] at h
  refine ⟨ρ, env, st, he, hs, KS.exp (rel := rEq) he h ?_⟩
  intro x st1 v1 H1 ρ1 e1 s1 he1 r1 h1
  cases r1
  cases x with
  | true =>
    rw [if_pos rfl] at h1 ⊢
    exact ⟨ρ1, env, st1, he1, s1, h1⟩
  | false =>
    rw [if_neg Bool.false_ne_true] at h1 ⊢
    exact ⟨ρ1, env, st1, he1, s1, h1⟩
/-- name = e -/
theorem evS_nm {i : Nat} {xa : Ex} {env : Env} {st : Stt} : evS G (.asg (.nm i) xa) env st = (evE G env xa st).then env fun d st => match asgD (.nm i) d env with
    | some e => .ok .nx e st
    | none => .bad := by
  rw [evS]
  unfold evE
  cases evA G env xa st with
  | ok z s1 =>
    simp only [Rs.then, Rs.bind, asgA]
    cases z <;> simp only [allocA, Rs.bind, Rs.then] <;> (generalize asgD _ _ _ = q; cases q <;> rfl)
  | exc c fs s1 => rfl
  | bad => rfl
theorem js_asg {i : Nat} {xa : Ex} {tg : Expr} (ha : JA X L (fun env st => evA G env xa st) a) (hg : JG X L (.nm i) tg) (hs : swapsWithSole [tg] a pos.line X.env = pure false) (hw : swappedStores [tg] a X.env = pure none) (h1 : (assignEach [tg] X.env).map (·.2) = [assign tg X.env]) :
    JS X L (fun env st => evS G (.asg (.nm i) xa) env st) (.Assign [tg] a pos) := by
  intro W tk
  refine PS.imp (ps_asg (je_of ha W tk) hg hs hw h1) ?_
  rintro E σ H ⟨ρ, env, st, he, hs, h⟩
  have h : KS X.K X.mg L W E H ρ (evS G (.asg (.nm i) xa) env st) := h
  rw [evS_nm] at h
  refine ⟨ρ, env, st, he, hs, KS.exp (rel := rD X.K X.mg) he h ?_⟩
  intro x st1 v1 H1 ρ1 e1 s1 he1 r1 h1
  split at h1
  · rename_i e2 q
    exact ⟨ρ1, env, x, e2, he1, r1, q, fun σ' he2 _ => h1 σ' H1 ρ1 (Ext.refl _ _) s1 he2⟩
  · exact h1.elim
/-- y = [..] on one line, y a local -/
theorem js_setLc {i : Nat} {y : Str} {py : Pos} {t : Tg} {xi : It} {f : Eo} {xe : Ex} {scope : Scope} {own : List (Str × Nat)} {p2 : Pos} (gd : Gd X k) (hy : X.N[i]? = some y) (hyl : X.env.scope.names.lookup y = some .local)
    (hsw : swapsWith (.ListComp elt [⟨a, iter, ifs, 0⟩] scope p2) (some (.Name y py)) pos.line X.env = pure true) (hi : JI X L (fun env st => evIt G env xi st) a iter) (ok : BlkOk X.N X.env.scope scope own)
    (hg : ∀ (s : Shared) (H : Hp) (C : Addr) (cl : List (Str × Addr)) (fp : List Addr), JG (X.blk s H scope (compEnvC scope cl C X.env) fp) L t a)
    (ht : ∀ (s : Shared) (H : Hp) (C : Addr) (cl : List (Str × Addr)) (fp : List Addr), JTs (X.blk s H scope (compEnvC scope cl C X.env) fp) L (fun env st => evIf G env f st) ifs)
    (he : ∀ (s : Shared) (H : Hp) (C : Addr) (cl : List (Str × Addr)) (fp : List Addr), JA (X.blk s H scope (compEnvC scope cl C X.env) fp) L (fun env st => evA G env xe st) elt)
    (hsl : ∀ i ∈ slots t, i ∈ own.map (·.2)) (hL : ∀ i ∈ own.map (·.2), L i = none) (hLi : L i = none) (hs : ∀ x, foldedSetIterable iter X.env x = pure x) :
    JS X L (fun env st => evS G (.asg (.nm i) (.lc xe t xi f (own.map (·.2)))) env st) (.Assign [.Name y py] (.ListComp elt [⟨a, iter, ifs, 0⟩] scope p2) pos) := by
  intro W tk
  refine PS.imp (ps_setLc (g := gD X.K X.mg L t) (tt := tR X.K X.mg L rEq (fun env st => evIf G env f st) (fun _ _ _ _ => False)) (te := tR X.K X.mg L (rD X.K X.mg) (fun env st => evE G env xe st) (fun _ _ _ _ => False)) gd.calm gd.nd hy hyl hsw (hi W tk) ok hg (fun s H C cl fp => ht s H C cl fp _ L2.takes0) (fun s H C cl fp => je_of (he s H C cl fp) _ L2.takes0) hs) ?_
  rintro E σ H ⟨ρ, env, st, he, hs, h⟩
  refine lc_imp (X := X) (G := G) hsl hL σ H _ ⟨ρ, env, st, he, hs, ?_⟩
  have h : KS X.K X.mg L W E H ρ (evS G (.asg (.nm i) (.lc xe t xi f (own.map (·.2)))) env st) := h
  rw [evS] at h
  refine KS.exp0 (rel := RA X.K X.mg) he h ?_
  intro x st1 v1 H1 ρ1 e1 s1 he1 r1 h1
  have hlen : i < env.length := by
    cases q : decide (i < env.length) with
    | true => exact of_decide_eq_true q
    | false =>
      have q : ¬ i < env.length := of_decide_eq_false q
      exfalso
      cases x with
      | d x => simp only [asgA, allocA, Rs.bind, asgD, if_neg q, ofO] at h1; exact h1.elim
      | l x => simp only [asgA, allocA, Rs.bind, asgD, if_neg q, ofO] at h1; exact h1.elim
  cases r1 with
  | d r =>
    simp only [asgA, allocA, Rs.bind, asgD, if_pos hlen, ofO] at h1
    exact h1 _ H1 ρ1 e1 s1 (he1.set r i hLi)
  | l g1 g2 g3 g4 =>
    simp only [asgA, allocA, Rs.bind, asgD, if_pos hlen, ofO] at h1
    exact h1 _ H1 _ (e1.name g2) (s1.name g1 (.lst g3 g4)) (he1.name.set (RD.last s1) i hLi)
/-- a, b = e -/
noncomputable def gT (K : PySem.W.Frag) (mg : Str → Option Value) (L : LT) (ts : Tgs) : TG := fun v σ H Q => ∃ ρ H0 env a st xs env', REnv K mg L H ρ env σ ∧ RS K mg H ρ st ∧ RA K mg H0 H ρ a v ∧ seqOf st a = some xs ∧ asgDs ts xs env = some env' ∧ ∀ σ', REnv K mg L H ρ env' σ' → Q σ' H
theorem pg_or {X : Cx} {e : Expr} {t t' : TG} (h : PG X e t) (h' : PG X e t') : PG X e (fun v σ H Q => t v σ H Q ∨ t' v σ H Q) := ⟨fun pins s σ H v u Q I r q => q.elim (fun q => h.run pins s σ H v u Q I r q) (fun q => h'.run pins s σ H v u Q I r q)⟩
theorem jg_un {ts : Tgs} {kk : Nat} (hc : X.calm = true) (h : JGs X L ts es) (hn : (assignEach es X.env).length = tgsLen ts) (hst : (assignEach es X.env).findIdx? (·.1) = none) : PG X (.Tuple es kk pos) (gT X.K X.mg L ts) := by
  refine PG.imp (pg_or (pg_tup hc h hn hst) (pg_lst hc h hn hst)) ?_
  rintro v σ H Q ⟨ρ, H0, env, a, st, xs, env', he, hs, r, e1, e2, q⟩
  have hl := asgDs_len e2
  obtain ⟨p, vs, rfl, h1, h2⟩ := r.seq hs e1
  have g : gDs X.K X.mg L ts vs σ H Q := ⟨ρ, env, xs, env', he, h2, e2, fun σ' h3 _ => q σ' h3⟩
  rcases h1 with h1 | h1
  · exact .inr ⟨p, vs, rfl, h1, by rw [← h2.length, hl], g⟩
  · exact .inl ⟨p, vs, rfl, h1, by rw [← h2.length, hl], g⟩
theorem js_un {ts : Tgs} {xa : Ex} {tg : Expr} (ha : JA X L (fun env st => evA G env xa st) a) (hg : PG X tg (gT X.K X.mg L ts)) (hs : swapsWithSole [tg] a pos.line X.env = pure false) (hw : swappedStores [tg] a X.env = pure none) (h1 : (assignEach [tg] X.env).map (·.2) = [assign tg X.env]) :
    JS X L (fun env st => evS G (.asg (.tup ts) xa) env st) (.Assign [tg] a pos) := by
  intro W tk
  refine PS.imp (ps_asg (ha W tk) hg hs hw h1) ?_
  rintro E σ H ⟨ρ, env, st, he, hs, h⟩
  have h : KS X.K X.mg L W E H ρ (evS G (.asg (.tup ts) xa) env st) := h
  rw [evS] at h
  refine ⟨ρ, env, st, he, hs, KS.exp (rel := RA X.K X.mg) he h ?_⟩
  intro x st1 v1 H1 ρ1 e1 s1 he1 r1 h1
  simp only [asgA] at h1
  cases q : seqOf st1 x with
  | none => rw [q] at h1; exact h1.elim
  | some xs =>
    rw [q] at h1
    cases q2 : asgDs ts xs env with
    | none => simp only [q2] at h1; exact h1.elim
    | some e2 =>
      simp only [q2] at h1
      exact ⟨ρ1, H, env, x, st1, xs, e2, he1, s1, r1, q, q2, fun σ' he2 => h1 σ' H1 ρ1 (Ext.refl _ _) s1 he2⟩
/-- a, b = x, y: stored from the right -/
theorem js_par {i j : Nat} {x y : Str} {xs : Es} {a b : Expr} {px py pt : Pos} {kt k2 pt2} (gd : Gd X k) (hi : X.N[i]? = some x) (hj : X.N[j]? = some y) (hij : i ≠ j) (hLi : L i = none) (hLj : L j = none)
    (hx : X.env.scope.names.lookup x = some .local) (hy : X.env.scope.names.lookup y = some .local) (ha : JL X L (fun env st => evEs G env xs st) [a, b])
    (hw : swappedStores [.Tuple [.Name x px, .Name y py] kt pt] (.Tuple [a, b] k2 pt2) X.env = pure (some [x, y])) (hs : swapsWithSole [.Tuple [.Name x px, .Name y py] kt pt] (.Tuple [a, b] k2 pt2) pos.line X.env = pure false) :
    JS X L (fun env st => evS G (.asg (.tup (.cons (.nm i) (.cons (.nm j) .nil))) (.tup xs)) env st) (.Assign [.Tuple [.Name x px, .Name y py] kt pt] (.Tuple [a, b] k2 pt2) pos) := by
  intro W tk
  refine PS.imp (ps_par gd.calm gd.nd hi hj hij hx hy (ha W tk) hw hs) ?_
  rintro E σ H ⟨ρ, env, st, he, hs, h⟩
  have h : KS X.K X.mg L W E H ρ (evS G (.asg (.tup (.cons (.nm i) (.cons (.nm j) .nil))) (.tup xs)) env st) := h
  have e0 : evS G (.asg (.tup (.cons (.nm i) (.cons (.nm j) .nil))) (.tup xs)) env st = (evEs G env xs st).then env fun ds st => if lenOk ds.length = true then (match asgDs (.cons (.nm i) (.cons (.nm j) .nil)) ds env with
    | some e => .ok .nx e st
    | none => .bad) else .bad := by
    rw [evS]
    simp only [evA]
    cases evEs G env xs st with
    | ok ds s1 =>
      simp only [Rs.bind]
      by_cases hc : lenOk ds.length = true
      · simp only [Rs.then, if_pos hc, asgA, seqOf, tupOf]
        generalize asgDs _ _ _ = q
        cases q <;> rfl
      · simp only [Rs.then, if_neg hc]
    | exc c fs s1 => rfl
    | bad => rfl
  rw [e0] at h
  refine ⟨ρ, env, st, he, hs, KS.exp (rel := rDs X.K X.mg) he h ?_⟩
  intro ds st1 vs H1 ρ1 e1 s1 he1 r1 h1
  split at h1
  · split at h1
    · rename_i e2 q
      have hl := asgDs_len q
      cases r1 with
      | nil => simp [tgsLen] at hl
      | cons ra rr =>
        cases rr with
        | nil => simp [tgsLen] at hl
        | cons rb rr =>
          cases rr with
          | cons _ _ => simp [tgsLen] at hl
          | nil =>
            refine ⟨_, _, rfl, h1 _ H1 ρ1 (Ext.refl _ _) s1 ?_⟩
            simp only [asgDs, asgD] at q
            split at q
            · simp only [Option.bind_some] at q
              split at q
              · simp only [Option.bind_some] at q
                cases q
                exact (he1.set ra i hLi).set rb j hLj
              · cases q
            · cases q
    · exact h1.elim
  · exact h1.elim
theorem js_par3 {i j l : Nat} {x y z : Str} {xs : Es} {a b c : Expr} {px py pz pt : Pos} {kt k2 pt2} (gd : Gd X k) (hi : X.N[i]? = some x) (hj : X.N[j]? = some y) (hl : X.N[l]? = some z) (hij : i ≠ j) (hil : i ≠ l) (hjl : j ≠ l) (hLi : L i = none) (hLj : L j = none) (hLl : L l = none)
    (hx : X.env.scope.names.lookup x = some .local) (hy : X.env.scope.names.lookup y = some .local) (hz : X.env.scope.names.lookup z = some .local) (ha : JL X L (fun env st => evEs G env xs st) [a, b, c])
    (hw : swappedStores [.Tuple [.Name x px, .Name y py, .Name z pz] kt pt] (.Tuple [a, b, c] k2 pt2) X.env = pure (some [x, y, z])) (hs : swapsWithSole [.Tuple [.Name x px, .Name y py, .Name z pz] kt pt] (.Tuple [a, b, c] k2 pt2) pos.line X.env = pure false) :
    JS X L (fun env st => evS G (.asg (.tup (.cons (.nm i) (.cons (.nm j) (.cons (.nm l) .nil)))) (.tup xs)) env st) (.Assign [.Tuple [.Name x px, .Name y py, .Name z pz] kt pt] (.Tuple [a, b, c] k2 pt2) pos) := by
  intro W tk
  refine PS.imp (ps_par3 gd.calm gd.nd hi hj hl hij hil hjl hx hy hz (ha W tk) hw hs) ?_
  rintro E σ H ⟨ρ, env, st, he, hs, h⟩
  have h : KS X.K X.mg L W E H ρ (evS G (.asg (.tup (.cons (.nm i) (.cons (.nm j) (.cons (.nm l) .nil)))) (.tup xs)) env st) := h
  have e0 : evS G (.asg (.tup (.cons (.nm i) (.cons (.nm j) (.cons (.nm l) .nil)))) (.tup xs)) env st = (evEs G env xs st).then env fun ds st => if lenOk ds.length = true then (match asgDs (.cons (.nm i) (.cons (.nm j) (.cons (.nm l) .nil))) ds env with
    | some e => .ok .nx e st
    | none => .bad) else .bad := by
    rw [evS]
    simp only [evA]
    cases evEs G env xs st with
    | ok ds s1 =>
      simp only [Rs.bind]
      by_cases hc : lenOk ds.length = true
      · simp only [Rs.then, if_pos hc, asgA, seqOf, tupOf]
        generalize asgDs _ _ _ = q
        cases q <;> rfl
      · simp only [Rs.then, if_neg hc]
    | exc c fs s1 => rfl
    | bad => rfl
  rw [e0] at h
  refine ⟨ρ, env, st, he, hs, KS.exp (rel := rDs X.K X.mg) he h ?_⟩
  intro ds st1 vs H1 ρ1 e1 s1 he1 r1 h1
  split at h1
  · split at h1
    · rename_i e2 q
      have hl := asgDs_len q
      cases r1 with
      | nil => simp [tgsLen] at hl
      | cons ra rr =>
        cases rr with
        | nil => simp [tgsLen] at hl
        | cons rb rr =>
          cases rr with
          | nil => simp [tgsLen] at hl
          | cons rc rr =>
            cases rr with
            | cons _ _ => simp [tgsLen] at hl
            | nil =>
              refine ⟨_, _, _, rfl, h1 _ H1 ρ1 (Ext.refl _ _) s1 ?_⟩
              simp only [asgDs, asgD] at q
              split at q
              · simp only [Option.bind_some] at q
                split at q
                · simp only [Option.bind_some] at q
                  split at q
                  · simp only [Option.bind_some] at q
                    cases q
                    exact ((he1.set ra i hLi).set rb j hLj).set rc l hLl
                  · cases q
                · cases q
              · cases q
    · exact h1.elim
  · exact h1.elim
/-- o[i] = e -/
theorem js_st {xo xi xa : Ex} {i : Expr} {p2 : Pos} (gd : Gd X k) (ha : JA X L (fun env st => evA G env xa st) a) (ho : JA X L (fun env st => evA G env xo st) o) (hi : JA X L (fun env st => evA G env xi st) i)
    (hg : ∀ v, assign (.Subscript o i p2) X.env v = (do
      let ov ← holding [v] (eval o X.env)
      let iv ← holding [v, ov] (eval i X.env)
      standAt p2
      holding [v, ov, iv] (setItem ov iv v)
      release [v, ov, iv] []))
    (hs : swapsWithSole [.Subscript o i p2] a pos.line X.env = pure false) (hw : swappedStores [.Subscript o i p2] a X.env = pure none) (h1 : (assignEach [.Subscript o i p2] X.env).map (·.2) = [assign (.Subscript o i p2) X.env]) :
    JS X L (fun env st => evS G (.st xo xi xa) env st) (.Assign [.Subscript o i p2] a pos) := by
  intro W tk
  refine PS.imp (ps_asg (je_of ha W tk) (pg_sub (ho W tk) (hi W tk) set_any hg) hs hw h1) ?_
  rintro E σ H ⟨ρ, env, st, he, hs, h⟩
  have h : KS X.K X.mg L W E H ρ (evS G (.st xo xi xa) env st) := h
  rw [evS] at h
  refine ⟨ρ, env, st, he, hs, KS.exp (rel := rD X.K X.mg) he h ?_⟩
  intro y st1 v1 H1 ρ1 e1 s1 he1 r1 h1
  refine ⟨ρ1, env, st1, he1, s1, KS.exp (rel := RA X.K X.mg) he1 h1 ?_⟩
  intro z st2 v2 H2 ρ2 e2 s2 he2 r2 h2
  refine ⟨ρ2, env, st2, he2, s2, KS.exp (rel := RA X.K X.mg) he2 h2 ?_⟩
  intro kx st3 v3 H3 ρ3 e3 s3 he3 r3 h3
  split at h3
  · rename_i l kk
    cases hl : stLst st3 l with
    | none =>
      simp only [hl] at h3
      cases hd : dicOf st3 l with
      | none => simp only [hd] at h3; exact h3.elim
      | some kvs =>
        simp only [hd] at h3
        split at h3
        · rename_i hlen
          obtain rfl := r3.int
          cases r2 with
          | d r2 =>
            cases r2 with
            | loc q =>
              have q3 := e3.get q
              obtain ⟨vs, g1, g2⟩ := s3.dic q3 hd
              have w := Ext.write (u := .dK (putK vs (Sum.inl kk) v1)) s3 (List.mem_of_getElem? q3)
              have ry := ((r1.mono e2).mono e3)
              have hz : vs.length < sizeLine := by
                have := line_of hlen
                rw [← g2.len]
                omega
              refine ⟨_, set_dic gd.hu, _, vs, kk, rfl, rfl, g1, hz, h3 σ _ ρ3 w (s3.write q3 (.dic upd_same ((g2.mono w).put (ry.mono w) _))) (he3.mono w)⟩
        · exact h3.elim
    | some xs =>
      simp only [hl] at h3
      cases hj : ixN xs.length kk with
      | none => simp only [hj] at h3; exact h3.elim
      | some j =>
        simp only [hj] at h3
        obtain rfl := r3.int
        cases r2 with
        | d r2 =>
          cases r2 with
          | loc q =>
            have q3 := e3.get q
            obtain ⟨vs, g1, g2⟩ := s3.lst q3 hl
            have w := Ext.write (u := .lst (vs.set j v1)) s3 (List.mem_of_getElem? q3)
            have ry := ((r1.mono e2).mono e3)
            refine ⟨_, set_list, _, vs, kk, j, rfl, rfl, g1, by rw [← g2.length]; exact hj, h3 σ _ ρ3 w (s3.write q3 (.lst upd_same ((g2.set ry j).mono w))) (he3.mono w)⟩
  · exact h3.elim
theorem js_nev : JS X L (fun env st => evS G .nev env st) s := by
  intro W tk
  refine PS.imp ps_never ?_
  rintro E σ H ⟨ρ, env, st, he, hs, h⟩
  exact h
/-- raise X('m') -/
theorem js_raise {x m : Str} {j : Nat} {p p2 p3 : Pos} (gx : GX X k G) (gd : Gd X k) (hg : Gl X x) (hdb : (x == ("__debug__" : Str)) = false) : JS X L (fun env st => evS G (.raise x .nil) env st) (.Raise (some (.Call (.Name x p) [.Constant (.str m) j p2] [] p3)) none pos) := by
  intro W tk
  cases q : G.xc x with
  | false =>
    refine PS.imp ps_never ?_
    rintro E σ H ⟨ρ, env, st, he, hs, h⟩
    have h : KS X.K X.mg L W E H ρ (evS G (.raise x .nil) env st) := h
    rw [evS, if_neg (show ¬ raiB G x .nil = true from fun z => by rw [show raiB G x .nil = G.xc x from rfl, q] at z; cases z)] at h
    exact h
  | true =>
    obtain ⟨C, bmB, B, newId, initId, h1, h2, h3, h4, h5, h6⟩ := gx.xc x q
    refine PS.imp (ps_raise gd.calm tk (pmk_own h3 h4 h1 h2 (raises_own h5 h6) hg hdb)) ?_
    rintro E σ H ⟨ρ, env, st, he, hs, h⟩
    have h : KS X.K X.mg L W E H ρ (evS G (.raise x .nil) env st) := h
    rw [evS, if_pos (show raiB G x .nil = true from q)] at h
    simp only [evEs, Rs.then, raiK] at h
    exact h (.ref C) none σ H ρ (Ext.refl _ _) hs he ⟨C, h1, rfl, rfl⟩
theorem KS.iterW {W : WX} {E : Ends} {σ : L2.St} {H : Hp} {ρ : List Addr} {env : Env} {R : L2.It → Hp → Prop} {m : Rs Its} {kk : Its → Stt → Rf} (he : REnv X.K X.mg L H ρ env σ) (h : KS X.K X.mg L W E H ρ (m.then env kk))
    (hk : ∀ I st J H1 ρ1, Ext ρ H ρ1 H1 → RS X.K X.mg H1 ρ1 st → REnv X.K X.mg L H1 ρ1 env σ → RJ X.K X.mg H1 ρ1 I J → KS X.K X.mg L W E H1 ρ1 (kk I st) → R J H1) : KI X.K X.mg W σ R H ρ m := by
  cases m with
  | ok a st => exact fun b H' ρ' e s r => hk a st b H' ρ' e s (he.mono e) r (KS.ext h e)
  | exc c fs st => exact fun cls d H' ρ' e s x => h cls d σ H' ρ' e s (he.mono e) x
  | bad => exact h
theorem js_for {t : Tg} {xi : It} {xb : Ss} {tg iter : Expr} {body : List Stmt} (gd : Gd X k) (hi : JI X L (fun env st => evIt G env xi st) tg iter) (hg : JG X L t tg) (hb : JSs X L (fun env st => evSs G xb env st) body)
    (hs : ∀ x, foldedSetIterable iter X.env x = pure x) : JS X L (fun env st => evS G (.for t xi xb) env st) (.For tg iter body [] pos) := by
  intro W tk
  refine PS.imp (ps_for gd.pass gd.calm (hi W tk) hg (hb W tk) hs) ?_
  rintro E σ H ⟨ρ, env, st, he, hS, h⟩
  have h : KS X.K X.mg L W E H ρ (evS G (.for t xi xb) env st) := h
  rw [evS] at h
  refine ⟨ρ, env, st, he, hS, KS.iterW he h ?_⟩
  intro I st1 J H1 ρ1 e1 s1 he1 rj h1
  refine ⟨fun i m σ H => m = I.xs.length - i ∧ i ≤ I.xs.length ∧ ∃ ρ2 env2 st2, Ext ρ1 H1 ρ2 H ∧ RS X.K X.mg H ρ2 st2 ∧ REnv X.K X.mg L H ρ2 env2 σ ∧ KS X.K X.mg L W E H ρ2 (forGo I.live t (fun e st => evSs G xb e st) (I.xs.drop i) env2 st2),
    ⟨I.xs.length, rfl, Nat.zero_le _, ρ1, env, st1, Ext.refl _ _, s1, he1, h1⟩, ?_⟩
  rintro i m σ2 H2 ⟨rfl, hle, ρ2, env2, st2, x2, s2, he2, g2⟩
  by_cases hlt : i < I.xs.length
  · right
    have hx : I.xs[i]? = some I.xs[i] := List.getElem?_eq_getElem hlt
    rw [List.drop_eq_getElem_cons hlt] at g2
    simp only [forGo] at g2
    split at g2
    · rename_i lv
      refine ⟨rj.go i _ H2 ρ2 st2 x2 s2 lv hx, fun σ' H' => ∃ ρ2 env2 st2, Ext ρ1 H1 ρ2 H' ∧ RS X.K X.mg H' ρ2 st2 ∧ REnv X.K X.mg L H' ρ2 env2 σ' ∧ KS X.K X.mg L W E H' ρ2 (forGo I.live t (fun e st => evSs G xb e st) (I.xs.drop (i + 1)) env2 st2),
        fun σ' H' z => ⟨_, by omega, rfl, hlt, z⟩, fun v H3 yy => ?_⟩
      obtain ⟨x3, s3, r3⟩ := rj.yld i _ H2 ρ2 st2 v H3 x2 s2 lv hx yy
      split at g2
      · rename_i env3 ea
        refine ⟨ρ2, env2, _, env3, he2.mono x3, r3, ea, fun σ3 he3 _ => ⟨ρ2, env3, st2, he3, s3, KS.turn (E := E) (k := fun e st => forGo I.live t (fun e st => evSs G xb e st) (I.xs.drop (i + 1)) e st) (KS.ext g2 x3) ?_ rfl rfl rfl⟩⟩
        intro e4 st4 σ4 H4 ρ4 x4 s4 he4 g4
        exact ⟨ρ4, e4, st4, (x2.trans x3).trans x4, s4, he4, g4⟩
      · exact g2.elim
    · exact g2.elim
  · left
    have hi2 : i = I.xs.length := by omega
    subst hi2
    rw [List.drop_length] at g2
    simp only [forGo] at g2
    split at g2
    · rename_i lv
      exact ⟨rj.stop H2 ρ2 _ x2 s2 lv, g2 σ2 H2 ρ2 (Ext.refl _ _) s2 he2⟩
    · exact g2.elim
theorem js_whl {xt : Ex} {xb : Ss} {t : Expr} {body : List Stmt} (gd : Gd X k) (ht : JT X L (fun env st => tst G env xt st) t) (hb : JSs X L (fun env st => evSs G xb env st) body) :
    JS X L (fun env st => evS G (.whl xt xb) env st) (.While t body [] pos) := by
  intro W tk
  refine PS.imp (ps_while gd.pass (ht W tk) (hb W tk)) ?_
  rintro E σ H ⟨ρ, env, st, he, hS, h⟩
  have h : KS X.K X.mg L W E H ρ (evS G (.whl xt xb) env st) := h
  rw [evS] at h
  unfold whl at h
  split at h
  · rename_i hn
    cases q : whlN (fun e st => tst G e xt st) (fun e st => evSs G xb e st) (Classical.choose hn) env st with
    | none => rw [q] at h; exact h.elim
    | some r =>
      rw [q] at h
      refine ⟨fun m σ H => ∃ ρ2 env2 st2, RS X.K X.mg H ρ2 st2 ∧ REnv X.K X.mg L H ρ2 env2 σ ∧ ∃ r, whlN (fun e st => tst G e xt st) (fun e st => evSs G xb e st) m env2 st2 = some r ∧ KS X.K X.mg L W E H ρ2 r, ⟨_, ρ, env, st, hS, he, r, q, h⟩, ?_⟩
      rintro m σ2 H2 ⟨ρ2, env2, st2, s2, he2, r2, q2, h2⟩
      cases m with
      | zero => simp only [whlN] at q2; cases q2
      | succ n =>
        simp only [whlN] at q2
        refine ⟨ρ2, env2, st2, he2, s2, ?_⟩
        show KR X.K X.mg rEq W σ2 _ H2 ρ2 (tst G env2 xt st2)
        cases qt : tst G env2 xt st2 with
        | bad => rw [qt] at q2; cases q2; exact h2.elim
        | exc c fs st3 => rw [qt] at q2; cases q2; exact fun cls d H' ρ' e s x => h2 cls d σ2 H' ρ' e s (he2.mono e) x
        | ok b st3 =>
          rw [qt] at q2
          intro b' H3 ρ3 x3 s3 eb
          cases eb
          have he3 := he2.mono x3
          cases b with
          | false =>
            cases q2
            rw [if_neg Bool.false_ne_true]
            exact h2 σ2 H3 ρ3 x3 s3 he3
          | true =>
            rw [if_pos rfl]
            have h3 := h2.ext x3
            refine ⟨fun σ H => ∃ ρ2 env2 st2, RS X.K X.mg H ρ2 st2 ∧ REnv X.K X.mg L H ρ2 env2 σ ∧ ∃ r, whlN (fun e st => tst G e xt st) (fun e st => evSs G xb e st) n env2 st2 = some r ∧ KS X.K X.mg L W E H ρ2 r, fun σ' H' z => ⟨n, by omega, z⟩, ρ3, env2, st3, he3, s3, ?_⟩
            show KS X.K X.mg L W _ H3 ρ3 (evSs G xb env2 st3)
            simp only at q2
            cases qb : evSs G xb env2 st3 with
            | bad => rw [qb] at q2; cases q2; exact h3.elim
            | exc c fs e4 st4 => rw [qb] at q2; cases q2; exact h3
            | ok f e4 st4 =>
              rw [qb] at q2
              cases f with
              | nx => exact fun σ' H' ρ' f s r => ⟨ρ', e4, st4, s, r, r2, q2, h3.ext f⟩
              | ct => exact fun σ' H' ρ' f s r => ⟨ρ', e4, st4, s, r, r2, q2, h3.ext f⟩
              | bk => cases q2; exact fun σ' H' ρ' f s r => h3 σ' H' ρ' f s r
              | rt d => cases q2; exact fun v H' ρ' f s r => h3 v H' ρ' f s r
  · exact h.elim
end
end Ev
namespace Ev
open PySem PySem.Spec PyProof.Rows L2
variable {L : LT}
section
variable {X : Cx} {pins : List (Addr × Obj)} {σ : L2.St} {H : Hp} {s : Shared} {a : Addr} {o : HO}
/-- an object that stands in the heap, and that no one tracks, is tracked from here on -/
theorem adopt (I : Inv X pins σ H s) (na : H a = none) (f0 : X.s_0.heap.get? a = none) (nL : a ≠ X.env.locals) (nc : ∀ x c, X.env.cells.lookup x = some c → c ≠ a) (np : ∀ p ∈ X.pn ++ pins, p.1 ≠ a)
    (w : ObjOk X.prog X.w (upd H a o) s.heap a o) : Inv X pins σ (upd H a o) s where
  ok := I.ok
  os := I.os
  bare := I.bare
  base :=
    { keep := I.base.keep
      slot := I.base.slot
      free := fun b ob e n x => by
        rw [upd_ne (fun z => by rw [z, f0] at e; cases e)]
        exact I.base.free b ob e n x
      there := I.base.there
      tups := fun b xs e => by
        have q := I.base.tups b xs e
        rw [upd_ne (ne_of_none q na)]; exact q
      frzs := fun b ob u e => by
        have q := I.base.frzs b ob u e
        rw [upd_ne (ne_of_none q na)]; exact q
      tbls := fun b ps e => by
        obtain ⟨m, q⟩ := I.base.tbls b ps e
        exact ⟨m, by rw [upd_ne (ne_of_none q na)]; exact q⟩ }
  loc := I.loc
  cell := I.cell
  free := by rw [upd_ne (Ne.symm nL)]; exact I.free
  freeC := fun x c e => by rw [upd_ne (nc x c e)]; exact I.freeC x c e
  pin := fun p hp => by
    obtain ⟨e, n, r⟩ := I.pin p hp
    exact ⟨e, by rw [upd_ne (np p hp)]; exact n, r⟩
  hok := fun b u e => by
    by_cases z : b = a
    · subst z
      rw [upd_same] at e
      cases e
      exact w
    · rw [upd_ne z] at e
      have q := I.hok b u e
      exact q.stay (fun _ _ _ k => k) (fun c k => by rw [upd_ne (ne_of_none k na)]; exact k) (fun c xs k => by rw [upd_ne (ne_of_none k na)]; exact k)
  len := I.len
theorem toSuite (I : Inv X pins σ H s) : Inv (X.suite a (X.pn ++ pins)) [] σ H s :=
  ⟨I.ok.suite _ _, I.os, I.bare, I.base, I.loc, I.cell, I.free, I.freeC, fun p hp => I.pin p (by rw [List.append_nil] at hp; exact hp), I.hok, I.len⟩
theorem ofSuite {pn' : List (Addr × Obj)} (ok : X.Ok) (I : Inv (X.suite a (X.pn ++ pins)) pn' σ H s) : Inv X pins σ H s :=
  ⟨ok, I.os, I.bare, I.base, I.loc, I.cell, I.free, I.freeC, fun p hp => I.pin p (List.mem_append.mpr (.inl hp)), I.hok, I.len⟩
end
/-- what a clause that keeps its exception wishes -/
noncomputable def wC (K : PySem.W.Frag) (c : Value) (i : Nat) (ts : TS) (Wout : WX) (D : Ends) : WX := fun cls d σ H =>
  ∃ b, PySem.W.exmOne K cls c = some b ∧ (b = true → ∀ a, H a = none →
      ts ⟨fun σ' H' => D.nx (σ'.set i none) H', D.rt, fun σ' H' => D.bk (σ'.set i none) H', fun σ' H' => D.ct (σ'.set i none) H'⟩ (σ.set i (some (.ref a))) (upd H a (.ext (XoP a cls d)))) ∧
    (b = false → Wout cls d σ H)
section
variable {X : Cx} {x n : Str} {c : Value} {i : Nat} {body suite : List Stmt} {b₀ : Stmt} {np pos pos' : Pos} {tb : WX → TS} {ts : TS} {Wout : WX}
theorem ps_catch (hex : X.ex = []) (hs : X.stack = X.env :: X.outer) (hf : X.env.frame = some X.env.locals) (hN : X.N.Nodup) (hi : X.N[i]? = some n) (hln : X.env.kindOf n = some .local) (hc : Names X x c) (tk : Takes X Wout)
    (hb : ∀ (W : WX) (pn : List (Addr × Obj)) (xe : Value → Shared → Prop), Takes (X.tr pn xe) W → PassesOwn (model X.prog X.w) X.A X.env xe → PSs (X.tr pn xe) body (tb W))
    (hsu : ∀ (a : Addr) (pn : List (Addr × Obj)), PSs (X.suite a pn) (b₀ :: suite) ts) :
    PS X (.Try body [.ExceptHandler (some (.Name x np)) (some n) (b₀ :: suite) pos'] [] [] pos) (fun D σ H => tb (wC X.K c i ts Wout D) D σ H) := by
  constructor
  intro pins s σ H D I0 want
  have okX := I0.ok
  have frA : X.A.frames = some (X.env :: X.outer) := okX.frames.trans (congrArg some hs)
  apply wpAny_Try_except
  let xe0 : Value → Shared → Prop := fun e t1 => wpAny (model X.prog X.w) X.A (noteFrame e X.env)
    (fun _ t2 => wpAny (model X.prog X.w) X.A (setFlight e none)
      (fun _ t3 => wpAny (model X.prog X.w) X.A (handleBy e X.env [.ExceptHandler (some (.Name x np)) (some n) (b₀ :: suite) pos']) (SP X pins D) X.xe t3) X.xe t2) X.xe t1
  have takes : Takes (X.tr (X.pn ++ pins) xe0) (wC X.K c i ts Wout D) := by
    rintro u t1 ⟨a, B, tI, pns, σ1, H1, cls, d, rfl, Jt, nb, up, sky, na, os, ag, b, hb1, yes, no⟩
    have J : Inv X pins σ1 H1 tI := Jt.ofTry okX
    have sky2 : Sky B (X.env :: X.outer) a (Zc cls d) X.env.locals t1.heap := hs ▸ sky
    change wpAny (model X.prog X.w) X.A (noteFrame (.ref a) X.env) _ _ _
    apply Sky.land Zc.steady frA hf sky2
    intro h3 fl up3
    have J3 := J.landed (s' := { t1 with heap := h3 }) nb fl.1 (up.trans up3) os ag
    obtain ⟨ob, vs, gob, zob, dob⟩ := fl.there
    have noFrame : ∀ {h : Heap} {o : Obj} {vs : Array Value}, h.FunFrames B (X.env :: X.outer) → h.get? a = some o → o.data = .fields vs → a ∉ frs (X.env :: X.outer) := by
      intro h o vs ff e dd hm
      obtain ⟨_, o2, e2, z⟩ := ff.mem hm
      rw [e] at e2
      cases e2
      exact z _ dd
    have nfr := noFrame fl.2.2.1 gob dob
    have nL : a ≠ X.env.locals := fun z => nfr (List.mem_filterMap.mpr ⟨X.env, by simp, by rw [hf, z]⟩)
    -- it was not there ahead
    have fresh : tI.heap.get? a = none := by
      cases q : tI.heap.get? a with
      | none => rfl
      | some o =>
        have := nb a o q (by rw [hs]; exact nfr)
        rw [fl.2.1] at this
        cases this
    have fresh0 : X.s_0.heap.get? a = none := by
      cases q : X.s_0.heap.get? a with
      | none => rfl
      | some o =>
        exfalso
        obtain ⟨o2, e2⟩ := J.base.there a o q (by rw [hex]; simp)
        rw [fresh] at e2
        cases e2
    have npin : ∀ p ∈ X.pn ++ pins, p.1 ≠ a := fun p hp z => by
      have e := (J.pin p hp).1
      rw [z, fresh] at e
      cases e
    have ncell : ∀ y c, X.env.cells.lookup y = some c → c ≠ a := fun y c e z => by
      obtain ⟨v, o, e2, _⟩ := J.cell y c e
      rw [z, fresh] at e2
      cases e2
    have keepIt : ∀ {h4 : Heap} {o : Obj} {vs : Array Value}, h4.get? a = some o → Zc cls d o → o.data = .fields vs → ObjOk X.prog X.w (upd H1 a (.ext (XoP a cls d))) h4 a (.ext (XoP a cls d)) := by
      intro h4 o vs e z dd
      exact ⟨⟨o, vs, e, z, dd⟩, ⟨o, e⟩, fun h5 h6 ⟨o5, vs5, e5, r5⟩ k => ⟨o5, vs5, k _ e5, r5⟩⟩
    have S3 := toSuite (a := a) J3
    apply wpAny_handleBy_cons (codeAny_handlers_test ?_) (by intro q; cases q)
    have LT : PySem.W.Looks (model X.prog X.w) h3 (typeOf (.ref a)) cls := fun A Q E s k q => wpAny_typeOf_ref (k _ _ gob) (by rw [zob.1]; exact q)
    have LM := PySem.W.exm_one (M := model X.prog X.w) J3.kIn LT hb1
    have asked : ∀ {Q E : Value → Shared → Prop}, Q c { t1 with heap := h3 } → wpAny (model X.prog X.w) (X.A.mark (some (.ref a))) (eval (.Name x np) X.env) Q E { t1 with heap := h3 } := by
      intro Q E q
      obtain ⟨hg, hdb, hm | ⟨hm, hv, hn⟩⟩ := hc
      · exact ld_glob (X := X.suite a (X.pn ++ pins)) S3 hg hm q hdb
      · exact ld_blt (X := X.suite a (X.pn ++ pins)) S3 hg hm hv q hn hdb
    apply asked
    apply LM.here
    cases b with
    | true =>
      apply codeAny_handlers_suite_as
      apply HandSPX.lands_againZ fl
      intro h4 fl4 up4
      have J4 := J.landed (s' := { t1 with heap := h4 }) nb fl4.1 ((up.trans up3).trans up4) os ag
      obtain ⟨o4, vs4, e4, z4, d4⟩ := fl4.there
      have J5 := adopt J4 na fresh0 nL ncell npin (keepIt e4 z4 d4)
      refine store_ok (X := X.suite a (X.pn ++ pins)) (v := .ref a) (toSuite J5) hN hi (.inl hln) rfl (fun t5 S5 => ?_) (.inr hln)
      refine wpAny_mono ((hsu a (X.pn ++ pins)).run [] t5 _ _ _ S5 (yes rfl a na)) (fun f t6 sp => ?_) (fun _ _ z => z.elim)
      have leave : ∀ {σ6 : L2.St} {H6 : Hp} {Q : Shared → Prop}, Inv (X.suite a (X.pn ++ pins)) [] σ6 H6 t6 → (∀ t7, Inv X pins (σ6.set i none) H6 t7 → Q t7) →
          wpAny (model X.prog X.w) X.A (do bindName X.env n .none; unbindBehindTheSuite X.env n pos') (fun _ t7 => Q t7) X.xe t6 :=
        fun S6 hq => gone_ok (ofSuite okX S6) hN hi hln hq
      cases f with
      | next => obtain ⟨_, _, S6, q6⟩ := sp; exact leave S6 fun t7 J7 => ⟨_, _, J7, q6⟩
      | brk => obtain ⟨_, _, S6, q6⟩ := sp; exact leave S6 fun t7 J7 => ⟨_, _, J7, q6⟩
      | cont => obtain ⟨_, _, S6, q6⟩ := sp; exact leave S6 fun t7 J7 => ⟨_, _, J7, q6⟩
      | ret u => obtain ⟨_, _, _, S6, r6, q6⟩ := sp; exact leave S6 fun t7 J7 => ⟨_, _, _, J7, r6, q6⟩
    | false =>
      change wpAny _ X.A (handleBy (.ref a) X.env []) _ _ _
      apply wpAny_handleBy_nil
      obtain ⟨k1, k2, k3, oe, us, T, oT, ts', he, hz, hd, h1, hr⟩ := id fl
      unfold PySem.passOn
      apply wpAny_bind
      apply wpAny_field he hd h1
      rw [if_neg (by simp : ¬ ((Value.ref T == Value.none) = true))]
      have fin : wpAny (model X.prog X.w) X.A (setFlight (.ref a) X.env.frame) (fun _ t4 => wpAny (model X.prog X.w) X.A (throw (.ref a) : Sem Flow) (SP X pins D) X.xe t4) X.xe { t1 with heap := h3 } := by
        rw [hf]
        apply HandSPX.setFlight_upZ fl
        intro h4 hh4 up4
        exact wpAny_throw (tk _ _ ⟨a, B, tI, pins, σ1, H1, cls, d, rfl, J, nb, (up.trans up3).trans up4, .inr (.inr (by rw [hs]; exact hh4)), na, os, ag, no rfl⟩)
      first
        | exact wpAny_bind (wpAny_pure (wpAny_bind fin))
        | exact wpAny_bind fin
  refine wpAny_mono ((hb _ (X.pn ++ pins) xe0 takes PassesOwn.looking).run [] s σ H D (I0.toTry _) want) (fun f t1 sp => ?_) (fun e t1 he => he)
  cases f with
  | next => obtain ⟨_, _, J', q⟩ := sp; exact wpAny_execs_nil ⟨_, _, J'.ofTry okX, q⟩
  | brk => obtain ⟨_, _, J', q⟩ := sp; exact ⟨_, _, J'.ofTry okX, q⟩
  | cont => obtain ⟨_, _, J', q⟩ := sp; exact ⟨_, _, J'.ofTry okX, q⟩
  | ret u => obtain ⟨_, _, _, J', r, q⟩ := sp; exact ⟨_, _, _, J'.ofTry okX, r, q⟩
end
section
variable {X : Cx} {k : Nat} {G : Gam} {pos : Pos}
theorem REnv.unset {K : PySem.W.Frag} {mg : Str → Option Value} {H : Hp} {ρ : List Addr} {e : Env} {σ : L2.St} (h : REnv K mg L H ρ e σ) (i : Nat) (hL : L i = none) : REnv K mg L H ρ (e.set i none) (σ.set i none) := by
  refine ⟨⟨by simp [h.1.1], fun j f q => ?_⟩, fun j x q => ?_⟩
  · rw [List.getElem?_set_ne (fun e => by rw [← e, hL] at q; cases q)]
    exact h.1.2 j f q
  by_cases z : i = j
  · subst z
    by_cases hl : i < e.length
    · rw [List.getElem?_set_self hl] at q; cases q
    · rw [List.getElem?_eq_none (by simpa using hl)] at q; cases q
  · rw [List.getElem?_set_ne z] at q ⊢
    exact h.2 j x q
theorem js_try {n c : Str} {i : Nat} {xb xh : Ss} {body suite : List Stmt} {b₀ : Stmt} {np pos' : Pos} (gx : GX X k G) (gd : Gd X k) (hex : X.ex = []) (hs : X.stack = X.env :: X.outer) (hf : X.env.frame = some X.env.locals) (hi : X.N[i]? = some n) (hln : X.env.kindOf n = some .local) (hL : L i = none)
    (hcl : ∃ D, X.mg c = some (.ref D)) (hg : Gl X c) (hdb : (c == ("__debug__" : Str)) = false) (hb : ∀ (pn : List (Addr × Obj)) (xe : Value → Shared → Prop), PassesOwn (model X.prog X.w) X.A X.env xe → JSs (X.tr pn xe) L (fun env st => evSs G xb env st) body)
    (hsu : ∀ (a : Addr) (pn : List (Addr × Obj)), JSs (X.suite a pn) L (fun env st => evSs G xh env st) (b₀ :: suite)) :
    JS X L (fun env st => evS G (.try xb c i xh) env st) (.Try body [.ExceptHandler (some (.Name c np)) (some n) (b₀ :: suite) pos'] [] [] pos) := by
  intro W tk
  · obtain ⟨D, hm⟩ := hcl
    refine PS.imp (ps_catch (c := .ref D) (ts := tS X.K X.mg L (fun env st => evSs G xh env st) (fun _ _ _ _ => False)) (tb := fun W => tS X.K X.mg L (fun env st => evSs G xb env st) W) (Wout := W) hex hs hf gd.nd hi hln ⟨hg, hdb, .inl hm⟩ tk (fun W pn xe tk hp => hb pn xe hp W tk) (fun a pn => hsu a pn _ L2.takes0)) ?_
    rintro E σ H ⟨ρ, env, st, he, hS, h⟩
    refine ⟨ρ, env, st, he, hS, ?_⟩
    have h : KS X.K X.mg L W E H ρ (evS G (.try xb c i xh) env st) := h
    rw [evS] at h
    show KS X.K X.mg L _ E H ρ (evSs G xb env st)
    cases q : evSs G xb env st with
    | bad => rw [q] at h; exact h.elim
    | ok f e2 st2 => rw [q] at h; cases f <;> exact h
    | exc c' fs e2 st2 =>
      rw [q] at h
      intro cls d σ2 H2 ρ2 x2 s2 he2 rx
      simp only at h
      cases hsub : G.sub c' c with
      | none => rw [hsub] at h; exact h.elim
      | some b =>
        rw [hsub] at h
        obtain ⟨C, D', m1, m2, m3⟩ := gx.sub c' c b hsub
        rw [hm] at m2
        cases m2
        have rx0 := rx
        obtain ⟨C', m4, rfl, rx⟩ := rx
        rw [m1] at m4
        cases m4
        refine ⟨b, m3, fun hbt a na => ?_, fun hbf => ?_⟩
        · subst hbt
          simp only at h
          have xf : Ext ρ2 H2 ρ2 (upd H2 a (.ext (XoP a (.ref C) d))) := Ext.fresh na
          have rd : RD X.K X.mg (upd H2 a (.ext (XoP a (.ref C) d))) ρ2 (.exn c' fs) (.ref a) := by
            match fs, rx with
            | [], rx => subst rx; exact .exn0 m1 upd_same
            | [r], rx =>
              obtain ⟨dd, v, rfl, r1, r2⟩ := rx
              exact .exn1 m1 upd_same (xf.imm _ _ r1 trivial) (r2.mono xf)
          refine ⟨ρ2, e2.set i (some (.exn c' fs)), st2, (he2.mono xf).set rd i hL, s2.grow na, ?_⟩
          have h := KS.ext h (x2.trans xf)
          show KS X.K X.mg L _ _ _ ρ2 (evSs G xh (e2.set i (some (.exn c' fs))) st2)
          cases q3 : evSs G xh (e2.set i (some (.exn c' fs))) st2 with
          | bad => rw [q3] at h; exact h.elim
          | exc c4 fs4 e4 st4 => rw [q3] at h; exact h.elim
          | ok f e4 st4 =>
            rw [q3] at h
            cases f with
            | nx => exact fun σ' H' ρ' x s r => h _ H' ρ' x s (r.unset i hL)
            | rt d => exact fun v H' ρ' x s r => h v H' ρ' x s r
            | bk => exact h.elim
            | ct => exact h.elim
        · subst hbf
          simp only at h
          exact h (.ref C) d σ2 H2 ρ2 x2 s2 he2 rx0
/-- isinstance(e, C), e an exception that was caught -/
theorem call_isX : CallR X (.builtin "isinstance") (fun xs H Q => ∃ (a C : Addr) (c : V) (cv : Value) (b : Bool), xs = [.ref a, c] ∧ (∀ u, RelV c u → u = cv) ∧ (∃ d, H a = some (.ext (XoP a (.ref C) d)) ∧ DcB H d) ∧ ExcC X.K C ∧ PySem.W.kitOne X.K (.ref C) cv = some b ∧ Q (.bl b) H) := by
  intro pins s σ H xs us Q I r ⟨a, C, c, cv, b, e1, hcv, ⟨dd, ha, hdd⟩, cC, hk, q⟩
  subst e1
  obtain ⟨u1, u2, rfl, r1, r2⟩ := vals2 r
  cases (show u1 = Value.ref a from r1)
  obtain rfl := hcv _ r2
  obtain ⟨oe, od, at0⟩ := at_exc I ha hdd
  refine PySem.W.kia_one (kitx_excD cC.hg cC.hk cC.hs cC.hd cC.ha cC.hn cC.ht cC.hm) I.kIn at0 hk (by intro z; cases z) ?_
  intro tk
  exact ⟨.bl b, H, I.kept (t' := tk) (fun _ _ z => z), rfl, q⟩
theorem ja_isiE {a : Expr} {xa : Ex} {T : Str} {p p2 : Pos} (gx : GX X k G) (gd : Gd X k) (hg : Gl X "isinstance") (hgT : Gl X T) (hdb : (T == ("__debug__" : Str)) = false) (hT : tyName T = none) (hcl : (∃ D, X.mg T = some (.ref D)) ∨ T = "ValueError") (ha : JA X L (fun env st => evA G env xa st) a)
    (hs : starEach (a :: [.Name T p2]) X.env = (false, eval a X.env) :: starEach [.Name T p2] X.env) : JA X L (fun env st => evA G env (.isi xa [T]) st) (.Call (.Name "isinstance" p) [a, .Name T p2] [] pos) := by
  intro W tk
  have hm := gx.bt "isinstance" (by decide +kernel)
  have nm : ∃ (v : V) (cv : Value), PE X (.Name T p2) (tC v) ∧ (∀ u, RelV v u → u = cv) ∧ ((∃ D, X.mg T = some (.ref D) ∧ cv = .ref D) ∨ (T = "ValueError" ∧ cv = .type "ValueError")) := by
    rcases hcl with ⟨D, h⟩ | rfl
    · exact ⟨.ref D, .ref D, pe_glob hgT h rfl hdb, fun u r => r, .inl ⟨D, h, rfl⟩⟩
    · exact ⟨.ty "ValueError", .type "ValueError", pe_bltn (v := .ty "ValueError") hgT (gx.bt _ (by decide +kernel)) (by decide +kernel) rfl (by decide +kernel) hdb, fun u r => r, .inr ⟨rfl, rfl⟩⟩
  obtain ⟨v, cv, hv, hcv, hk⟩ := nm
  refine PE.imp (pe_callB call_isX hg hm PyProof.Rows.boot_isinstance (pa_cons (ha W tk) (pa_cons hv pa_nil) hs) (by decide +kernel) (by decide +kernel) hs) ?_
  rintro σ H Q ⟨ρ, env, st, he, hS, h⟩
  simp only [evA] at h
  refine ⟨ρ, env, st, he, hS, KR.bind h ?_⟩
  intro x st1 v1 H1 ρ1 e1 s1 r1 h1
  obtain ⟨z, ez, h2⟩ := KR.ofO h1
  simp only [Option.map_eq_some_iff, isiA, isiOne, hT] at ez
  obtain ⟨b, ez, rfl⟩ := ez
  split at ez
  · rename_i e fs
    obtain ⟨C, m1, cC, m2⟩ := gx.ist e T b ez
    have hk2 : PySem.W.kitOne X.K (.ref C) cv = some b := by
      rcases hk with ⟨D, h3, rfl⟩ | ⟨h3, rfl⟩
      · rcases m2 with ⟨D', m3, m4⟩ | ⟨m3, m4⟩
        · rw [h3] at m3; cases m3; exact m4
        · subst m3
          rw [gx.bt "ValueError" (by decide +kernel)] at h3
          cases h3
      · rcases m2 with ⟨D', m3, m4⟩ | ⟨m3, m4⟩
        · rw [h3, gx.bt "ValueError" (by decide +kernel)] at m3
          cases m3
        · exact m4
    cases r1 with
    | d r1 =>
      cases r1 with
      | exn0 g1 g2 =>
        rw [m1] at g1
        cases g1
        exact ⟨_, C, v, cv, b, rfl, hcv, ⟨_, g2, .inl rfl⟩, cC, hk2, fin_d (h2.ext anti_A e1) s1 (.bl _)⟩
      | exn1 g1 g2 g3 g4 =>
        rw [m1] at g1
        cases g1
        exact ⟨_, C, v, cv, b, rfl, hcv, ⟨_, g2, .inr ⟨_, _, rfl, g3⟩⟩, cC, hk2, fin_d (h2.ext anti_A e1) s1 (.bl _)⟩
  · cases ez
/-- isinstance(e, (C, D, ..)), e an exception that was caught -/
theorem call_isXT : CallR X (.builtin "isinstance") (fun xs H Q => ∃ (a C tp : Addr) (cs : List V) (us : List Value) (b : Bool), xs = [.ref a, .ref tp] ∧ H tp = some (.tup cs) ∧ Paired ClsV cs us ∧ (∃ d, H a = some (.ext (XoP a (.ref C) d)) ∧ DcB H d) ∧ ExcC X.K C ∧ PySem.W.kitAny X.K (.ref C) us = some b ∧ Q (.bl b) H) := by
  intro pins s σ H xs vs Q I r ⟨a, C, tp, cs, us, b, e1, eT, pc, ⟨dd, ea, hdd⟩, cC, hk, q⟩
  subst e1
  obtain ⟨u1, u2, rfl, r1, r2⟩ := vals2 r
  cases (show u1 = Value.ref a from r1)
  cases (show u2 = Value.ref tp from r2)
  obtain ⟨_, zs, rz, ot, t1, t2, nz, t3⟩ := (show ObjOk X.prog X.w H s.heap tp (.tup cs) from I.hok tp _ eT)
  cases ClsV.all pc rz
  obtain ⟨oe, od, at0⟩ := at_exc I ea hdd
  obtain ⟨ocl, odi, oda, osl⟩ := ot
  cases t2; cases t3
  refine PySem.W.kia_tup (kitx_excD cC.hg cC.hk cC.hs cC.hd cC.ha cC.hn cC.ht cC.hm) I.kIn at0 t1 hk (by intro z; cases z) ?_
  intro tk
  exact ⟨.bl b, H, I.kept (t' := tk) (fun _ _ z => z), rfl, q⟩
/-- classes by their names -/
noncomputable def NmOk (X : Cx) (T : Str) : Prop := Gl X T ∧ (T == ("__debug__" : Str)) = false ∧ tyName T = none ∧ ((∃ D, X.mg T = some (.ref D)) ∨ T = "ValueError")
theorem pa_cls (gx : GX X k G) : ∀ (ts : List (Str × Pos)), (∀ t ∈ ts, NmOk X t.1) → ∃ cs us, PA X (ts.map fun t => .Name t.1 t.2) (fun _ H Q => Q cs H) ∧ Paired ClsV cs us ∧ cs.length = ts.length ∧ ∀ e b, istAny G e (ts.map (·.1)) = some b → (∃ C, X.mg e = some (.ref C)) → ∃ C, X.mg e = some (.ref C) ∧ (ts ≠ [] → ExcC X.K C) ∧ PySem.W.kitAny X.K (.ref C) us = some b
  | [], _ => ⟨[], [], pa_nil, .nil, rfl, fun e b h hC => by
    obtain ⟨C, hC⟩ := hC
    simp only [List.map_nil, istAny] at h
    cases h
    exact ⟨C, hC, fun z => absurd rfl z, kitAny_nil⟩⟩
  | (T, p) :: ts, h => by
    obtain ⟨hg, hdb, hT, hcl⟩ := h (T, p) (List.mem_cons_self)
    obtain ⟨cs, us, h1, h2, h3, h4⟩ := pa_cls gx ts fun t ht => h t (List.mem_cons_of_mem _ ht)
    have nm : ∃ (v : V) (cv : Value), PE X (.Name T p) (tC v) ∧ ClsV v cv ∧ ((∃ D, X.mg T = some (.ref D) ∧ cv = .ref D) ∨ (T = "ValueError" ∧ cv = .type "ValueError")) := by
      rcases hcl with ⟨D, h⟩ | rfl
      · exact ⟨.ref D, .ref D, pe_glob hg h rfl hdb, .own D, .inl ⟨D, h, rfl⟩⟩
      · exact ⟨.ty "ValueError", .type "ValueError", pe_bltn (v := .ty "ValueError") hg (gx.bt _ (by decide +kernel)) (by decide +kernel) rfl (by decide +kernel) hdb, .ty _, .inr ⟨rfl, rfl⟩⟩
    obtain ⟨v, cv, g1, g2, g3⟩ := nm
    refine ⟨v :: cs, cv :: us, PA.imp (pa_cons g1 h1 rfl) (fun σ H Q q => q), .cons g2 h2, by simp [h3], fun e b q hC => ?_⟩
    simp only [List.map_cons, istAny, hT, Option.isSome_none, Bool.false_eq_true, if_false] at q
    have one : ∀ c, G.ist e T = some c → ∃ C, X.mg e = some (.ref C) ∧ ExcC X.K C ∧ PySem.W.kitOne X.K (.ref C) cv = some c := fun c z => by
      obtain ⟨C, m1, cC, m2⟩ := gx.ist e T c z
      refine ⟨C, m1, cC, ?_⟩
      rcases g3 with ⟨D, m3, rfl⟩ | ⟨m3, rfl⟩
      · rcases m2 with ⟨D', m4, m5⟩ | ⟨m4, m5⟩
        · rw [m3] at m4; cases m4; exact m5
        · subst m4
          rw [gx.bt "ValueError" (by decide +kernel)] at m3
          cases m3
      · rcases m2 with ⟨D', m4, m5⟩ | ⟨m4, m5⟩
        · rw [m3, gx.bt "ValueError" (by decide +kernel)] at m4
          cases m4
        · exact m5
    cases z : G.ist e T with
    | none => rw [z] at q; cases q
    | some c =>
      rw [z] at q
      obtain ⟨C, m1, cC, m2⟩ := one c z
      cases c with
      | true => cases q; exact ⟨C, m1, fun _ => cC, kitAny_cons m2 (fun z => by cases z) (fun _ => rfl)⟩
      | false =>
        obtain ⟨C', n1, n2, n3⟩ := h4 e b q hC
        rw [m1] at n1
        cases n1
        exact ⟨C, m1, fun _ => cC, kitAny_cons m2 (fun _ => n3) (fun z => by cases z)⟩
theorem ja_isiM {a : Expr} {xa : Ex} {ts : List (Str × Pos)} {kt : Nat} {p p2 : Pos} (gx : GX X k G) (hg : Gl X "isinstance") (h2 : 2 ≤ ts.length) (h1000 : ts.length ≤ 1000) (hts : ∀ t ∈ ts, NmOk X t.1) (ha : JA X L (fun env st => evA G env xa st) a)
    (hs : ∀ e, starEach [a, e] X.env = (false, eval a X.env) :: starEach [e] X.env) : JA X L (fun env st => evA G env (.isi xa (ts.map (·.1))) st) (.Call (.Name "isinstance" p) [a, .Tuple (ts.map fun t => .Name t.1 t.2) kt p2] [] pos) := by
  intro W tk
  have hm := gx.bt "isinstance" (by decide +kernel)
  obtain ⟨cs, us, h3, h4, h5, h6⟩ := pa_cls gx ts hts
  refine PE.imp (pe_callB call_isXT hg hm PyProof.Rows.boot_isinstance (pa_cons (ha W tk) (pa_cons (pe_tup h3) pa_nil) (hs _)) (by decide +kernel) (by decide +kernel) (hs _)) ?_
  rintro σ H Q ⟨ρ, env, st, he, hS, h⟩
  simp only [evA] at h
  refine ⟨ρ, env, st, he, hS, KR.bind h ?_⟩
  intro x st1 v1 H1 ρ1 e1 s1 r1 h1
  obtain ⟨z, ez, hz⟩ := KR.ofO h1
  simp only [Option.map_eq_some_iff] at ez
  obtain ⟨b, ez, rfl⟩ := ez
  have many : ∃ c fs, x = .d (.exn c fs) ∧ istAny G c (ts.map (·.1)) = some b := by
    match ts, h2 with
    | t1 :: t2 :: tr, _ =>
      simp only [List.map_cons, isiA] at ez
      split at ez
      · exact ⟨_, _, rfl, ez⟩
      · cases ez
  obtain ⟨c, fs, rfl, ez2⟩ := many
  refine ⟨by rw [h5]; exact Nat.le_trans h1000 (by rw [sizeLine_eq]; omega), fun tp htp => ?_⟩
  cases r1 with
  | d r1 =>
    cases r1 with
    | exn0 g1 g2 =>
      obtain ⟨C, m1, m2, m3⟩ := h6 c b ez2 ⟨_, g1⟩
      rw [g1] at m1
      cases m1
      have ne : ts ≠ [] := by intro z; rw [z] at h2; simp at h2
      rename_i aa
      have na : aa ≠ tp := fun z => by rw [← z, g2] at htp; cases htp
      refine ⟨aa, _, tp, cs, us, b, rfl, upd_same, h4, ⟨_, by rw [upd_ne na]; exact g2, .inl rfl⟩, m2 ne, m3, ?_⟩
      exact (hz.ext anti_A e1) (.bl b) (upd H1 tp (.tup cs)) ρ1 (Ext.fresh htp) (s1.grow htp) (.d (.bl b))
    | exn1 g1 g2 g3 g4 =>
      obtain ⟨C, m1, m2, m3⟩ := h6 c b ez2 ⟨_, g1⟩
      rw [g1] at m1
      cases m1
      have ne : ts ≠ [] := by intro z; rw [z] at h2; simp at h2
      rename_i aa dd rr vv
      have na : aa ≠ tp := fun z => by rw [← z, g2] at htp; cases htp
      have nd : dd ≠ tp := fun z => by rw [← z, g3] at htp; cases htp
      refine ⟨aa, _, tp, cs, us, b, rfl, upd_same, h4, ⟨_, by rw [upd_ne na]; exact g2, .inr ⟨_, _, rfl, by rw [upd_ne nd]; exact g3⟩⟩, m2 ne, m3, ?_⟩
      exact (hz.ext anti_A e1) (.bl b) (upd H1 tp (.tup cs)) ρ1 (Ext.fresh htp) (s1.grow htp) (.d (.bl b))
/-- a call through a local name -/
theorem pe_callV {W : WX} (tk : Takes X W) {i : Nat} {x : Str} {p : Pos} {e : Expr} {es : List Expr} {t : TA} (hr : Rm k X.A) (hi : X.N[i]? = some x) (hv : Vis X.env.scope x) (hd : (x == ("__debug__" : Str)) = false) (hcd : (x == ("__classdict__" : Str)) = false) (ha : PA X (e :: es) t)
    (he : starEach (e :: es) X.env = (false, eval e X.env) :: starEach es X.env) (hpl : (backTo pos (starEach es X.env)).any (·.1) = false) :
    PE X (.Call (.Name x p) (e :: es) [] pos) (fun σ H Q => ∃ a fd ps sp, σ[i]? = some (some (.ref a)) ∧ PySem.W.keepIn X.K (.ref a) = true ∧ Binds X.K fd ps [] ∧ FnG X.prog X.w X.K X.mg X.base k a fd ps sp ∧ t σ H fun vs H1 => sp vs H1 Q (WE W σ)) := by
  constructor
  rintro pins s σ H Q I ⟨a, fd, ps, sp, e1, hk, hb, F, ht⟩
  apply wpAny_Call_Name_kw
  refine thn ((pe_var (pos := p) hi hv hd hcd).run pins s σ H (fun v H1 => v = .ref a ∧ H1 = H) I ⟨_, e1, rfl, rfl⟩) ?_
  rintro u s1 ⟨v, H1, I1, r1, rfl, rfl⟩
  cases r1
  refine PySem.W.callWith_K (h₀ := X.base) I.ok.mod.kin hk (thn (ha.run pos pins s1 σ _ _ I1 ht) ?_) he hpl
  rintro us s2 ⟨vs, H2, I2, r, q⟩
  exact ⟨I2.kIn, run_G tk F hr hb I2 r q⟩
theorem ja_callv {i : Nat} {x : Str} {xs : Es} {p : Pos} {e : Expr} {es : List Expr} (gx : GX X k G) (gd : Gd X k) (hi : X.N[i]? = some x) (hv : Vis X.env.scope x) (hd : (x == ("__debug__" : Str)) = false) (hcd : (x == ("__classdict__" : Str)) = false) (ha : JL X L (fun env st => evEs G env xs st) (e :: es))
    (hs : starEach (e :: es) X.env = (false, eval e X.env) :: starEach es X.env) (hpl : (backTo pos (starEach es X.env)).any (·.1) = false) : JA X L (fun env st => evA G env (.callv i xs) st) (.Call (.Name x p) (e :: es) [] pos) := by
  intro W tk
  refine PE.imp (pe_callV tk gd.room hi hv hd hcd (ha W tk) hs hpl) ?_
  rintro σ H Q ⟨ρ, env, st, he, hS, h⟩
  simp only [evA] at h
  split at h
  · rename_i f eq
    split at h
    · rename_i F qf
      obtain ⟨v, g1, g2⟩ := he.2 _ _ eq
      have hna : askB f = false := by
        cases qa : askB f with
        | false => rfl
        | true =>
          unfold askB at qa
          simp only [Bool.or_eq_true, beq_iff_eq] at qa
          rcases qa with z | z
          · subst z
            cases g2 with
            | obj g2 => rw [gx.bt "asked" (by decide +kernel)] at g2; cases g2
          · subst z
            cases g2 with
            | obj g2 => rw [gx.bt "_law_call" (by decide +kernel)] at g2; cases g2
      obtain ⟨a, fd, ps, h1, h2, h3, h4, h5⟩ := gx.fn f F hna qf
      cases g2 with
      | obj g2 =>
        rw [h1] at g2
        cases g2
        refine ⟨a, fd, ps, _, g1, h2, h3, h4, ρ, env, st, he, hS, KR.bind h ?_⟩
        intro x st1 v1 H1 ρ1 e1 s1 r1 h
        refine ⟨?_, ρ1, x, st1, r1, s1, ?_⟩
        · rw [← RDs.length r1]
          exact h5 x st1 ⟨_, rfl, fun z => by rw [z] at h; exact h.elim⟩
        · cases qf2 : F x st1 with
          | bad => rw [qf2] at h; exact h.elim
          | exc c fs st2 =>
            rw [qf2] at h
            exact fun cls d H' ρ' f s r => h cls d H' ρ' (e1.trans f) s r
          | ok z st2 =>
            rw [qf2] at h
            exact fun b H' ρ' f s r => h b H' ρ' (e1.trans f) s (.d r)
    · exact h.elim
  · exact h.elim
end
end Ev
namespace Ev
open PySem PySem.Spec PyProof.Rows L2 LamX NdefX
section
variable {X : Cx} {pins : List (Addr × Obj)} {σ : L2.St} {H : Hp} {s : Shared}
noncomputable abbrev lamO (X : Cx) (ps : Arguments) (b : Expr) (sc : Scope) (pm : Value) (c' : Addr) (ctv : Value) : Obj := PySem.W.kla_obj "<lambda>" (X.env.qual ++ "<lambda>") ps b sc (cloFrom X.env.cells sc.names []) pm c' ctv
/-- what is tracked grows by a code object alone, or by nothing -/
structure Grown (T : List (Addr × Str)) (H H1 : Hp) : Prop where
  up : ∀ a o, H a = some o → (∀ ps, o ≠ .tbl ps) → H1 a = some o
  dn : ∀ a, H1 a = none → H a = none
  gr : ∀ a ps, H a = some (.tbl ps) → ∃ more, H1 a = some (.tbl (ps ++ more))
  tb : Tabs T H1
theorem lam_new {T : List (Addr × Str)} {c P : Addr} {ps : Arguments} {b : Expr} {sc : Scope} {pos : Pos} {E Q : Value → Shared → Prop} (J : Inv X pins σ H s) (TB : TabB X.base X.mg c P) (hcd : X.env.code = .ref c) (mT : (P, X.env.qual ++ "<lambda>") ∈ T)
    (one : ∀ z ∈ T, z.1 = P → z.2 = X.env.qual ++ "<lambda>") (tT : Tabs T H) (nd : defaultsOf ps X.env = ([], [])) (fre : ∀ y ∈ sc.names, y.2 = .free → ∃ c, X.env.cells.lookup y.1 = some c)
    (go : ∀ (f c' : Addr) (pm ctv : Value) (H1 : Hp) (s1 : Shared), Inv X pins σ H1 s1 → Grown T H H1 → s1.heap.get? f = some (lamO X ps b sc pm c' ctv) → H1 f = none → f ∉ frs X.stack → f ≠ X.env.locals → (∃ t1, H1 P = some (.tbl t1) ∧ TriplesOk t1.toList ∧ codeAmong pos t1.toList = some (.ref c')) → Q (.ref f) s1) :
    wpAny (model X.prog X.w) X.A (eval (.Lambda ps b sc pos) X.env) Q E s := by
  obtain ⟨tab, tH, tri, among⟩ := tT _ mT
  have tHeap : s.heap.get? P = some { cls := .none, data := .fields tab } := J.hok P _ tH
  have bi := TB.bm.keeps J.bk
  have bigNoFrame : ∀ z, s.heap.objs.size ≤ z → z ∉ frs X.stack ∧ z ≠ X.env.locals := fun z hz => by
    have lt : X.env.locals < s.heap.objs.size := J.lt
    have ne : z ≠ X.env.locals := fun e => Nat.lt_irrefl _ (Nat.lt_of_lt_of_le (e ▸ lt) hz)
    refine ⟨fun m => ?_, ne⟩
    rcases List.mem_cons.mp (J.stkSub _ m) with e | e
    · exact ne e
    · exact J.nofs hz e
  apply PySem.W.kla_eval nd
  cases fnd : codeAmong pos tab.toList with
  | some cv =>
    obtain ⟨c', rfl, known⟩ := among pos cv fnd
    apply PySem.W.kla_makeFunctionHit (mg := X.mg) (c := c) (P := P) (ps := tab) (closure_ok fre) J.ok.glob (J.mod.glob.keeps J.bk) hcd (TB.code.keeps J.bk) tHeap tri fnd bi
    intro ctv h1 tk ext big
    have J1 : Inv X pins σ H { s with heap := h1.push (lamO X ps b sc ((X.mg "__name__").getD .none) c' ctv), toks := tk } := J.kept fun a o e => Heap.get?_push_of_some _ (ext a o e)
    obtain ⟨n1, n2⟩ := bigNoFrame _ big
    exact go _ c' _ ctv H _ J1 ⟨fun _ _ e _ => e, fun _ e => e, fun _ _ e => ⟨#[], by simpa using e⟩, tT⟩ (Heap.get?_push_size _ rfl) (J.hok.fresh big) n1 n2 ⟨tab, tH, tri, fnd⟩
  | none =>
    apply PySem.W.kla_makeFunction (mg := X.mg) (c := c) (P := P) (ps := tab) (closure_ok fre) J.ok.glob (J.mod.glob.keeps J.bk) hcd (TB.code.keeps J.bk) tHeap tri fnd TB.gP bi
    intro c' ctv h1 tk ext ge lt rec htab
    obtain ⟨c2, oc, vs, tq, e2, hoc, hdat, hnm⟩ := rec
    cases e2
    have newC : H c' = none := J.hok.fresh ge
    have cP : P ≠ c' := ne_of_none tH newC
    have J1 := inv_table (t' := tk) (more := #[rawInt pos.line, rawInt pos.col, .ref c']) (h' := h1.push (lamO X ps b sc ((X.mg "__name__").getD .none) c' ctv)) J tH (fun a o n e => Heap.get?_push_of_some _ (ext a o n e)) (Heap.get?_push_of_some _ htab) ge ⟨oc, vs, tq, Heap.get?_push_of_some _ hoc, hdat, hnm⟩
    have up : ∀ a o, H a = some o → (∀ ps, o ≠ .tbl ps) → upd (upd H P (.tbl (tab ++ #[rawInt pos.line, rawInt pos.col, .ref c']))) c' (CodeO c' (X.env.qual ++ "<lambda>")) a = some o := fun a o e nt => by
      rw [upd_ne (ne_of_none e newC), upd_ne (fun z => by rw [z, tH] at e; exact nt tab (Option.some.inj e).symm)]
      exact e
    have big : s.heap.objs.size ≤ h1.objs.size := by omega
    obtain ⟨n1, n2⟩ := bigNoFrame _ big
    have l2 : (tab ++ #[rawInt pos.line, rawInt pos.col, .ref c']).toList = tab.toList ++ [rawInt pos.line, rawInt pos.col, .ref c'] := by simp
    have tri2 : TriplesOk (tab ++ #[rawInt pos.line, rawInt pos.col, .ref c']).toList := by rw [l2]; exact PySem.TriplesOk_snoc _ _ _ _ tri
    have fnd2 : codeAmong pos (tab ++ #[rawInt pos.line, rawInt pos.col, .ref c']).toList = some (.ref c') := by rw [l2]; exact codeAmong_snoc _ tri fnd
    have atP : upd (upd H P (.tbl (tab ++ #[rawInt pos.line, rawInt pos.col, .ref c']))) c' (CodeO c' (X.env.qual ++ "<lambda>")) P = some (.tbl (tab ++ #[rawInt pos.line, rawInt pos.col, .ref c'])) := by rw [upd_ne cP, upd_same]
    refine go h1.objs.size c' _ ctv _ _ J1 ⟨up, fun a e => ?_, fun a tab0 e => ?_, fun z hz => ?_⟩ (Heap.get?_push_size _ rfl) ?_ n1 n2 ⟨_, atP, tri2, fnd2⟩
    · by_cases q1 : a = c'
      · rw [q1]; exact newC
      · rw [upd_ne q1] at e
        by_cases q2 : a = P
        · rw [q2, upd_same] at e; cases e
        · rw [upd_ne q2] at e; exact e
    · by_cases q : a = P
      · rw [q, tH] at e; cases e
        rw [q]; exact ⟨_, atP⟩
      · exact ⟨#[], by rw [upd_ne (ne_of_none e newC), upd_ne q]; simpa using e⟩
    · by_cases q : z.1 = P
      · rw [one z hz q, q]
        refine ⟨tab ++ #[rawInt pos.line, rawInt pos.col, .ref c'], by rw [upd_ne cP, upd_same], by rw [l2]; exact PySem.TriplesOk_snoc _ _ _ _ tri, fun p2 cv2 m2 => ?_⟩
        rw [l2] at m2
        rcases among_app _ tri m2 with m3 | m3
        · obtain ⟨c3, g1, g2⟩ := among p2 cv2 m3
          exact ⟨c3, g1, up _ _ g2 codeO_ne⟩
        · exact ⟨c', m3, upd_same⟩
      · obtain ⟨tab2, g1, g2, g3⟩ := tT z hz
        refine ⟨tab2, by rw [upd_ne (ne_of_none g1 newC), upd_ne q]; exact g1, g2, fun p2 cv2 m2 => ?_⟩
        obtain ⟨c3, k1, k2⟩ := g3 p2 cv2 m2
        exact ⟨c3, k1, up _ _ k2 codeO_ne⟩
    · rw [upd_ne (Nat.ne_of_gt lt), upd_ne (fun e => absurd (Heap.lt_size tHeap) (Nat.not_lt.mpr (Nat.le_trans big (Nat.le_of_eq e))))]
      exact J.hok.fresh big
end
section
variable {P : Program} {w : World} {K : PySem.W.Frag} {mg : Str → Option Value} {base : Heap} {CX : CXT}
theorem lam_run {N pn fr : List Str} {F : NF} {f : Addr} {params : Arguments} {body : Expr} {pm ctv : Value} {A : Around} {outer : List PySem.Env} {s : Shared} {H : Hp} {us : List Value} {vs : List V} {ws : List (Option V)} {Q : VK} {E : XK} {k : Nat} {t : TE}
    (S : NScope N pn fr F.scope) (hr : Rm (k + 1) A) (e0 : Env0 P w K mg base A outer s H) (at_ : s.heap.get? f = some (PySem.W.kla_obj F.name F.qual params body F.scope F.cl pm F.c ctv)) (rec : s.heap.CodeRec (.ref F.c) F.qual)
    (bnd : bindArgs (PySem.W.kla_fn F.name F.qual params body F.scope F.cl pm (.ref F.c) ctv) ⟨us, []⟩ = pure (pn.zip us)) (hl : vs.length = pn.length) (C : CellsAt F.cl fr ws s.heap H) (r : Vals vs us)
    (hb : Rm k (A.deeper (envF F f s.heap.objs.size)) → PE (ncx CX P w K mg base N F f A outer s H E) body t) (q : t (startF N vs ws) H Q) : codeAny (model P w) A (.call (.ref f) ⟨us, []⟩) (CR CX outer P w H s Q E) s := by
  have noLimit : s.heap.NoLimit := e0.mod.nolimit.keeps fun a o e => (e0.bs a o e).1
  apply PySem.W.kla_callFunE hr.r.depth at_ rfl S.co S.gen rfl rec
  rw [bnd]
  apply wpAny_pure
  apply wpAny_newFunctionEnv S.nocell (fun y hy => S.par y.1 (List.of_mem_zip (show (y.1, y.2) ∈ pn.zip us from hy)).1) _ S.kind
  intro h1 ns same
  refine ⟨noLimit.fresh _ same, ?_⟩
  show codeAny _ _ (.expr body (envF F f s.heap.objs.size)) _ _
  have keep : ∀ a o, s.heap.get? a = some o → h1.get? a = some o := fun a o e => same.extBut a o (Nat.ne_of_lt (Heap.lt_size e)) (Heap.get?_push_of_some _ e)
  have J := inv_startN (CX := CX) (E := E) (f := f) (tk := s.toks + (pn.zip us).length) S hr.r.hd e0 hl r C ns keep
  apply PySem.W.kla_codeExpr
  refine wpAny_mono ((hb (hr.deeper _)).run [] _ _ H Q J q) ?_ (fun _ _ z => z)
  rintro u s2 ⟨v, H2, J2, rv, done⟩
  exact ⟨v, H2, J2.os, J2.bare, J2.base, J2.hok, rv, done⟩
end
end Ev
namespace Ev
open PySem PySem.Spec PyProof.Rows L2 LamX NdefX
variable {L : LT}
section
variable {K : PySem.W.Frag} {mg : Str → Option Value} {ρ ρ' : List Addr} {H H' : Hp} {fs : List Addr} {h h' : Heap}
theorem un_sqT (u : Un fs [] H H' h h') {a : Addr} {xs : List V} (q : SqT K H a xs) : SqT K H' a xs := by
  rcases q with (q | ⟨o, q⟩) | q
  · exact .inl (.inl (u.tups _ _ q))
  · exact .inl (.inr ⟨o, u.frzs _ _ _ q⟩)
  · exact .inr q
theorem still_rd (u : Un fs [] H H' h h') {x : D} {v : V} (r : RD K mg H ρ x v) : still x = true → RD K mg H' ρ' x v :=
  RD.rec (motive_1 := fun x v _ => still x = true → RD K mg H' ρ' x v) (motive_2 := fun xs vs _ => stills xs = true → RDs K mg H' ρ' xs vs)
    (fun _ => .non) (fun b _ => .bl b) (fun i _ => .int i) (fun x _ => .str x) (fun n e => by simp [still] at e) (fun q _ t e => .tup (un_sqT u q) (t (by simpa [still] using e))) (fun q _ t e => by simp [still] at e) (fun q e => by simp [still] at e) (fun q _ => .obj q)
    (fun _ _ e => by simp [still] at e) (fun _ _ _ _ _ e => by simp [still] at e) (fun _ => .nil) (fun _ _ a b e => by
      simp only [stills, Bool.and_eq_true] at e
      exact .cons (a e.1) (b e.2)) r
theorem stills_rd (u : Un fs [] H H' h h') {xs : List D} {vs : List V} (r : RDs K mg H ρ xs vs) (e : stills xs = true) : RDs K mg H' ρ' xs vs := by
  induction xs generalizing vs with
  | nil => cases r; exact .nil
  | cons x xs ih => cases r with
    | cons a t =>
      simp only [stills, Bool.and_eq_true] at e
      exact .cons (still_rd u a e.1) (ih t e.2)
theorem caps_at {env : Env} {σ : L2.St} (he : REnv K mg L H ρ env σ) : ∀ {js : List Nat} {cs : List D}, capsOf env js = some cs → ∃ vs, js.map (slotAt σ) = vs.map some ∧ RDs K mg H ρ cs vs ∧ stills cs = true
  | [], cs, e => by cases e; exact ⟨[], rfl, .nil, rfl⟩
  | j :: js, cs, e => by
    simp only [capsOf] at e
    split at e
    · rename_i d q
      split at e
      · rename_i sd
        simp only [Option.map_eq_some_iff] at e
        obtain ⟨ds, e, rfl⟩ := e
        obtain ⟨vs, h1, h2, h3⟩ := caps_at he e
        obtain ⟨v, g1, g2⟩ := he.2 _ _ q
        exact ⟨v :: vs, by simp [h1, slotAt_of g1], .cons g2 h2, by simp [stills, sd, h3]⟩
      · cases e
    · cases e
theorem still0_rd (u : Un fs [] H H' h h') {t : List Addr} {x : D} {v : V} (r : RD K mg H ρ x v) : still0 x = true → RD K mg H' (ρ ++ t) x v :=
  RD.rec (motive_1 := fun x v _ => still0 x = true → RD K mg H' (ρ ++ t) x v) (motive_2 := fun xs vs _ => stills0 xs = true → RDs K mg H' (ρ ++ t) xs vs)
    (fun _ => .non) (fun b _ => .bl b) (fun i _ => .int i) (fun x _ => .str x) (fun n e => by simp [still0] at e) (fun q _ t e => .tup (un_sqT u q) (t (by simpa [still0] using e))) (fun q _ t e => by simp [still0] at e) (fun q e => .loc (by rw [List.getElem?_append_left (List.getElem?_eq_some_iff.mp q).1]; exact q)) (fun q _ => .obj q)
    (fun _ _ e => by simp [still0] at e) (fun _ _ _ _ _ e => by simp [still0] at e) (fun _ => .nil) (fun _ _ a b e => by
      simp only [stills0, Bool.and_eq_true] at e
      exact .cons (a e.1) (b e.2)) r
theorem stills0_rd (u : Un fs [] H H' h h') {t : List Addr} {xs : List D} {vs : List V} (r : RDs K mg H ρ xs vs) (e : stills0 xs = true) : RDs K mg H' (ρ ++ t) xs vs := by
  induction xs generalizing vs with
  | nil => cases r; exact .nil
  | cons x xs ih => cases r with
    | cons a t =>
      simp only [stills0, Bool.and_eq_true] at e
      exact .cons (still0_rd u a e.1) (ih t e.2)
theorem caps_at0 {env : Env} {σ : L2.St} (he : REnv K mg L H ρ env σ) : ∀ {js : List Nat} {cs : List D}, capsOf0 env js = some cs → ∃ vs, js.map (slotAt σ) = vs.map some ∧ RDs K mg H ρ cs vs ∧ stills0 cs = true
  | [], cs, e => by cases e; exact ⟨[], rfl, .nil, rfl⟩
  | j :: js, cs, e => by
    simp only [capsOf0] at e
    split at e
    · rename_i d q
      split at e
      · rename_i sd
        simp only [Option.map_eq_some_iff] at e
        obtain ⟨ds, e, rfl⟩ := e
        obtain ⟨vs, h1, h2, h3⟩ := caps_at0 he e
        obtain ⟨v, g1, g2⟩ := he.2 _ _ q
        exact ⟨v :: vs, by simp [h1, slotAt_of g1], .cons g2 h2, by simp [stills0, sd, h3]⟩
      · cases e
    · cases e
theorem among_keep {pos : Pos} {cv : Value} {more : List Value} : ∀ (l : List Value), TriplesOk l → codeAmong pos l = some cv → codeAmong pos (l ++ more) = some cv := by
  intro l t e
  fun_induction TriplesOk l with
  | case1 => simp [codeAmong] at e
  | case2 a t b u x rest ih =>
    simp only [List.cons_append, codeAmong] at e ⊢
    split at e
    · rename_i q; rw [if_pos q]; exact e
    · rename_i q; rw [if_neg q]; exact ih t e
  | case3 l h1 h2 => exact t.elim
end
section
variable {X : Cx} {k : Nat} {G : Gam} {e : Expr} {es : List Expr} {p pos : Pos}
theorem run_act {W : WX} (tk : Takes X W) {pins : List (Addr × Obj)} {σ : L2.St} {H : Hp} {s : Shared} {Q : VK} {us : List Value} {f : Addr} (I : Inv X pins σ H s) (c : codeAny (model X.prog X.w) X.A (.call (.ref f) ⟨us, []⟩) (CR (L2.CX X.prog X.w) X.stack X.prog X.w H s Q (WE W σ)) s) :
    wpAny (model X.prog X.w) X.A (call (.ref f) us) (EP X pins σ Q) X.xe s := by
  apply wpAny_call
  apply codeAny_mono c
  rintro (ex | fl) s2 done
  · exact passAt tk σ pins H s ex s2 I done
  · cases fl <;> first | exact I.after done | exact (show False from done).elim
theorem ask_dbg {x : Str} (h : askB x = true) : (x == ("__debug__" : Str)) = false ∧ (x == ("__classdict__" : Str)) = false := by
  unfold askB at h
  simp only [Bool.or_eq_true, beq_iff_eq] at h
  rcases h with h | h <;> subst h <;> exact ⟨by decide, by decide⟩
theorem ja_asked {i : Nat} {f : Addr} {r0 : List Addr} {z : Str} {A : List D → M D} {xs : Es} (gd : Gd X k) (hz : askB z = true) (hL : L i = some (f, r0)) (hN : X.N[i]? = some z) (hv : Vis X.env.scope z) (hA : G.fn z = some A) (hex : X.ex = []) (la : LamAt X.prog X.w X.K X.mg X.base k X.outer X.s_0 X.H_0 r0 f A)
    (ha : JL X L (fun env st => evEs G env xs st) (e :: es)) (hs : starEach (e :: es) X.env = (false, eval e X.env) :: starEach es X.env) (hpl : (backTo pos (starEach es X.env)).any (·.1) = false) :
    JA X L (fun env st => evA G env (.call z xs) st) (.Call (.Name z p) (e :: es) [] pos) := by
  intro W tk
  refine ⟨fun pins s σ H Q I h => ?_⟩
  obtain ⟨ρ, env, st, he, rs, h⟩ := h
  simp only [evA, hA] at h
  have un : ∀ {pins σ H s}, Inv X pins σ H s → Un (frs X.outer) [] X.H_0 H X.s_0.heap s.heap := fun I => by
    have := I.base
    rw [hex] at this
    exact this
  refine wpAny_Call_Name_kw (thn ((pe_var (pos := p) hN hv (ask_dbg hz).1 (ask_dbg hz).2).run pins s σ H (fun v H1 => v = .ref f ∧ H1 = H) I ⟨.ref f, (he.1.2 i _ hL).1, rfl, rfl⟩) ?_)
  rintro u s1 ⟨v, H1, I1, r1, rfl, rfl⟩
  cases r1
  refine PySem.W.callWith_F (first := []) (la.1 _ _ (un I1)) (thn ((ha W tk).run pos pins s1 σ H1 (fun vs H2 => ∃ ρ xs st, (∃ t, ρ = r0 ++ t) ∧ RDs X.K X.mg H2 ρ xs vs ∧ RS X.K X.mg H2 ρ st ∧ KR X.K X.mg (rD X.K X.mg) (fun cls d _ H' => WE W σ cls d H') [] Q H2 ρ (A xs st)) I1 ⟨ρ, env, st, he, rs, KR.bind h ?_⟩) ?_) hs hpl
  · intro xs st1 vs H2 ρ1 e1 s1 r1 h1
    refine ⟨ρ1, xs, st1, ?_, r1, s1, ?_⟩
    · obtain ⟨t, rfl⟩ := (he.1.2 i _ hL).2
      obtain ⟨t2, rfl⟩ := e1.pre
      exact ⟨t ++ t2, by simp⟩
    cases q : A xs st1 with
    | bad => rw [q] at h1; exact h1.elim
    | exc c fs st2 => rw [q] at h1; exact fun cls d H' ρ' f s r => h1 cls d H' ρ' (e1.trans f) s r
    | ok z st2 => rw [q] at h1; exact fun b H' ρ' f s r => h1 b H' ρ' (e1.trans f) s (.d r)
  · rintro us s2 ⟨vs, H2, I2, r, ρ2, xs, st2, g0, g1, g2, g3⟩
    exact ⟨la.1 _ _ (un I2), run_act tk I2 (la.2 X.A X.stack s2 H2 us vs Q (WE W σ) ρ2 xs st2 g0 gd.room I2.env0 (un I2) r g1 g2 g3)⟩
theorem ja_asked0 {i : Nat} {f : Addr} {r0 : List Addr} {z : Str} {A : List D → M D} (gd : Gd X k) (hz : askB z = true) (hL : L i = some (f, r0)) (hN : X.N[i]? = some z) (hv : Vis X.env.scope z) (hA : G.fn z = some A) (hex : X.ex = []) (la : LamAt X.prog X.w X.K X.mg X.base k X.outer X.s_0 X.H_0 r0 f A) :
    JA X L (fun env st => evA G env (.call z .nil) st) (.Call (.Name z p) [] [] pos) := by
  intro W tk
  refine ⟨fun pins s σ H Q I h => ?_⟩
  obtain ⟨ρ, env, st, he, rs, h⟩ := h
  simp only [evA, hA, evEs] at h
  have un : ∀ {pins σ H s}, Inv X pins σ H s → Un (frs X.outer) [] X.H_0 H X.s_0.heap s.heap := fun I => by
    have := I.base
    rw [hex] at this
    exact this
  refine wpAny_Call_Name_kw (thn ((pe_var (pos := p) hN hv (ask_dbg hz).1 (ask_dbg hz).2).run pins s σ H (fun v H1 => v = .ref f ∧ H1 = H) I ⟨.ref f, (he.1.2 i _ hL).1, rfl, rfl⟩) ?_)
  rintro u s1 ⟨v, H1, I1, r1, rfl, rfl⟩
  cases r1
  refine PySem.W.callWith_F0 (first := []) (la.1 _ _ (un I1)) (run_act tk I1 (la.2 X.A X.stack s1 _ [] [] Q (WE W σ) ρ [] st (he.1.2 i _ hL).2 gd.room I1.env0 (un I1) .nil .nil rs ?_))
  cases q : A [] st with
  | bad => simp only [Rs.bind, q] at h; exact h.elim
  | exc c fs st2 => simp only [Rs.bind, q] at h; exact fun cls d H' ρ' f s r => h cls d H' ρ' f s r
  | ok z st2 => simp only [Rs.bind, q] at h; exact fun b H' ρ' f s r => h b H' ρ' f s (.d r)
end
end Ev
namespace Ev
open PySem PySem.Spec PyProof.Rows L2 LamX NdefX
variable {L : LT}
/-- the one parameter of a lambda -/
noncomputable abbrev argOne (x : Str) (p : Pos) : Arguments := ⟨[], [⟨x, none, p⟩], none, [], [], none, []⟩
theorem bind_x {x : Str} {p : Pos} {n q : Str} {body : Expr} {sc : Scope} {cl : List (Str × Addr)} {pm cd ctv u : Value} : bindArgs (PySem.W.kla_fn n q (argOne x p) body sc cl pm cd ctv) ⟨[u], []⟩ = pure ([x].zip [u]) := by
  have e : (x == x) = true := beq_self_eq_true x
  have l1 : ([(x, u)] : List (Str × Value)).lookup x = some u := by simp [List.lookup, e]
  unfold bindArgs
  simp [argOne, seqItems?, l1]
  rfl
section
variable {X : Cx} {k k0 : Nat} {G : Gam} {es : List Expr} {p pos : Pos}
noncomputable abbrev actOf (G : Gam) (cs : List D) (lb : Ex) : List D → M D := fun ys st => match ys with
  | [y] => (evA G (some y :: cs.map some) lb st).bind allocA
  | _ => .bad
/-- what is known of a lambda's text in a def -/
structure LamTx (X : Cx) (k0 : Nat) (G : Gam) (x : Str) (ap lpos : Pos) (scope : Scope) (fr : List Str) (js : List Nat) (lb : Ex) (lbody : Expr) (c P : Addr) : Prop where
  hcd : X.env.code = .ref c
  TB : TabB X.base X.mg c P
  mT : (P, X.env.qual ++ "<lambda>") ∈ lamTabs X.K X.mg
  one : ∀ z ∈ lamTabs X.K X.mg, z.1 = P → z.2 = X.env.qual ++ "<lambda>"
  S : NScope (x :: fr) [x] fr scope
  hfree : ∀ y ∈ scope.names, y.2 = .free → X.env.scope.names.lookup y.1 = some .cell ∨ X.env.scope.names.lookup y.1 = some .free
  hfr : ∀ y ∈ fr, (y, NameKind.free) ∈ scope.names
  hjs : js.map (fun j => X.N[j]?) = fr.map some
  hfn : ∀ y ∈ fr, X.fn y = true
  hstk : X.stack = X.env :: X.outer
  hbody : ∀ (A : Around) (outer : List PySem.Env) (s : Shared) (H : Hp) (E : XK) (fl : Addr) (F : NF), F.scope = scope → Rm k0 (A.deeper (envF F fl s.heap.objs.size)) → JA (ncx (L2.CX X.prog X.w) X.prog X.w X.K X.mg X.base (x :: fr) F fl A outer s H E) noL (fun env st => evA G env lb st) lbody
theorem lam_at {x : Str} {c P fl c' : Addr} {js : List Nat} {fr : List Str} {lb : Ex} {lbody : Expr} {scope : Scope} {lpos ap : Pos} {pm ctv : Value} {pins : List (Addr × Obj)} {σ : L2.St} {H2 : Hp} {s2 : Shared} {ρ2 : List Addr} {env : Env} {cs : List D} (T : LamTx X k0 G x ap lpos scope fr js lb lbody c P)
    (I2' : Inv X pins σ H2 s2) (at2 : s2.heap.get? fl = some (lamO X (argOne x ap) lbody scope pm c' ctv)) (f2 : H2 fl = none) (nf : fl ∉ frs X.stack) (he2 : REnv X.K X.mg L H2 ρ2 env σ) (ecs : capsOf env js = some cs)
    (tP2 : ∃ t2, H2 P = some (.tbl t2) ∧ TriplesOk t2.toList ∧ codeAmong lpos t2.toList = some (.ref c')) : LamAt X.prog X.w X.K X.mg X.base (k0 + 1) X.stack s2 H2 ρ2 fl (actOf G cs lb) := by
  obtain ⟨hcd, TB, mT, one, S, hfree, hfr, hjs, hfn, hstk, hbody⟩ := T
  obtain ⟨wv, ew, rw_, sw⟩ := caps_at he2 ecs
  have cp : Caps X (cloFrom X.env.cells scope.names []) fr js := Caps.made I2'.ok hfree hfr hjs
  have C2 := cells_of I2' cp
  rw [ew] at C2
  have cnf : ∀ y c, (cloFrom X.env.cells scope.names []).lookup y = some c → c ∉ frs X.stack := fun y c e m => by
    have e' := cp.sub y c e
    have yf : y ∈ fr := by
      rcases cloFrom_mem (PySem.mem_of_lookup e) with q | ⟨q, _⟩
      · cases q
      · exact S.free _ q rfl
    rcases List.mem_cons.mp (I2'.stkSub _ m) with q | q
    · exact I2'.cne y c e' q
    · obtain ⟨_, o, ho, _⟩ := I2'.ok.funs.mem q
      exact absurd (Heap.lt_size ho) (Nat.not_lt.mpr (I2'.ok.cab y c (hfn y yf) e'))
  refine ⟨fun H' h' u => ⟨_, _, _, _, u.keep fl _ at2 f2 nf (by simp)⟩, ?_⟩
  intro A' outer' s' H' us' vs' Q' E' ρ' ys st' pre' hr' e0' u' r' rd' rs' kr'
  have one1 : ∃ y, ys = [y] := by
    match ys, kr' with
    | [y], _ => exact ⟨y, rfl⟩
    | [], z => exact z.elim
    | _ :: _ :: _, z => exact z.elim
  obtain ⟨y, rfl⟩ := one1
  have kr' : KR X.K X.mg (rD X.K X.mg) (fun cls d _ H'' => E' cls d H'') [] Q' H' ρ' (evE G (some y :: cs.map some) lb st') := kr'
  cases rd' with
  | cons ry rn =>
    cases rn
    rename_i v'
    obtain ⟨u1, eu, ru⟩ := vals1 r'
    subst eu
    have cRec : s'.heap.CodeRec (.ref c') (X.env.qual ++ "<lambda>") := by
      obtain ⟨t2, q1, tri, amg⟩ := tP2
      obtain ⟨m2, q2⟩ := u'.tbls P _ q1
      obtain ⟨tab, q3, _, q5⟩ := rs'.tab _ mT
      rw [q2] at q3
      cases q3
      obtain ⟨c2, q6, q7⟩ := q5 lpos (.ref c') (by
        rw [Array.toList_append]
        exact among_keep _ tri amg)
      cases q6
      exact codeO_at e0'.hok q7
    have C3 : CellsAt (cloFrom X.env.cells scope.names []) fr (wv.map some) s'.heap H' := by
      have kp : ∀ y c, (cloFrom X.env.cells scope.names []).lookup y = some c → ∀ v, s2.heap.IsCell c v → s'.heap.IsCell c v := fun y c e v ⟨o, ho, hd⟩ => ⟨o, u'.keep c o ho (C2.all y c e).1 (cnf y c e) (by simp), hd⟩
      refine ⟨C2.len, fun y c e => ?_, C2.inj, fun i y e => ?_⟩
      · obtain ⟨n, v, z⟩ := C2.all y c e
        refine ⟨?_, v, kp y c e v z⟩
        obtain ⟨o, ho, _⟩ := z
        exact u'.free c o ho n (by simp)
      · obtain ⟨c, hc, hv⟩ := C2.has i y e
        exact ⟨c, hc, fun v ev => let ⟨u, r, z⟩ := hv v ev; ⟨u, r, kp y c hc _ z⟩⟩
    have lw : wv.length = fr.length := by have := C2.len; simpa using this
    have lcs : cs.length = wv.length := RDs.length rw_
    have es0 : startF (x :: fr) [v'] (wv.map some) = some v' :: wv.map some := by
      unfold startF
      simp [lw]
    have rcs : RDs X.K X.mg H' ρ' cs wv := stills_rd u' rw_ sw
    refine lam_run (k := k0) (F := ⟨"<lambda>", X.env.qual ++ "<lambda>", argOne x ap, [], scope, cloFrom X.env.cells scope.names [], c'⟩) (N := x :: fr) (pn := [x]) (fr := fr) (ws := wv.map some) S hr' e0' (u'.keep fl _ at2 f2 nf (by simp)) cRec bind_x rfl C3 r' (fun hroom => je_of (hbody A' outer' s' H' E' fl _ rfl hroom) (fun cls d _ H => E' cls d H) (takes_of rfl rfl rfl rfl)) ?_
    refine ⟨ρ', some y :: cs.map some, st', ?_, rs', kr'⟩
    rw [es0]
    refine ⟨⟨by simp [lcs], fun i f q => by cases q⟩, fun i d q => ?_⟩
    cases i with
    | zero => simp at q; subst q; exact ⟨v', rfl, ry⟩
    | succ i =>
      simp only [List.getElem?_cons_succ, List.getElem?_map, Option.map_eq_some_iff] at q ⊢
      obtain ⟨d', q, e⟩ := q
      cases e
      obtain ⟨v, g1, g2⟩ := rcs.get q
      exact ⟨v, ⟨v, g1, rfl⟩, g2⟩
theorem ja_lamc {f x : Str} {c P : Addr} {js : List Nat} {fr : List Str} {lb : Ex} {xs : Es} {lbody : Expr} {scope : Scope} {lpos ap : Pos} (gd : Gd X k) (g0 : GX X k0 G) (hk : k0 + 2 ≤ k) (hg : Gl X f) (hdb : (f == ("__debug__" : Str)) = false)
    (T : LamTx X k0 G x ap lpos scope fr js lb lbody c P) (ha : JL X L (fun env st => evEs G env xs st) es) (hpl : (backTo pos (starEach es X.env)).any (·.1) = false) :
    JA X L (fun env st => evA G env (.lamc f js lb xs) st) (.Call (.Name f p) (.Lambda (argOne x ap) lbody scope lpos :: es) [] pos) := by
  intro W tk
  refine ⟨fun pins s σ H Q I h => ?_⟩
  obtain ⟨ρ, env, st, he, rs, h⟩ := h
  simp only [evA] at h
  split at h
  · rename_i cs FH ecs eFH
    obtain ⟨a, fd, ps, h1, h2, h3, h4, h5⟩ := g0.hf f FH eFH
    obtain ⟨hcd, TB, mT, one, S, hfree, hfr, hjs, hfn, hstk, hbody⟩ := id T
    have fre : ∀ y ∈ scope.names, y.2 = .free → ∃ c, X.env.cells.lookup y.1 = some c := fun y hy e => (hfree y hy e).elim (fun z => I.ok.has _ (.inl z)) fun z => I.ok.has _ (.inr z)
    have fsub : ∀ z, z ∉ frs X.stack → z ∉ X.fs := fun z n m => n (by
      rw [hstk]
      obtain ⟨e, he, q⟩ := List.mem_filterMap.mp m
      exact List.mem_filterMap.mpr ⟨e, List.mem_cons_of_mem _ he, q⟩)
    refine wpAny_Call_Name_kw (ld_glob I hg h1 ?_ hdb)
    refine PySem.W.callWith_K (h₀ := X.base) I.ok.mod.kin h2 ?_ (by rfl) hpl
    show wpAny _ _ (spliced ((false, eval (.Lambda (argOne x ap) lbody scope lpos) X.env) :: backTo pos (starEach es X.env))) _ _ s
    refine Calls.spliced_cons (lam_new I TB hcd mT one rs.tab rfl fre ?_)
    rintro fl c' pm ctv H1 s1 I1 gr at1 f0 nf nl ⟨t1, tP, tri, amg⟩
    have e1 : Ext ρ H ρ H1 := ⟨⟨[], by simp⟩, fun _ m => .inl m, fun a o q _ nt => gr.up a o q nt, fun a o q im => gr.up a o q (fun ps z => by subst z; exact im), gr.dn, gr.gr⟩
    have rs1 : RS X.K X.mg H1 ρ st := rs.same e1 gr.tb fun a ha => by
      obtain ⟨o, q, _, nt⟩ := rs.there ha
      rw [gr.up a o q nt, q]
    have Ip : Inv X ((fl, lamO X (argOne x ap) lbody scope pm c' ctv) :: pins) σ H1 s1 := ⟨I1.ok, I1.os, I1.bare, I1.base, I1.loc, I1.cell, I1.free, I1.freeC, fun z hz => by
      rcases List.mem_append.mp hz with m | m
      · exact I1.pin z (List.mem_append.mpr (.inl m))
      · rcases List.mem_cons.mp m with m | m
        · rw [m]
          exact ⟨at1, f0, nl, fsub _ nf, fun v q => by cases q⟩
        · exact I1.pin z (List.mem_append.mpr (.inr m)), I1.hok, I1.len⟩
    refine thn ((ha W tk).run pos ((fl, lamO X (argOne x ap) lbody scope pm c' ctv) :: pins) s1 σ H1 (fun vs H2 => ∃ ρ2 ds st2, Ext ρ H1 ρ2 H2 ∧ RDs X.K X.mg H2 ρ2 ds vs ∧ RS X.K X.mg H2 ρ2 st2 ∧ KR X.K X.mg (rD X.K X.mg) (fun cls d _ H' => WE W σ cls d H') [] Q H2 ρ2 (FH (actOf G cs lb) ds st2)) Ip ⟨ρ, env, st, he.mono e1, rs1, KR.bindAt e1 h ?_⟩) ?_
    · intro ds st2 vs H2 ρ2 x2 s2 r2 k2
      refine ⟨ρ2, ds, st2, x2, r2, s2, ?_⟩
      revert k2
      generalize FH _ ds st2 = m
      intro k2
      cases m with
      | bad => exact k2.elim
      | exc c fs st3 => exact fun cls d H' ρ' f s r => k2 cls d H' ρ' ((e1.trans x2).trans f) s r
      | ok z st3 => exact fun b H' ρ' f s r => k2 b H' ρ' ((e1.trans x2).trans f) s (.d r)
    · rintro us s2 ⟨vs, H2, I2, r, ρ2, ds, st2, x2, g1, g2, g3⟩
      refine ⟨I2.kIn, ?_⟩
      have I2' : Inv X pins σ H2 s2 := ⟨I2.ok, I2.os, I2.bare, I2.base, I2.loc, I2.cell, I2.free, I2.freeC, fun z hz => I2.pin z (by
        rcases List.mem_append.mp hz with m | m
        · exact List.mem_append.mpr (.inl m)
        · exact List.mem_append.mpr (.inr (List.mem_cons_of_mem _ m))), I2.hok, I2.len⟩
      obtain ⟨at2, f2, _⟩ := I2.pin _ (List.mem_append.mpr (.inr List.mem_cons_self))
      have he2 := (he.mono e1).mono x2
      have la := lam_at T I2' at2 f2 nf he2 ecs (by
        obtain ⟨m1, q1⟩ := x2.tb P t1 tP
        obtain ⟨tab, q3, q4, _⟩ := g2.tab _ mT
        rw [q1] at q3
        cases q3
        exact ⟨_, q1, q4, by rw [Array.toList_append]; exact among_keep _ tri amg⟩)
      have lds : ds.length + 1 = ps.length := h5 _ ds st2 ⟨_, rfl, fun z => by rw [z] at g3; exact g3.elim⟩
      have lvs : vs.length + 1 = ps.length := by rw [← RDs.length g1]; exact lds
      have b := h3 s2 (.ref fl :: us) I2'.kIn (by rw [List.append_nil, List.length_cons, ← r.length]; exact lvs)
      rw [List.append_nil] at b
      exact run_act tk I2' (h4 (k0 + 1) (by omega) X.A X.stack s2 H2 us vs Q (WE W σ) fl _ ρ2 ds st2 (gd.room.mono (by omega)) I2'.env0 b r lvs la g1 g2 g3)
  · exact h.elim
/-- no parameter at all -/
noncomputable abbrev argZ : Arguments := ⟨[], [], none, [], [], none, []⟩
theorem bind_z {n q : Str} {body : Expr} {sc : Scope} {cl : List (Str × Addr)} {pm cd ctv : Value} : bindArgs (PySem.W.kla_fn n q argZ body sc cl pm cd ctv) ⟨[], []⟩ = pure (([] : List Str).zip []) := by
  unfold bindArgs
  simp [argZ, seqItems?]
  rfl
noncomputable abbrev actOf0 (G : Gam) (cs : List D) (lb : Ex) : List D → M D := fun ys st => match ys with
  | [] => (evA G (cs.map some) lb st).bind allocA
  | _ => .bad
/-- what is known of a lambda's text in a def -/
structure LamTx0 (X : Cx) (k0 : Nat) (G : Gam) (lpos : Pos) (scope : Scope) (fr : List Str) (js : List Nat) (lb : Ex) (lbody : Expr) (c P : Addr) : Prop where
  hcd : X.env.code = .ref c
  TB : TabB X.base X.mg c P
  mT : (P, X.env.qual ++ "<lambda>") ∈ lamTabs X.K X.mg
  one : ∀ z ∈ lamTabs X.K X.mg, z.1 = P → z.2 = X.env.qual ++ "<lambda>"
  S : NScope fr [] fr scope
  hfree : ∀ y ∈ scope.names, y.2 = .free → X.env.scope.names.lookup y.1 = some .cell ∨ X.env.scope.names.lookup y.1 = some .free
  hfr : ∀ y ∈ fr, (y, NameKind.free) ∈ scope.names
  hjs : js.map (fun j => X.N[j]?) = fr.map some
  hfn : ∀ y ∈ fr, X.fn y = true
  hstk : X.stack = X.env :: X.outer
  hbody : ∀ (A : Around) (outer : List PySem.Env) (s : Shared) (H : Hp) (E : XK) (fl : Addr) (F : NF), F.scope = scope → Rm k0 (A.deeper (envF F fl s.heap.objs.size)) → JA (ncx (L2.CX X.prog X.w) X.prog X.w X.K X.mg X.base fr F fl A outer s H E) noL (fun env st => evA G env lb st) lbody
theorem lam_at0 {c P fl c' : Addr} {js : List Nat} {fr : List Str} {lb : Ex} {lbody : Expr} {scope : Scope} {lpos : Pos} {pm ctv : Value} {pins : List (Addr × Obj)} {σ : L2.St} {H2 : Hp} {s2 : Shared} {ρ2 : List Addr} {env : Env} {cs : List D} (T : LamTx0 X k0 G lpos scope fr js lb lbody c P)
    (I2' : Inv X pins σ H2 s2) (at2 : s2.heap.get? fl = some (lamO X argZ lbody scope pm c' ctv)) (f2 : H2 fl = none) (nf : fl ∉ frs X.stack) (he2 : REnv X.K X.mg L H2 ρ2 env σ) (ecs : capsOf0 env js = some cs)
    (tP2 : ∃ t2, H2 P = some (.tbl t2) ∧ TriplesOk t2.toList ∧ codeAmong lpos t2.toList = some (.ref c')) : LamAt X.prog X.w X.K X.mg X.base (k0 + 1) X.stack s2 H2 ρ2 fl (actOf0 G cs lb) := by
  obtain ⟨hcd, TB, mT, one, S, hfree, hfr, hjs, hfn, hstk, hbody⟩ := T
  obtain ⟨wv, ew, rw_, sw⟩ := caps_at0 he2 ecs
  have cp : Caps X (cloFrom X.env.cells scope.names []) fr js := Caps.made I2'.ok hfree hfr hjs
  have C2 := cells_of I2' cp
  rw [ew] at C2
  have cnf : ∀ y c, (cloFrom X.env.cells scope.names []).lookup y = some c → c ∉ frs X.stack := fun y c e m => by
    have e' := cp.sub y c e
    have yf : y ∈ fr := by
      rcases cloFrom_mem (PySem.mem_of_lookup e) with q | ⟨q, _⟩
      · cases q
      · exact S.free _ q rfl
    rcases List.mem_cons.mp (I2'.stkSub _ m) with q | q
    · exact I2'.cne y c e' q
    · obtain ⟨_, o, ho, _⟩ := I2'.ok.funs.mem q
      exact absurd (Heap.lt_size ho) (Nat.not_lt.mpr (I2'.ok.cab y c (hfn y yf) e'))
  refine ⟨fun H' h' u => ⟨_, _, _, _, u.keep fl _ at2 f2 nf (by simp)⟩, ?_⟩
  intro A' outer' s' H' us' vs' Q' E' ρ' ys st' pre' hr' e0' u' r' rd' rs' kr'
  have one1 : ys = [] := by
    match ys, kr' with
    | [], _ => rfl
    | _ :: _, z => exact z.elim
  subst one1
  have kr' : KR X.K X.mg (rD X.K X.mg) (fun cls d _ H'' => E' cls d H'') [] Q' H' ρ' (evE G (cs.map some) lb st') := kr'
  cases rd' with
  | nil =>
    cases r'
    have cRec : s'.heap.CodeRec (.ref c') (X.env.qual ++ "<lambda>") := by
      obtain ⟨t2, q1, tri, amg⟩ := tP2
      obtain ⟨m2, q2⟩ := u'.tbls P _ q1
      obtain ⟨tab, q3, _, q5⟩ := rs'.tab _ mT
      rw [q2] at q3
      cases q3
      obtain ⟨c2, q6, q7⟩ := q5 lpos (.ref c') (by
        rw [Array.toList_append]
        exact among_keep _ tri amg)
      cases q6
      exact codeO_at e0'.hok q7
    have C3 : CellsAt (cloFrom X.env.cells scope.names []) fr (wv.map some) s'.heap H' := by
      have kp : ∀ y c, (cloFrom X.env.cells scope.names []).lookup y = some c → ∀ v, s2.heap.IsCell c v → s'.heap.IsCell c v := fun y c e v ⟨o, ho, hd⟩ => ⟨o, u'.keep c o ho (C2.all y c e).1 (cnf y c e) (by simp), hd⟩
      refine ⟨C2.len, fun y c e => ?_, C2.inj, fun i y e => ?_⟩
      · obtain ⟨n, v, z⟩ := C2.all y c e
        refine ⟨?_, v, kp y c e v z⟩
        obtain ⟨o, ho, _⟩ := z
        exact u'.free c o ho n (by simp)
      · obtain ⟨c, hc, hv⟩ := C2.has i y e
        exact ⟨c, hc, fun v ev => let ⟨u, r, z⟩ := hv v ev; ⟨u, r, kp y c hc _ z⟩⟩
    have lw : wv.length = fr.length := by have := C2.len; simpa using this
    have lcs : cs.length = wv.length := RDs.length rw_
    have es0 : startF fr [] (wv.map some) = wv.map some := by
      unfold startF
      simp [lw]
    obtain ⟨tl, rfl⟩ := pre'
    have rcs : RDs X.K X.mg H' (ρ2 ++ tl) cs wv := stills0_rd u' rw_ sw
    refine lam_run (k := k0) (F := ⟨"<lambda>", X.env.qual ++ "<lambda>", argZ, [], scope, cloFrom X.env.cells scope.names [], c'⟩) (N := fr) (pn := []) (fr := fr) (vs := []) (ws := wv.map some) S hr' e0' (u'.keep fl _ at2 f2 nf (by simp)) cRec bind_z rfl C3 .nil (fun hroom => je_of (hbody A' outer' s' H' E' fl _ rfl hroom) (fun cls d _ H => E' cls d H) (takes_of rfl rfl rfl rfl)) ?_
    refine ⟨ρ2 ++ tl, cs.map some, st', ?_, rs', kr'⟩
    rw [es0]
    refine ⟨⟨by simp [lcs], fun i f q => by cases q⟩, fun i d q => ?_⟩
    simp only [List.getElem?_map, Option.map_eq_some_iff] at q ⊢
    obtain ⟨d', q, e⟩ := q
    cases e
    obtain ⟨v, g1, g2⟩ := rcs.get q
    exact ⟨v, ⟨v, g1, rfl⟩, g2⟩
theorem ja_lam0 {f : Str} {c P : Addr} {js : List Nat} {fr : List Str} {lb : Ex} {lbody : Expr} {scope : Scope} {lpos : Pos} (gd : Gd X k) (g0 : GX X k0 G) (hk : k0 + 2 ≤ k) (hg : Gl X f) (hdb : (f == ("__debug__" : Str)) = false)
    (T : LamTx0 X k0 G lpos scope fr js lb lbody c P) :
    JA X L (fun env st => evA G env (.lam0 f js lb) st) (.Call (.Name f p) [.Lambda argZ lbody scope lpos] [] pos) := by
  have ha : JL X L (fun env st => evEs G env .nil st) [] := jl_nil
  intro W tk
  refine ⟨fun pins s σ H Q I h => ?_⟩
  obtain ⟨ρ, env, st, he, rs, h⟩ := h
  simp only [evA] at h
  split at h
  · rename_i cs FH ecs eFH
    have h : KR X.K X.mg (RA X.K X.mg) W σ Q H ρ ((evEs G env .nil st).bind fun xs st => (FH (actOf0 G cs lb) xs st).bind fun y st => .ok (.d y) st) := by
      have e0 : evEs G env .nil st = .ok [] st := by simp only [evEs]
      rw [e0]
      exact h
    obtain ⟨a, fd, ps, h1, h2, h3, h4, h5⟩ := g0.hf f FH eFH
    obtain ⟨hcd, TB, mT, one, S, hfree, hfr, hjs, hfn, hstk, hbody⟩ := id T
    have fre : ∀ y ∈ scope.names, y.2 = .free → ∃ c, X.env.cells.lookup y.1 = some c := fun y hy e => (hfree y hy e).elim (fun z => I.ok.has _ (.inl z)) fun z => I.ok.has _ (.inr z)
    have fsub : ∀ z, z ∉ frs X.stack → z ∉ X.fs := fun z n m => n (by
      rw [hstk]
      obtain ⟨e, he, q⟩ := List.mem_filterMap.mp m
      exact List.mem_filterMap.mpr ⟨e, List.mem_cons_of_mem _ he, q⟩)
    refine wpAny_Call_Name_kw (ld_glob I hg h1 ?_ hdb)
    refine PySem.W.callWith_K (h₀ := X.base) I.ok.mod.kin h2 ?_ (by rfl) (by rfl)
    show wpAny _ _ (spliced ((false, eval (.Lambda argZ lbody scope lpos) X.env) :: backTo pos (starEach [] X.env))) _ _ s
    refine Calls.spliced_cons (lam_new I TB hcd mT one rs.tab rfl fre ?_)
    rintro fl c' pm ctv H1 s1 I1 gr at1 f0 nf nl ⟨t1, tP, tri, amg⟩
    have e1 : Ext ρ H ρ H1 := ⟨⟨[], by simp⟩, fun _ m => .inl m, fun a o q _ nt => gr.up a o q nt, fun a o q im => gr.up a o q (fun ps z => by subst z; exact im), gr.dn, gr.gr⟩
    have rs1 : RS X.K X.mg H1 ρ st := rs.same e1 gr.tb fun a ha => by
      obtain ⟨o, q, _, nt⟩ := rs.there ha
      rw [gr.up a o q nt, q]
    have Ip : Inv X ((fl, lamO X argZ lbody scope pm c' ctv) :: pins) σ H1 s1 := ⟨I1.ok, I1.os, I1.bare, I1.base, I1.loc, I1.cell, I1.free, I1.freeC, fun z hz => by
      rcases List.mem_append.mp hz with m | m
      · exact I1.pin z (List.mem_append.mpr (.inl m))
      · rcases List.mem_cons.mp m with m | m
        · rw [m]
          exact ⟨at1, f0, nl, fsub _ nf, fun v q => by cases q⟩
        · exact I1.pin z (List.mem_append.mpr (.inr m)), I1.hok, I1.len⟩
    refine thn ((ha W tk).run pos ((fl, lamO X argZ lbody scope pm c' ctv) :: pins) s1 σ H1 (fun vs H2 => ∃ ρ2 ds st2, Ext ρ H1 ρ2 H2 ∧ RDs X.K X.mg H2 ρ2 ds vs ∧ RS X.K X.mg H2 ρ2 st2 ∧ KR X.K X.mg (rD X.K X.mg) (fun cls d _ H' => WE W σ cls d H') [] Q H2 ρ2 (FH (actOf0 G cs lb) ds st2)) Ip ⟨ρ, env, st, he.mono e1, rs1, KR.bindAt e1 h ?_⟩) ?_
    · intro ds st2 vs H2 ρ2 x2 s2 r2 k2
      refine ⟨ρ2, ds, st2, x2, r2, s2, ?_⟩
      revert k2
      generalize FH _ ds st2 = m
      intro k2
      cases m with
      | bad => exact k2.elim
      | exc c fs st3 => exact fun cls d H' ρ' f s r => k2 cls d H' ρ' ((e1.trans x2).trans f) s r
      | ok z st3 => exact fun b H' ρ' f s r => k2 b H' ρ' ((e1.trans x2).trans f) s (.d r)
    · rintro us s2 ⟨vs, H2, I2, r, ρ2, ds, st2, x2, g1, g2, g3⟩
      refine ⟨I2.kIn, ?_⟩
      have I2' : Inv X pins σ H2 s2 := ⟨I2.ok, I2.os, I2.bare, I2.base, I2.loc, I2.cell, I2.free, I2.freeC, fun z hz => I2.pin z (by
        rcases List.mem_append.mp hz with m | m
        · exact List.mem_append.mpr (.inl m)
        · exact List.mem_append.mpr (.inr (List.mem_cons_of_mem _ m))), I2.hok, I2.len⟩
      obtain ⟨at2, f2, _⟩ := I2.pin _ (List.mem_append.mpr (.inr List.mem_cons_self))
      have he2 := (he.mono e1).mono x2
      have la := lam_at0 T I2' at2 f2 nf he2 ecs (by
        obtain ⟨m1, q1⟩ := x2.tb P t1 tP
        obtain ⟨tab, q3, q4, _⟩ := g2.tab _ mT
        rw [q1] at q3
        cases q3
        exact ⟨_, q1, q4, by rw [Array.toList_append]; exact among_keep _ tri amg⟩)
      have lds : ds.length + 1 = ps.length := h5 _ ds st2 ⟨_, rfl, fun z => by rw [z] at g3; exact g3.elim⟩
      have lvs : vs.length + 1 = ps.length := by rw [← RDs.length g1]; exact lds
      have b := h3 s2 (.ref fl :: us) I2'.kIn (by rw [List.append_nil, List.length_cons, ← r.length]; exact lvs)
      rw [List.append_nil] at b
      exact run_act tk I2' (h4 (k0 + 1) (by omega) X.A X.stack s2 H2 us vs Q (WE W σ) fl _ ρ2 ds st2 (gd.room.mono (by omega)) I2'.env0 b r lvs la g1 g2 g3)
  · exact h.elim
end
end Ev
namespace Ev
open PySem PySem.Spec PyProof.Rows L2 LamX NdefX
variable {L : LT}
theorem cx_no {P : Program} {w : World} {o : List PySem.Env} {H : Hp} {s s' : Shared} {e : Value} (h : L2.CX P w o H s (fun _ _ _ => False) e s') : False := by
  obtain ⟨_, _, _, _, _, _, _, _, _, _, _, _, h⟩ := h
  exact h
section
variable {X : Cx} {pins : List (Addr × Obj)} {σ : L2.St} {H H2 : Hp} {s s2 : Shared} {h' : Heap} {j : Addr} {o o' : Obj} {tk : Nat}
/-- a pinned object, made in this frame, is changed -/
theorem inv_at (V : Inv X ((j, o) :: pins) σ H s) (sb : ∀ b u, b ≠ j → s.heap.get? b = some u → h'.get? b = some u) (hn : h'.get? j = some o') (hd : ∀ v, o'.data ≠ .cell v) (ge : X.s_0.heap.objs.size ≤ j) (np : ∀ p ∈ X.pn ++ pins, p.1 ≠ j) : Inv X ((j, o') :: pins) σ H { s with heap := h', toks := tk } := by
  obtain ⟨p1, p2, p3, p4, p5⟩ := V.pin (j, o) (List.mem_append.mpr (.inr List.mem_cons_self))
  have V1 : Inv X pins σ H s := V.pins_of fun p hp => V.pin p (List.mem_append.mpr (.inr (List.mem_cons_of_mem _ hp)))
  have cj : ∀ x c, X.env.cells.lookup x = some c → c ≠ j := fun x c e z => by
    obtain ⟨v, oc, e1, e2⟩ := V.cell x c e
    rw [z, p1] at e1
    cases e1
    exact p5 v e2
  have tr : ∀ {b u}, H b = some u → b ≠ j := fun {b u} e z => by
    rw [z, p2] at e; cases e
  have V2 : Inv X pins σ H { s with heap := h', gens := s.gens, drawn := s.drawn, toks := tk } := V1.step (ch := [j]) (fun b hb => by
      rw [List.mem_singleton.mp hb]
      exact ⟨.inr ge, p3, cj, np⟩) (fun b u _ _ hb e _ => sb b u (fun z => hb (by simp [z])) e) (fun b u _ _ hb e _ => ⟨u.slots, sb b u (fun z => hb (by simp [z])) e⟩) (fun b u _ _ e => e) (fun b u hb e => ⟨u, sb b u (fun z => hb (by simp [z])) e⟩)
    (fun b xs e => e) (fun b u xs e => e) (fun b ps e => ⟨#[], by simpa using e⟩) (fun m ⟨ob, es, ep, e, r⟩ => ⟨ob, es, ep, sb _ _ (Ne.symm p3) e, r⟩) (fun b u e => by
      refine (V1.hok b u e).stay (fun d v hd q => sb d v ?_ q) (fun d q => q) (fun d xs q => q)
      rcases hd with z | z
      · rw [z]; exact tr e
      · exact tr z) V1.bare
  refine V2.pins_of fun p hp => ?_
  rcases List.mem_cons.mp hp with z | z
  · rw [z]; exact ⟨hn, p2, p3, p4, hd⟩
  · exact V2.pin p (List.mem_append.mpr (.inr z))
theorem un_poke {fs : List Addr} {h2 h : Heap} (u : Un fs [] H2 H h2 h) (sb : ∀ b v, b ≠ j → h.get? b = some v → h'.get? b = some v) (hj : h2.get? j = none) : Un fs [] H2 H h2 h' := by
  have nj : ∀ {b v}, h2.get? b = some v → b ≠ j := fun {b v} e z => by
    rw [z, hj] at e; cases e
  exact ⟨fun b v e n f x => sb b v (nj e) (u.keep b v e n f x), fun b v e n f x => let ⟨sl, q⟩ := u.slot b v e n f x; ⟨sl, sb b _ (nj e) q⟩, u.free, fun b v e x => let ⟨v2, q⟩ := u.there b v e x; ⟨v2, sb b v2 (nj e) q⟩, u.tups, u.frzs, u.tbls⟩
theorem key_call {Act : List D → M D} {k0 : Nat} {fl : Addr} {r0 : List Addr} {ρ : List Addr} {st st1 : Stt} {y : D} {v : V} {u : Value} {i : Int} {E : Value → Shared → Prop} {Qf : Value → Shared → Prop} (la : LamAt X.prog X.w X.K X.mg X.base (k0 + 1) X.stack s2 H2 r0 fl Act) (pre0 : ∃ t, ρ = r0 ++ t) (V : Inv X pins σ H s) (un : Un (frs X.stack) [] H2 H s2.heap s.heap) (hr : Rm (k0 + 1) X.A.in1)
    (r : RelV v u) (rd : RD X.K X.mg H ρ y v) (rs : RS X.K X.mg H ρ st) (e : Act [y] st = .ok (.int i) st1) (go : ∀ s' H' ρ' t, Inv X pins σ H' s' → Un (frs X.stack) [] H2 H' s2.heap s'.heap → Ext ρ H ρ' H' → RS X.K X.mg H' ρ' st1 → Qf (.int i t) s') : wpAny (model X.prog X.w) X.A.in1 (call (.ref fl) [u]) Qf E s := by
  apply wpAny_call
  apply codeAny_mono (la.2 X.A.in1 X.stack s H [u] [v] (fun w H' => w = .int i ∧ ∃ ρ', Ext ρ H ρ' H' ∧ RS X.K X.mg H' ρ' st1) (fun _ _ _ => False) ρ [y] st pre0 hr V.env0.in1 un (.cons r .nil) (.cons rd .nil) rs (by
    rw [e]
    intro b H' ρ' x s r
    cases r
    exact ⟨rfl, ρ', x, s⟩))
  rintro (ex | f) t2 done
  · exact (cx_no done).elim
  · cases f with
    | ret w =>
      obtain ⟨vv, H', os, bare, un2, hok, rv, rfl, ρ', x, rs2⟩ := done
      obtain ⟨tt, rfl⟩ := rv
      obtain ⟨hh, g, d, t, os2⟩ := t2
      obtain rfl : os2 = s.os := os
      exact go _ H' ρ' tt (V.call (ch := []) un2 hok bare (fun b z => by cases z)) (un.trans un2) x rs2
    | _ => exact (show False from done).elim
theorem inv_drop (V : Inv X ((j, o) :: pins) σ H s) (sb : ∀ b u, b ≠ j → s.heap.get? b = some u → h'.get? b = some u) (ge : X.s_0.heap.objs.size ≤ j) (np : ∀ p ∈ X.pn ++ pins, p.1 ≠ j) : Inv X pins σ H { s with heap := h', toks := tk } := by
  obtain ⟨p1, p2, p3, p4, p5⟩ := V.pin (j, o) (List.mem_append.mpr (.inr List.mem_cons_self))
  have V1 : Inv X pins σ H s := V.pins_of fun p hp => V.pin p (List.mem_append.mpr (.inr (List.mem_cons_of_mem _ hp)))
  have cj : ∀ x c, X.env.cells.lookup x = some c → c ≠ j := fun x c e z => by
    obtain ⟨v, oc, e1, e2⟩ := V.cell x c e
    rw [z, p1] at e1
    cases e1
    exact p5 v e2
  have tr : ∀ {b u}, H b = some u → b ≠ j := fun {b u} e z => by
    rw [z, p2] at e; cases e
  exact V1.step (ch := [j]) (fun b hb => by
      rw [List.mem_singleton.mp hb]
      exact ⟨.inr ge, p3, cj, np⟩) (fun b u _ _ hb e _ => sb b u (fun z => hb (by simp [z])) e) (fun b u _ _ hb e _ => ⟨u.slots, sb b u (fun z => hb (by simp [z])) e⟩) (fun b u _ _ e => e) (fun b u hb e => ⟨u, sb b u (fun z => hb (by simp [z])) e⟩)
    (fun b xs e => e) (fun b u xs e => e) (fun b ps e => ⟨#[], by simpa using e⟩) (fun m ⟨ob, es, ep, e, r⟩ => ⟨ob, es, ep, sb _ _ (Ne.symm p3) e, r⟩) (fun b u e => by
      refine (V1.hok b u e).stay (fun d v hd q => sb d v ?_ q) (fun d q => q) (fun d xs q => q)
      rcases hd with z | z
      · rw [z]; exact tr e
      · exact tr z) V1.bare
/-- the loop of min(xs, key=..) -/
theorem min_go {Act : List D → M D} {key : D → Stt → Rs Int} {k0 : Nat} {fl T Jt Mt : Addr} {ρ2 : List Addr} {xs : List D} {vs : List V} {z : D} {stz : Stt} {R : Result → Shared → Prop} (hh : X.A.handled = none) (hr : Rm (k0 + 1) X.A.in1) (la : LamAt X.prog X.w X.K X.mg X.base (k0 + 1) X.stack s2 H2 ρ2 fl Act)
    (hk : ∀ y st i st1, key y st = .ok i st1 → Act [y] st = .ok (.int i) st1) (hT : SqT X.K H2 T vs) (rx : RDs X.K X.mg H2 ρ2 xs vs) (jn : s2.heap.get? Jt = none) (mn : s2.heap.get? Mt = none) (jm : Mt ≠ Jt) (tj : T ≠ Jt) (tm : T ≠ Mt) (jg : X.s_0.heap.objs.size ≤ Jt) (mg' : X.s_0.heap.objs.size ≤ Mt)
    (jp : ∀ p ∈ X.pn ++ pins, p.1 ≠ Jt) (mp : ∀ p ∈ X.pn ++ pins, p.1 ≠ Mt) (fin : ∀ u v s' H' ρ', Inv X pins σ H' s' → Ext ρ2 H2 ρ' H' → RS X.K X.mg H' ρ' stz → RelV v u → RD X.K X.mg H' ρ' z v → R (.ok (.ret u)) s') :
    ∀ (n i : Nat) (b : D) (kb : Int) (ub : Value) (vb : V) (tb : Tok) (cnt : Nat) (oJ : Obj) (st : Stt) (s : Shared) (H : Hp) (ρ : List Addr), xs.length - i = n → i ≤ xs.length → Inv X ((Mt, seqObj "list" #[ub, .int kb tb] cnt) :: (Jt, oJ) :: pins) σ H s → s.heap.IsTupleIter Jt T i → Un (frs X.stack) [] H2 H s2.heap s.heap → Ext ρ2 H2 ρ H → RS X.K X.mg H ρ st → RelV vb ub → RD X.K X.mg H ρ b vb →
      minGo key (xs.drop i) b kb st = .ok z stz → codeAny (model X.prog X.w) X.A (.builtin "min.loop" ⟨[.ref Jt, .ref fl, .ref Mt], []⟩) R s := by
  have nm : (toString "min" ++ toString ".loop" : String) = "min.loop" := by decide
  intro n
  induction n with
  | zero =>
    intro i b kb ub vb tb cnt oJ st s H ρ hn hi V it un x rs rb rdb e
    have hi2 : i = xs.length := by omega
    rw [hi2, List.drop_length] at e
    simp only [minGo] at e
    cases e
    obtain ⟨its, rv, tup, _⟩ := V.tuple (x.sqT hT)
    have W := Walks.tuple (prog := X.prog) (w := X.w) (A := X.A.in1) hh Jt T tj its.toArray
    have sz : its.toArray.size = i := by rw [List.size_toArray, ← rv.length, ← rx.length, hi2]
    have mAt := (V.pin (Mt, _) (List.mem_append.mpr (.inr List.mem_cons_self))).1
    apply codeAny_builtin PySem.F.entry_min_loop
    rw [Around.under_plainId PySem.F.plain_min_loop _]
    show wpAny (model X.prog X.w) X.A.in1 (seqItems? (.ref Mt) >>= _) _ _ s
    apply wpAny_bind; apply wpAny_seqItems mAt rfl
    show wpAny (model X.prog X.w) X.A.in1 (tryCatch (pyNext (.ref Jt)) _ >>= _) _ _ s
    apply wpAny_bind; apply wpAny_tryCatch
    apply W.done _ _ _ ⟨by rw [sz]; exact it, tup⟩
    intro h1 t1 keep
    have V1 : Inv X ((Mt, seqObj "list" #[ub, .int kb tb] cnt) :: pins) σ H { s with heap := h1, toks := t1 } := inv_drop (j := Jt) (o := oJ) (V.pins_of fun p hp => V.pin p (by
      simp only [List.mem_append, List.mem_cons] at hp ⊢
      rcases hp with h | h | h
      · exact .inr (.inr (.inl h))
      · exact .inr (.inl h)
      · exact .inr (.inr (.inr h)))) (fun b u nb q => keep b u (by simpa using nb) q) jg (fun p hp => by
        simp only [List.mem_append, List.mem_cons] at hp
        rcases hp with h | h | h
        · exact jp p (by simp [h])
        · rw [h]; exact jm
        · exact jp p (by simp [h]))
    have mAt1 := (V1.pin (Mt, _) (List.mem_append.mpr (.inr List.mem_cons_self))).1
    show wpAny (model X.prog X.w) X.A.in1 (updateSeq Mt (fun _ => #[]) >>= _) _ _ _
    apply wpAny_bind; apply wpAny_updateSeq mAt1 rfl
    apply wpAny_bind; apply wpAny_letGo; apply wpAny_pure
    have upd1 := Heap.SameBut.update h1 Mt (Obj.mapSeq fun _ => (#[] : Array Value))
    exact fin ub vb _ H ρ (inv_drop (tk := t1) V1 (fun b u nb q => (upd1.2 b nb).trans q) mg' mp) x rs rb rdb
  | succ n ih =>
    intro i b kb ub vb tb cnt oJ st s H ρ hn hi V it un x rs rb rdb e
    have lt : i < xs.length := by omega
    rw [List.drop_eq_getElem_cons lt] at e
    simp only [minGo] at e
    split at e
    · rename_i kz st1 ek
      obtain ⟨its, rv, tup, _⟩ := V.tuple (x.sqT hT)
      have W := Walks.tuple (prog := X.prog) (w := X.w) (A := X.A.in1) hh Jt T tj its.toArray
      have sz : its.toArray.size = xs.length := by rw [List.size_toArray, ← rv.length, ← rx.length]
      have mAt := (V.pin (Mt, _) (List.mem_append.mpr (.inr List.mem_cons_self))).1
      obtain ⟨vi, gvi, rdi⟩ := rx.get (List.getElem?_eq_getElem lt)
      obtain ⟨ui, gui, rvi⟩ := rv.get gvi
      apply codeAny_builtin PySem.F.entry_min_loop
      rw [Around.under_plainId PySem.F.plain_min_loop _]
      show wpAny (model X.prog X.w) X.A.in1 (seqItems? (.ref Mt) >>= _) _ _ s
      apply wpAny_bind; apply wpAny_seqItems mAt rfl
      show wpAny (model X.prog X.w) X.A.in1 (tryCatch (pyNext (.ref Jt)) _ >>= _) _ _ s
      apply wpAny_bind; apply wpAny_tryCatch
      apply W.item i _ _ _ (by rw [sz]; exact lt) ⟨it, tup⟩
      intro u1 h1 t1 hP st' keep
      have eu : u1 = ui := by
        have : its[i]? = some u1 := by simpa using hP
        rw [gui] at this
        exact (Option.some.inj this).symm
      subst eu
      obtain ⟨oJ1, gJ1, cJ1, dJ1⟩ := id st'.1
      have V1 : Inv X ((Jt, oJ1) :: (Mt, seqObj "list" #[ub, .int kb tb] cnt) :: pins) σ H { s with heap := h1, toks := t1 } := inv_at (j := Jt) (o := oJ) (V.pins_of fun p hp => V.pin p (by
        simp only [List.mem_append, List.mem_cons] at hp ⊢
        rcases hp with h | h | h
        · exact .inr (.inr (.inl h))
        · exact .inr (.inl h)
        · exact .inr (.inr (.inr h)))) (fun b u nb q => keep b u (by simpa using nb) q) gJ1 (fun v q => by rw [dJ1] at q; cases q) jg (fun p hp => by
          simp only [List.mem_append, List.mem_cons] at hp
          rcases hp with h | h | h
          · exact jp p (by simp [h])
          · rw [h]; exact jm
          · exact jp p (by simp [h]))
      have un1 : Un (frs X.stack) [] H2 H s2.heap h1 := un_poke un (fun b u nb q => keep b u (by simpa using nb) q) jn
      show wpAny (model X.prog X.w) X.A.in1 (tryCatch (holding [u1] (call (.ref fl) [u1])) _ >>= _) _ _ _
      apply wpAny_bind; apply wpAny_tryCatch; apply wpAny_holding
      apply key_call la x.pre V1 un1 hr rvi (rdi.mono x) rs (hk _ _ _ _ ek)
      intro s3 H3 ρ3 t3 V3 un3 x3 rs3
      show wpAny (model X.prog X.w) X.A.in1 (tryCatch (holding [u1, .int kz t3] (richCompare .Lt (.int kz t3) (.int kb tb) >>= _)) _ >>= _) _ _ _
      apply wpAny_bind; apply wpAny_tryCatch; apply wpAny_holding; apply wpAny_bind
      refine CmpOf.ints_lt (prog := X.prog) (w := X.w) (A := X.A.in1) (P := fun a v => ∃ t, v = .int (if a = 0 then kz else kb) t) (fun a => if a = 0 then kz else kb) (fun _ _ h => h) 0 1 _ _ _ _ _ ⟨t3, rfl⟩ ⟨tb, rfl⟩ ?_
      apply wpAny_bind; apply wpAny_holding; apply wpAny_truthy_bool; apply wpAny_bind; apply wpAny_letGo; apply wpAny_pure
      have mAt3 := (V3.pin (Mt, _) (List.mem_append.mpr (.inr (List.mem_cons_of_mem _ List.mem_cons_self)))).1
      have jAt3 := (V3.pin (Jt, _) (List.mem_append.mpr (.inr List.mem_cons_self))).1
      by_cases c : kz < kb
      · rw [if_pos c] at e
        simp only [c, decide_true, if_true, if_false, Nat.one_ne_zero]
        have upd3 := Heap.SameBut.update s3.heap Mt (Obj.mapSeq fun _ => #[u1, .int kz t3])
        have gM3 := get?_update_seq mAt3 fun _ => #[u1, .int kz t3]
        apply wpAny_bind; apply wpAny_updateSeq mAt3 rfl; apply wpAny_bind; apply wpAny_letGo
        rw [nm]
        have V4 := inv_at (tk := s3.toks) (j := Mt) (o := seqObj "list" #[ub, .int kb tb] cnt) (pins := (Jt, oJ1) :: pins) (V3.pins_of fun p hp => V3.pin p (by
          simp only [List.mem_append, List.mem_cons] at hp ⊢
          rcases hp with h | h | h
          · exact .inr (.inr (.inl h))
          · exact .inr (.inl h)
          · exact .inr (.inr (.inr h)))) (fun b u nb q => (upd3.2 b nb).trans q) gM3 (fun v q => by cases q) mg' (fun p hp => by
            simp only [List.mem_append, List.mem_cons] at hp
            rcases hp with h | h | h
            · exact mp p (by simp [h])
            · rw [h]; exact Ne.symm jm
            · exact mp p (by simp [h]))
        exact wpAny_pure ⟨plainId_quiet PySem.F.plain_min_loop _, ih (i + 1) _ kz u1 vi t3 _ oJ1 st1 _ H3 ρ3 (by omega) (by omega) V4 ⟨oJ1, (upd3.2 Jt (Ne.symm jm)).trans jAt3, cJ1, dJ1⟩ (un_poke un3 (fun b u nb q => (upd3.2 b nb).trans q) mn) (x.trans x3) rs3 rvi (rdi.mono (x.trans x3)) e⟩
      · rw [if_neg c] at e
        simp only [c, decide_false, Bool.false_eq_true, if_true, if_false, Nat.one_ne_zero]
        apply wpAny_bind; apply wpAny_letGo
        rw [nm]
        exact wpAny_pure ⟨plainId_quiet PySem.F.plain_min_loop _, ih (i + 1) b kb ub vb tb cnt oJ1 st1 _ H3 ρ3 (by omega) (by omega) (V3.pins_of fun p hp => V3.pin p (by
          simp only [List.mem_append, List.mem_cons] at hp ⊢
          rcases hp with h | h | h
          · exact .inr (.inr (.inl h))
          · exact .inr (.inl h)
          · exact .inr (.inr (.inr h)))) ⟨oJ1, jAt3, cJ1, dJ1⟩ un3 (x.trans x3) rs3 rb (rdb.mono x3) e⟩
    · cases e
end
end Ev
namespace Ev
open PySem PySem.Spec PyProof.Rows L2 LamX NdefX
variable {L : LT}
section
variable {X : Cx} {k k0 : Nat} {G : Gam} {a : Expr} {p pos kpos : Pos}
theorem keyI_ok {r : Rs A} {i : Int} {st1 : Stt} (h : keyI r = .ok i st1) : r = .ok (.d (.int i)) st1 := by
  cases r with
  | bad => cases h
  | exc c fs s => cases h
  | ok z s =>
    simp only [keyI, Rs.bind] at h
    split at h
    · cases h; rfl
    · cases h
theorem ja_minl {x : Str} {c P : Addr} {js : List Nat} {fr : List Str} {lb : Ex} {xa : Ex} {lbody : Expr} {scope : Scope} {lpos ap : Pos} (gx : GX X k G) (gd : Gd X k) (hk : k0 + 2 ≤ k) (hg : Gl X "min")
    (T : LamTx X k0 G x ap lpos scope fr js lb lbody c P) (ha : JA X L (fun env st => evA G env xa st) a) (hs1 : starEach (a :: []) X.env = (false, eval a X.env) :: starEach [] X.env) :
    JA X L (fun env st => evA G env (.minl js lb xa) st) (.Call (.Name "min" p) [a] [⟨some "key", .Lambda (argOne x ap) lbody scope lpos, kpos⟩] pos) := by
  intro W tk
  refine ⟨fun pins s σ H Q I h => ?_⟩
  obtain ⟨ρ, env, st, he, rs, h⟩ := h
  simp only [evA] at h
  have hm := gx.bt "min" (by decide +kernel)
  have hb : backTo pos (starEach [a] X.env) = (false, eval a X.env) :: backTo pos (starEach [] X.env) := by rw [hs1]; rfl
  refine wpAny_Call_Name_kw (ld_blt I hg hm (show bootBuiltins "min" = some (.builtin "min") by decide +kernel) ?_ (by decide +kernel) (by decide +kernel))
  refine PyProof.Rows.callWith_kw (thn ((pa_cons (ha W tk) pa_nil hs1).run pos pins s σ H (fun vs H1 => ∃ v ρ1 y st1, vs = [v] ∧ Ext ρ H ρ1 H1 ∧ RS X.K X.mg H1 ρ1 st1 ∧ RA X.K X.mg H H1 ρ1 y v ∧ KR X.K X.mg (RA X.K X.mg) W σ Q H ρ (match capsOf env js, tupOf y with
    | some cs, some xs => if lenOk xs.length = true then (minTop (fun y st => keyI (evA G (some y :: cs.map some) lb st)) xs st1).bind fun y st => .ok (.d y) st else .bad
    | _, _ => .bad)) I ⟨ρ, env, st, he, rs, KR.bind h ?_⟩) ?_) hb (by rw [hb]; rfl) (by rfl) (by rfl)
  · intro y st1 v H1 ρ1 e1 s1 r1 k1
    exact ⟨v, ρ1, y, st1, rfl, e1, s1, r1, k1⟩
  · rintro us s1 ⟨vs1, H1, I1, r1, v, ρ1, y, st1, rfl, e1, rs1, ra, k1⟩
    obtain ⟨u, rfl, ru⟩ := vals1 r1
    split at k1
    · rename_i cs xs ecs exs
      split at k1
      · rename_i len
        obtain ⟨hcd, TB, mT, one, S, hfree, hfr, hjs, hfn, hstk, hbody⟩ := id T
        have fre : ∀ y ∈ scope.names, y.2 = .free → ∃ c, X.env.cells.lookup y.1 = some c := fun y hy e => (hfree y hy e).elim (fun z => I1.ok.has _ (.inl z)) fun z => I1.ok.has _ (.inr z)
        obtain ⟨Ta, vs, rfl, hT, rx⟩ := ra.seqT exs
        cases ru
        show wpAny _ _ (evalAll [(do let v ← eval (.Lambda (argOne x ap) lbody scope lpos) X.env; standAt pos; pure v)]) _ _ s1
        refine wpAny_evalAll_cons (wpAny_bind (lam_new I1 TB hcd mT one rs1.tab rfl fre ?_))
        rintro fl c' pm ctv H2 s2 I2 gr at1 f0 nf nl tP2
        have e2 : Ext ρ1 H1 ρ1 H2 := ⟨⟨[], by simp⟩, fun _ m => .inl m, fun a o q _ nt => gr.up a o q nt, fun a o q im => gr.up a o q (fun ps z => by subst z; exact im), gr.dn, gr.gr⟩
        have rs2 : RS X.K X.mg H2 ρ1 st1 := rs1.same e2 gr.tb fun a ha => by
          obtain ⟨o, q, _, nt⟩ := rs1.there ha
          rw [gr.up a o q nt, q]
        have la := lam_at T I2 at1 f0 nf ((he.mono e1).mono e2) ecs tP2
        have hT2 := e2.sqT hT
        have rx2 := rx.mono e2
        refine wpAny_bind (wpAny_standAt (wpAny_pure (wpAny_evalAll_nil ?_)))
        show wpAny (model X.prog X.w) X.A (call (.builtin "min") [.ref Ta] [(Str.ofString "key", .ref fl)]) (EP X pins σ Q) X.xe s2
        have nm : (toString "min" ++ toString ".loop" : String) = "min.loop" := by decide
        have hh := gd.room.r.hd
        obtain ⟨its, rv, tup, _⟩ := I2.tuple hT2
        have Tlt : Ta < s2.heap.objs.size := by
          obtain ⟨o, ho, _⟩ := id tup
          exact Heap.lt_size ho
        -- where it begins
        cases xs with
        | nil => exact k1.elim
        | cons y0 ys =>
          simp only [minTop] at k1
          cases ek : keyI (evA G (some y0 :: cs.map some) lb st1) with
          | bad => rw [ek] at k1; exact k1.elim
          | exc _ _ _ => rw [ek] at k1; exact k1.elim
          | ok kz st2 =>
            rw [ek] at k1
            simp only at k1
            cases eg : minGo (fun y st => keyI (evA G (some y :: cs.map some) lb st)) ys y0 kz st2 with
            | bad => rw [eg] at k1; exact k1.elim
            | exc _ _ _ =>
              have : ∀ (r : List D) (b : D) (kb : Int) (st : Stt) (c : Str) (fs : List D) (s : Stt), minGo (fun y st => keyI (evA G (some y :: cs.map some) lb st)) r b kb st ≠ .exc c fs s := by
                intro r
                induction r with
                | nil => intro b kb st c fs s z; cases z
                | cons z r ih =>
                  intro b kb st c fs s e
                  simp only [minGo] at e
                  split at e
                  · split at e
                    · exact ih _ _ _ _ _ _ e
                    · exact ih _ _ _ _ _ _ e
                  · cases e
              exact absurd eg (this _ _ _ _ _ _ _)
            | ok z stz =>
              rw [eg] at k1
              have hkey : ∀ y st i st1, (fun y st => keyI (evA G (some y :: cs.map some) lb st)) y st = .ok i st1 → actOf G cs lb [y] st = .ok (.int i) st1 := fun y st i st1 e => by
                have := keyI_ok e
                simp only [actOf, this, Rs.bind, allocA]
              apply kmk_tree PySem.F.kind_min PySem.F.plain_min PySem.F.entry_min (kmk_min_key _ _)
              show wpAny (model X.prog X.w) X.A.in1 (Builtin.Builtins.bindParams "min" ["key", "default"] 0 ⟨[], [(Str.ofString "key", .ref fl)]⟩ >>= _) _ _ s2
              apply wpAny_bind; apply wpAny_of_eq (show Builtin.Builtins.bindParams "min" ["key", "default"] 0 ⟨[], [(Str.ofString "key", .ref fl)]⟩ = pure [some (.ref fl), none] from rfl)
              apply wpAny_bind; apply wpAny_pure; apply wpAny_bind; apply wpAny_pyIter_tuple tup; apply wpAny_bind
              refine wpAny_newList ?_ (Nat.zero_le _)
              rw [nm]
              obtain ⟨it0, hit0⟩ : ∃ o : Obj, o = { cls := .type "tuple_iterator", data := .fields #[.ref Ta, .int 0 0] } := ⟨_, rfl⟩
              rw [← hit0]
              have szp : (s2.heap.push it0).objs.size = s2.heap.objs.size + 1 := size_push' ..
              have g1 : ((s2.heap.push it0).push (seqObj "list" #[] 0)).get? s2.heap.objs.size = some it0 := Heap.get?_push_of_some _ (Heap.get?_push_size _ (by rw [hit0]; rfl))
              have g2 : ((s2.heap.push it0).push (seqObj "list" #[] 0)).get? (s2.heap.push it0).objs.size = some (seqObj "list" #[] 0) := Heap.get?_push_size _ rfl
              have grow : ∀ b o, s2.heap.get? b = some o → ((s2.heap.push it0).push (seqObj "list" #[] 0)).get? b = some o := fun b o e => Heap.get?_push_of_some _ (Heap.get?_push_of_some _ e)
              have I3 : Inv X pins σ H2 { s2 with heap := (s2.heap.push it0).push (seqObj "list" #[] 0), toks := s2.toks } := I2.kept grow
              have big : ∀ j, s2.heap.objs.size ≤ j → H2 j = none ∧ j ≠ X.env.locals ∧ j ∉ X.fs ∧ X.s_0.heap.objs.size ≤ j ∧ (∀ p ∈ X.pn ++ pins, p.1 ≠ j) ∧ s2.heap.get? j = none ∧ Ta ≠ j := fun j hj =>
                ⟨I2.hok.fresh hj, fun z => Nat.lt_irrefl _ (Nat.lt_of_lt_of_le I2.lt (z ▸ hj)), I2.nofs hj, Nat.le_trans I2.sz hj, fun p hp z => Nat.lt_irrefl _ (Nat.lt_of_lt_of_le (Heap.lt_size (I2.pin p hp).1) (z ▸ hj)), Heap.get?_none_of_le hj, fun z => Nat.lt_irrefl _ (Nat.lt_of_lt_of_le Tlt (z ▸ hj))⟩
              obtain ⟨a1, a2, a3, a4, a5, a6, a7⟩ := big s2.heap.objs.size (Nat.le_refl _)
              obtain ⟨b1, b2, b3, b4, b5, b6, b7⟩ := big (s2.heap.push it0).objs.size (by omega)
              have mj : (s2.heap.push it0).objs.size ≠ s2.heap.objs.size := by omega
              generalize (s2.heap.push it0).objs.size = Mt at *
              generalize hJt : s2.heap.objs.size = Jt at *
              generalize (s2.heap.push it0).push (seqObj "list" #[] 0) = h3 at *
              have V3 : Inv X ((Jt, it0) :: (Mt, seqObj "list" #[] 0) :: pins) σ H2 { s2 with heap := h3, toks := s2.toks } := I3.pins_of fun p hp => by
                simp only [List.mem_cons] at hp
                rcases hp with z | z | z
                · rw [z]; exact ⟨g1, a1, a2, a3, fun v q => by rw [hit0] at q; cases q⟩
                · rw [z]; exact ⟨g2, b1, b2, b3, fun v q => by cases q⟩
                · exact I3.pin p (List.mem_append.mpr (.inr z))
              apply wpAny_pure
              refine ⟨plainId_quiet PySem.F.plain_min_loop _, ?_⟩
              have W3 := Walks.tuple (prog := X.prog) (w := X.w) (A := X.A.in1) hh Jt Ta a7 its.toArray
              have sz : its.toArray.size = (y0 :: ys).length := by rw [List.size_toArray, ← rv.length, ← rx2.length]
              obtain ⟨vi, gvi, rdi⟩ := rx2.get (i := 0) rfl
              obtain ⟨ui, gui, rvi⟩ := rv.get gvi
              apply codeAny_builtin PySem.F.entry_min_loop
              rw [Around.under_plainId PySem.F.plain_min_loop _]
              show wpAny (model X.prog X.w) X.A.in1 (seqItems? (.ref Mt) >>= _) _ _ _
              apply wpAny_bind; apply wpAny_seqItems g2 rfl
              show wpAny (model X.prog X.w) X.A.in1 (tryCatch (pyNext (.ref Jt)) _ >>= _) _ _ _
              apply wpAny_bind; apply wpAny_tryCatch
              apply W3.item 0 _ _ _ (by rw [sz]; simp) ⟨⟨it0, g1, by rw [hit0] <;> rfl, by rw [hit0] <;> rfl⟩, (show s2.heap.IsTuple Ta its.toArray from tup).at fun o e => grow _ _ e⟩
              intro u1 h4 t4 hP st' keep
              have eu : u1 = ui := by
                have : its[0]? = some u1 := by simpa using hP
                rw [gui] at this
                exact (Option.some.inj this).symm
              subst eu
              obtain ⟨oJ1, gJ1, cJ1, dJ1⟩ := id st'.1
              have V4 : Inv X ((Jt, oJ1) :: (Mt, seqObj "list" #[] 0) :: pins) σ H2 { s2 with heap := h4, toks := t4 } := inv_at (s := { s2 with heap := h3, toks := s2.toks }) V3 (fun b u nb q => keep b u (by simpa using nb) q) gJ1 (fun v q => by rw [dJ1] at q; cases q) a4 (fun p hp => by
                simp only [List.mem_append, List.mem_cons] at hp
                rcases hp with h | h | h
                · exact a5 p (by simp [h])
                · rw [h]; exact mj
                · exact a5 p (by simp [h]))
              have un3 : Un (frs X.stack) [] H2 H2 s2.heap h3 := Un.kept grow
              have un4 : Un (frs X.stack) [] H2 H2 s2.heap h4 := un_poke un3 (fun b u nb q => keep b u (by simpa using nb) q) a6
              have hr : Rm (k0 + 1) X.A.in1 := (gd.room.mono (by omega)).in1
              show wpAny (model X.prog X.w) X.A.in1 (tryCatch (holding [u1] (call (.ref fl) [u1])) _ >>= _) _ _ _
              apply wpAny_bind; apply wpAny_tryCatch; apply wpAny_holding
              apply key_call la ⟨[], by simp⟩ V4 un4 hr rvi rdi rs2 (hkey _ _ _ _ ek)
              intro s5 H5 ρ5 t5 V5 un5 x5 rs5
              have mAt5 := (V5.pin (Mt, _) (List.mem_append.mpr (.inr (List.mem_cons_of_mem _ List.mem_cons_self)))).1
              have jAt5 := (V5.pin (Jt, _) (List.mem_append.mpr (.inr List.mem_cons_self))).1
              have upd5 := Heap.SameBut.update s5.heap Mt (Obj.mapSeq fun _ => #[u1, .int kz t5])
              have gM5 := get?_update_seq mAt5 fun _ => #[u1, .int kz t5]
              show wpAny (model X.prog X.w) X.A.in1 (updateSeq Mt (fun _ => #[u1, .int kz t5]) >>= _) _ _ _
              apply wpAny_bind; apply wpAny_updateSeq mAt5 rfl
              rw [nm]
              have V6 := inv_at (tk := s5.toks) (j := Mt) (o := seqObj "list" #[] 0) (pins := (Jt, oJ1) :: pins) (V5.pins_of fun p hp => V5.pin p (by
                simp only [List.mem_append, List.mem_cons] at hp ⊢
                rcases hp with h | h | h
                · exact .inr (.inr (.inl h))
                · exact .inr (.inl h)
                · exact .inr (.inr (.inr h)))) (fun b u nb q => (upd5.2 b nb).trans q) gM5 (fun v q => by cases q) b4 (fun p hp => by
                  simp only [List.mem_append, List.mem_cons] at hp
                  rcases hp with h | h | h
                  · exact b5 p (by simp [h])
                  · rw [h]; exact Ne.symm mj
                  · exact b5 p (by simp [h]))
              apply wpAny_pure
              refine ⟨plainId_quiet PySem.F.plain_min_loop _, min_go (stz := stz) (z := z) hh hr la hkey hT2 rx2 a6 b6 mj a7 b7 a4 b4 a5 b5 ?_ _ 1 y0 kz u1 vi t5 _ oJ1 st2 _ H5 ρ5 rfl (by simp) V6 ⟨oJ1, (upd5.2 Jt (Ne.symm mj)).trans jAt5, cJ1, dJ1⟩ (un_poke un5 (fun b u nb q => (upd5.2 b nb).trans q) b6) x5 rs5 rvi (rdi.mono x5) eg⟩
              intro u v s' H' ρ' V' x' rs' rv' rd'
              exact ⟨v, H', V', rv', k1 v H' ρ' ((e1.trans e2).trans x') rs' (.d rd')⟩
      · exact k1.elim
    · exact k1.elim
end
end Ev
namespace Ev
open PySem PySem.Spec PyProof.Rows L2
theorem ints_reads {h : Heap} : ∀ {vs : List Value} {ns : List Int}, IntsAre vs ns → ReadsAll h vs (ns.map .int) []
  | _, _, .nil => .nil
  | _, _, .cons n t r => ReadsAll.cons (as := []) (bs := []) (.int n t) (ints_reads r)
theorem foldl_max : ∀ (ns : List Int) (n : Int), (ns.foldl max n ∈ n :: ns) ∧ ∀ y ∈ n :: ns, y ≤ ns.foldl max n
  | [], n => by simp
  | k :: r, n => by
    obtain ⟨h1, h2⟩ := foldl_max r (max n k)
    simp only [List.foldl_cons]
    refine ⟨?_, fun y hy => ?_⟩
    · rcases List.mem_cons.mp h1 with h | h
      · rw [h]
        rcases Int.le_total n k with q | q
        · rw [Int.max_eq_right q]; simp
        · rw [Int.max_eq_left q]; simp
      · simp [h]
    · have hm := h2 (max n k) (by simp)
      rcases List.mem_cons.mp hy with rfl | hy
      · omega
      · rcases List.mem_cons.mp hy with rfl | hy
        · omega
        · exact h2 y (by simp [hy])
noncomputable def rMaxD (K : PySem.W.Frag) : List V → List V → Hp → VK → Prop := fun vs zs H Q => ∃ (a : Addr) (ns : List Int) (d : Int), vs = [V.ref a] ∧ zs = [V.int d] ∧ SqL K H a (ns.map V.int) ∧ Q (.int ((maxI ns).getD d)) H
section
variable {X : Cx}
theorem dep_ints : ∀ ns : List Int, PyData.depthAll (ns.map .int) = 0
  | [] => rfl
  | n :: r => by
    show max (PyData.depth (.int n)) (PyData.depthAll (r.map .int)) = 0
    rw [dep_ints r]; rfl
theorem cr_maxD (hc : X.calm = true) (hu : X.A.units + 64 < cLine) : CallRK X (.builtin "max") [Str.ofString "default"] (rMaxD X.K) := by
  intro pins s σ H vs zs us ws Q I r rz h
  obtain ⟨a, ns, d, rfl, rfl, hs, q⟩ := h
  obtain rfl := Vals.ref1 r
  obtain ⟨w1, rfl, ⟨t1, rfl⟩⟩ := vals1 rz
  obtain ⟨its, rv, hl, _⟩ := I.list hs
  have hi := rv.ints
  have al : PySem.W.AlikeAll (ns.map PyData.int) := ⟨fun x hx y hy => by
    obtain ⟨i, _, rfl⟩ := List.mem_map.mp hx
    obtain ⟨j, _, rfl⟩ := List.mem_map.mp hy
    rfl, fun x hx => by
    obtain ⟨i, _, rfl⟩ := List.mem_map.mp hx
    exact fun q => by cases q⟩
  refine PySem.W.max_list_default (I.ok.hd hc) hl.isList (xs := ns.map PyData.int) (as := []) (by simpa using ints_reads hi) al (by rw [dep_ints]; omega) (fun e h' tk hk => ?_) (fun y ys i v h' tk bs e hv rd hk => ?_)
  · have : ns = [] := by simpa using e
    subst this
    exact ⟨.int d, H, I.kept hk, ⟨_, rfl⟩, q⟩
  · cases ns with
    | nil => cases e
    | cons n r =>
      simp only [List.map_cons, List.cons.injEq] at e
      obtain ⟨rfl, rfl⟩ := e
      rw [PySem.W.maxD_ints] at rd
      obtain ⟨f1, f2⟩ := foldl_max r n
      have e3 : maxI (n :: r) = some (r.foldl max n) := by
        cases q2 : maxI (n :: r) with
        | none => have := maxI_none q2; cases this
        | some m =>
          obtain ⟨m1, m2⟩ := maxI_some q2
          rw [Int.le_antisymm (f2 m m1) (m2 _ f1)]
      rw [e3] at q
      cases rd
      exact ⟨.int _, H, I.kept hk, ⟨_, rfl⟩, q⟩
end
section
variable {L : LT} {X : Cx} {k : Nat} {G : Gam} {a : Expr} {p pos kpos cp : Pos} {kd : Nat}
theorem ja_maxd {xa : Ex} {d : Int} (gx : GX X k G) (gd : Gd X k) (hg : Gl X "max") (ha : JA X L (fun env st => evA G env xa st) a) (hs1 : starEach (a :: []) X.env = (false, eval a X.env) :: starEach [] X.env) :
    JA X L (fun env st => evA G env (.maxd xa d) st) (.Call (.Name "max" p) [a] [⟨some "default", .Constant (.int d) kd cp, kpos⟩] pos) := by
  intro W tk
  have hm := gx.bt "max" (by decide +kernel)
  have hb : backTo pos (starEach [a] X.env) = (false, eval a X.env) :: backTo pos (starEach [] X.env) := by rw [hs1]; rfl
  refine PE.imp (pe_callBK (cr_maxD gd.calm gd.hu) hg hm (show bootBuiltins "max" = some (.builtin "max") by decide +kernel) (pa_cons (ha W tk) pa_nil hs1) (pk_cons (pe_int (i := d)) pk_nil) (by decide +kernel) (by decide +kernel) hb (by rw [hb]; rfl) (by rfl) (by rfl) (by rfl)) ?_
  rintro σ H Q ⟨ρ, env, st, he, hs, h⟩
  simp only [evA] at h
  refine ⟨ρ, env, st, he, hs, KR.bind h ?_⟩
  intro x st1 v1 H1 ρ1 e1 s1 r1 h1
  obtain ⟨z, ez, h2⟩ := KR.ofO h1
  obtain ⟨xs, e2, ez⟩ := Option.bind_eq_some_iff.mp ez
  simp only [Option.map_eq_some_iff] at ez
  obtain ⟨is, e3, rfl⟩ := ez
  obtain ⟨q, vs, rfl, hq, t⟩ := r1.seqL s1 e2
  obtain rfl := intsOf_ok e3 t
  exact ⟨q, is, d, rfl, rfl, hq, fin_d (h2.ext anti_A e1) s1 (.int _)⟩
end
end Ev
namespace Ev
open PySem PySem.Spec PyProof.Rows L2
section
variable {L : LT} {X : Cx} {k : Nat} {G : Gam}
/-- raise X(e), X keeping e as its ring -/
theorem js_raiseR {x : Str} {xa : Ex} {p p3 pos : Pos} {e : Expr} (gx : GX X k G) (gd : Gd X k) (hg : Gl X x) (hdb : (x == ("__debug__" : Str)) = false) (ha : JL X L (fun env st => evEs G env (.cons xa .nil) st) [e])
    (hs : starEach (e :: []) X.env = (false, eval e X.env) :: starEach [] X.env) :
    JS X L (fun env st => evS G (.raise x (.cons xa .nil)) env st) (.Raise (some (.Call (.Name x p) [e] [] p3)) none pos) := by
  intro W tk
  cases q : G.xr x with
  | false =>
    refine PS.imp ps_never ?_
    rintro E σ H ⟨ρ, env, st, he, hs, h⟩
    have h : KS X.K X.mg L W E H ρ (evS G (.raise x (.cons xa .nil)) env st) := h
    rw [evS, if_neg (show ¬ raiB G x (.cons xa .nil) = true from fun z => by rw [show raiB G x (.cons xa .nil) = G.xr x from rfl, q] at z; cases z)] at h
    exact h
  | true =>
    obtain ⟨hk, C, fI, fd, g, oc, _, nr, iC, tI, F1, hb⟩ := gx.xr x q
    refine PS.imp (ps_raise gd.calm tk (pmk_oex oc iC tI F1 (gd.room.r.mono hk) hb .nil pass0 hg g (ha W tk) hdb hs (by rfl))) ?_
    rintro E σ H ⟨ρ, env, st, he, hS, h⟩
    have h : KS X.K X.mg L W E H ρ (evS G (.raise x (.cons xa .nil)) env st) := h
    rw [evS, if_pos (show raiB G x (.cons xa .nil) = true from q)] at h
    refine ⟨ρ, env, st, he, hS, KS.exp (rel := rDs X.K X.mg) he h ?_⟩
    intro ys st1 vs H1 ρ1 e1 s1 he1 r1 h1
    match ys, r1, h1 with
    | [y], r1, h1 =>
      cases r1 with
      | @cons _ v _ vs' ry rn =>
        cases rn
        refine ⟨by simp, fun a na => ⟨a, C, v, rfl, oc, nr, upd_same, fun dx ndx ne => ⟨rfl, dx, [(("ring" : Str), v)], upd_same, ?_, ?_, ?_⟩⟩⟩
        · rw [upd_ne ne, upd_same]
        · rw [upd_ne ne] at ndx; exact ndx
        · rw [upd_ne ne] at ndx
          have eH : upd (del (upd (upd (upd H1 a (exo a C none)) dx (exd dx [(("ring" : Str), v)])) a (exo a C (some dx))) a) dx (.xd [(("ring" : Str), v)]) = upd H1 dx (.xd [(("ring" : Str), v)]) := by
            funext b
            by_cases c1 : b = dx
            · rw [c1, upd_same, upd_same]
            · rw [upd_ne c1, upd_ne c1]
              by_cases c2 : b = a
              · rw [c2, del_same, na]
              · rw [del_ne c2, upd_ne c2, upd_ne c1, upd_ne c2]
          rw [eH]
          have xf : Ext ρ1 H1 ρ1 (upd H1 dx (.xd [(("ring" : Str), v)])) := Ext.fresh ndx
          have h1 : KS X.K X.mg L W E H1 ρ1 (.exc x [y] env st1) := h1
          exact h1 (.ref C) (some dx) σ _ ρ1 xf (s1.grow ndx) (he1.mono xf) ⟨C, g, rfl, dx, v, rfl, upd_same, ry.mono xf⟩
    | [], r1, h1 => exact (show False from h1).elim
    | _ :: _ :: _, r1, h1 => exact (show False from h1).elim
/-- e.ring -/
theorem ja_ring {e : Expr} {xa : Ex} {pos : Pos} (gx : GX X k G) (ha : JA X L (fun env st => evA G env xa st) e) (hb : attributeBase e "ring" X.env (eval e X.env) = eval e X.env) :
    JA X L (fun env st => evA G env (.ring xa) st) (.Attribute e "ring" pos) := by
  intro W tk
  refine PE.imp (pe_ring (ha W tk) hb) ?_
  rintro σ H Q ⟨ρ, env, st, he, hS, h⟩
  simp only [evA] at h
  refine ⟨ρ, env, st, he, hS, KR.bind h ?_⟩
  intro x st1 v1 H1 ρ1 e1 s1 r1 h1
  unfold ringK at h1
  split at h1
  · rename_i c r
    split at h1
    · rename_i hc
      obtain ⟨_, C, fI, fd, m1, _, T, hno, _⟩ := gx.xr c hc
      cases r1 with
      | d r1 =>
        cases r1 with
        | exn1 g1 g2 g3 g4 =>
          rw [m1] at g1
          cases g1
          exact ⟨_, C, _, _, rfl, T, hno, g2, g3, fin_d (h1.ext anti_A e1) s1 g4⟩
    · exact h1.elim
  · exact h1.elim
end
end Ev
namespace Ev
open PySem PySem.Spec PyProof.Rows L2 LamX NdefX
variable {L : LT}
theorem keysGo_cons {key : D → Stt → Rs Int} {x : D} {r : List D} {st stz : Stt} {ks : List Int} (h : keysGo key (x :: r) st = .ok ks stz) : ∃ k st1 ks', key x st = .ok k st1 ∧ keysGo key r st1 = .ok ks' stz ∧ ks = k :: ks' := by
  simp only [keysGo] at h
  split at h
  · rename_i k st1 ek
    split at h
    · rename_i ks' st2 er
      cases h
      exact ⟨k, st1, ks', ek, er, rfl⟩
    · cases h
  · cases h
theorem keysGo_len {key : D → Stt → Rs Int} : ∀ {xs : List D} {st stz : Stt} {ks : List Int}, keysGo key xs st = .ok ks stz → ks.length = xs.length
  | [], st, stz, ks, h => by
    simp only [keysGo] at h
    cases h
    rfl
  | x :: r, st, stz, ks, h => by
    obtain ⟨k, st1, ks', _, e, rfl⟩ := keysGo_cons h
    rw [List.length_cons, List.length_cons, keysGo_len e]
theorem keysGo_exc {key : D → Stt → Rs Int} : ∀ {xs : List D} {st : Stt} {c : Str} {fs : List D} {s : Stt}, keysGo key xs st ≠ .exc c fs s
  | [], _, _, _, _, h => by simp only [keysGo] at h; cases h
  | x :: r, st, c, fs, s, h => by
    simp only [keysGo] at h
    split at h
    · split at h
      · cases h
      · cases h
    · cases h
section
variable {X : Cx} {pins : List (Addr × Obj)} {σ : L2.St} {H H2 : Hp} {s s2 : Shared} {h' : Heap} {j : Addr} {o o' : Obj} {tk : Nat}
theorem key_call2 {Act : List D → M D} {k0 : Nat} {fl : Addr} {r0 : List Addr} {ρ : List Addr} {st st1 : Stt} {y : D} {v : V} {u : Value} {i : Int} {E : Value → Shared → Prop} {Qf : Value → Shared → Prop} (la : LamAt X.prog X.w X.K X.mg X.base (k0 + 1) X.stack s2 H2 r0 fl Act) (pre0 : ∃ t, ρ = r0 ++ t) (V : Inv X pins σ H s) (un : Un (frs X.stack) [] H2 H s2.heap s.heap) (hr : Rm (k0 + 1) X.A.in1.in1)
    (r : RelV v u) (rd : RD X.K X.mg H ρ y v) (rs : RS X.K X.mg H ρ st) (e : Act [y] st = .ok (.int i) st1) (go : ∀ s' H' ρ' t, Inv X pins σ H' s' → Un (frs X.stack) [] H2 H' s2.heap s'.heap → Ext ρ H ρ' H' → RS X.K X.mg H' ρ' st1 → Qf (.int i t) s') : wpAny (model X.prog X.w) X.A.in1.in1 (call (.ref fl) [u]) Qf E s := by
  apply wpAny_call
  apply codeAny_mono (la.2 X.A.in1.in1 X.stack s H [u] [v] (fun w H' => w = .int i ∧ ∃ ρ', Ext ρ H ρ' H' ∧ RS X.K X.mg H' ρ' st1) (fun _ _ _ => False) ρ [y] st pre0 hr V.env0.in1.in1 un (.cons r .nil) (.cons rd .nil) rs (by
    rw [e]
    intro b H' ρ' x s r
    cases r
    exact ⟨rfl, ρ', x, s⟩))
  rintro (ex | f) t2 done
  · exact (cx_no done).elim
  · cases f with
    | ret w =>
      obtain ⟨vv, H', os, bare, un2, hok, rv, rfl, ρ', x, rs2⟩ := done
      obtain ⟨tt, rfl⟩ := rv
      obtain ⟨hh, g, d, t, os2⟩ := t2
      obtain rfl : os2 = s.os := os
      exact go _ H' ρ' tt (V.call (ch := []) un2 hok bare (fun b z => by cases z)) (un.trans un2) x rs2
    | _ => exact (show False from done).elim
/-- a pinned list becomes one that is told -/
theorem inv_adopt {a : Addr} {ho : HO} (V : Inv X ((a, o) :: pins) σ H s) (ag : X.s_0.heap.objs.size ≤ a) (ap : ∀ p ∈ X.pn ++ pins, p.1 ≠ a) (new : ObjOk X.prog X.w (upd H a ho) s.heap a ho) : Inv X pins σ (upd H a ho) s := by
  obtain ⟨p1, p2, p3, p4, p5⟩ := V.pin (a, o) (List.mem_append.mpr (.inr List.mem_cons_self))
  have V1 : Inv X pins σ H s := V.pins_of fun p hp => V.pin p (List.mem_append.mpr (.inr (List.mem_cons_of_mem _ hp)))
  have cj : ∀ x c, X.env.cells.lookup x = some c → c ≠ a := fun x c e z => by
    obtain ⟨v, oc, e1, e2⟩ := V.cell x c e
    rw [z, p1] at e1
    cases e1
    exact p5 v e2
  have tr : ∀ {b u}, H b = some u → b ≠ a := fun {b u} e z => by
    rw [z, p2] at e; cases e
  have up : ∀ {b u}, H b = some u → upd H a ho b = some u := fun {b u} e => by rw [upd_ne (tr e)]; exact e
  have hok : L2.HOk X.prog X.w (upd H a ho) s.heap := fun b u e => by
    by_cases z : b = a
    · subst z
      rw [upd_same] at e
      cases e
      exact new
    · rw [upd_ne z] at e
      exact (V1.hok b u e).stay (fun d v _ q => q) (fun d q => up q) (fun d xs q => up q)
  have := V1.step (g' := s.gens) (d' := s.drawn) (t' := s.toks) (h' := s.heap) (H' := upd H a ho) (ch := [a]) (fun b hb => by
      rw [List.mem_singleton.mp hb]
      exact ⟨.inr ag, p3, cj, ap⟩) (fun b u _ _ _ e _ => e) (fun b u _ _ _ e _ => ⟨u.slots, e⟩) (fun b u hb _ n => by
      rw [upd_ne (fun z => hb (by simp [z]))]
      exact n) (fun b u _ e => ⟨u, e⟩) (fun b xs e => up e) (fun b u xs e => up e) (fun b ps e => ⟨#[], by rw [up e]; simp⟩) (fun m hm => hm) hok V1.bare
  exact this
theorem srt_tail {A : Around} {a kS : Addr} {keys : Array Value} {vs : List Value} {kz : List Int} {e e1 : Nat} {P : PySem.Fin → Shared → Prop} {E : Value → Shared → Prop} {st : SortSt}
    (V : Inv X ((kS, seqObj "list" keys e) :: (a, seqObj "list" #[] e1) :: pins) σ H s) (ka : kS ≠ a) (hk : IntsAre keys.toList kz) (hlen : kz.length = vs.length) (hZ : vs.length ≤ sizeLine)
    (kg : X.s_0.heap.objs.size ≤ kS) (ag : X.s_0.heap.objs.size ≤ a) (kp : ∀ p ∈ X.pn ++ pins, p.1 ≠ kS) (ap : ∀ p ∈ X.pn ++ pins, p.1 ≠ a)
    (hp : (arrOf st).Perm (keys.zip vs.toArray)) (hs : SortedTo (arrOf st) (arrOf st).size) (hfl : failedOf st = none) (hst : Stable intKind (arrOf st) (keys.zip vs.toArray))
    (h : ∀ h' tk out c, Inv X ((a, seqObj "list" out c) :: pins) σ H { s with heap := h', toks := tk } → KskOutSt false kz vs out.toList → P (.done (.ret .none)) { s with heap := h', toks := tk }) :
    wpAny (model X.prog X.w) A (ksk_tail a false e1 (.ref kS) st) P E s := by
  have hZ2 := hZ
  rw [sizeLine_eq] at hZ2
  have nk := (V.pin (kS, seqObj "list" keys e) (List.mem_append.mpr (.inr List.mem_cons_self))).1
  have na := (V.pin (a, seqObj "list" #[] e1) (List.mem_append.mpr (.inr (List.mem_cons_of_mem _ List.mem_cons_self)))).1
  have hsz : keys.size = vs.length := by
    have h1 := hk.length
    rw [Array.length_toList] at h1
    omega
  have hsz2 : (arrOf st).size = vs.length := by rw [hp.size_eq, Array.size_zip, hsz, List.size_toArray, Nat.min_self]
  have hout : ((arrOf st).map (·.2)).size = vs.length := by rw [Array.size_map]; exact hsz2
  have s1 := Heap.SameBut.update s.heap kS (Obj.mapSeq fun _ => (#[] : Array Value))
  have na1 : (s.heap.update kS (Obj.mapSeq fun _ => (#[] : Array Value))).get? a = some (seqObj "list" #[] e1) := (s1.2 a (Ne.symm ka)).trans na
  have s2 := Heap.SameBut.update (s.heap.update kS (Obj.mapSeq fun _ => (#[] : Array Value))) a (Obj.mapSeq fun _ => (arrOf st).map (·.2))
  have hc2 := get?_update_seq na1 fun _ => (arrOf st).map (·.2)
  have V1 : Inv X ((a, seqObj "list" #[] e1) :: pins) σ H { s with heap := s.heap.update kS (Obj.mapSeq fun _ => (#[] : Array Value)), toks := s.toks } := inv_drop (j := kS) V (fun b u nb q => (s1.2 b nb).trans q) kg (fun p hp => by
    simp only [List.mem_append, List.mem_cons] at hp
    rcases hp with z | z | z
    · exact kp p (by simp [z])
    · rw [z]; exact Ne.symm ka
    · exact kp p (by simp [z]))
  unfold ksk_tail
  try dsimp only
  refine wpAny_bind (listUpdate_at nk rfl ?_ (by rw [hsz, sizeLine_eq]; omega) (Nat.zero_le _))
  refine wpAny_bind (wpAny_letGo ?_)
  refine wpAny_bind (seqEpoch_at na1 rfl ?_)
  refine wpAny_bind (listUpdate_at na1 rfl ?_ (Nat.zero_le _) (Nat.le_trans (Nat.le_of_eq hout) (by rw [sizeLine_eq]; omega)))
  rw [hfl]
  simp only [bne_self_eq_false, Bool.false_eq_true, if_false]
  refine wpAny_pure (h _ _ _ _ (inv_at (j := a) (s := { s with heap := s.heap.update kS (Obj.mapSeq fun _ => (#[] : Array Value)), toks := s.toks }) V1 (fun b u nb q => (s2.2 b nb).trans q) hc2 (fun v q => by cases q) ag ap) ?_)
  have := ksk_outSt (b := false) hk hp hs (by simpa using hst)
  simpa using this
theorem srt_end {A : Around} {a kS : Addr} {keys : Array Value} {vs : List Value} {kz : List Int} {e e1 : Nat} {P : PySem.Fin → Shared → Prop} {E : Value → Shared → Prop}
    (V : Inv X ((kS, seqObj "list" keys e) :: (a, seqObj "list" #[] e1) :: pins) σ H s) (ka : kS ≠ a) (hk : IntsAre keys.toList kz) (hlen : kz.length = vs.length) (hZ : vs.length ≤ sizeLine)
    (kg : X.s_0.heap.objs.size ≤ kS) (ag : X.s_0.heap.objs.size ≤ a) (kp : ∀ p ∈ X.pn ++ pins, p.1 ≠ kS) (ap : ∀ p ∈ X.pn ++ pins, p.1 ≠ a)
    (h : ∀ h' tk out c, Inv X ((a, seqObj "list" out c) :: pins) σ H { s with heap := h', toks := tk } → KskOutSt false kz vs out.toList → P (.done (.ret .none)) { s with heap := h', toks := tk }) :
    wpAny (model X.prog X.w) A (ksk_end a false vs.toArray e1 (.ref kS) keys) P E s := by
  have hZ2 := hZ
  rw [sizeLine_eq] at hZ2
  have hsz : keys.size = vs.length := by
    have h1 := hk.length
    rw [Array.length_toList] at h1
    omega
  have hzs : (keys.zip vs.toArray).size = vs.length := by rw [Array.size_zip, hsz, List.size_toArray, Nat.min_self]
  unfold ksk_end
  try dsimp only
  simp only [Bool.false_eq_true, if_false]
  by_cases h2 : vs.toArray.size < 2
  · rw [if_pos h2, if_pos h2]
    refine wpAny_bind (wpAny_pure ?_)
    rw [StateT.run_pure]
    refine wpAny_bind (wpAny_pure ?_)
    try dsimp only
    refine srt_tail (st := SortSt.mk' general' (keys.zip vs.toArray) #[] 7 none) V ka hk hlen hZ kg ag kp ap (Array.Perm.refl _) ?_ rfl (Stable.refl _) h
    intro i j hij hj
    have hj2 : j < (keys.zip vs.toArray).size := hj
    rw [hzs] at hj2
    rw [List.size_toArray] at h2
    have : i = j := by omega
    subst this
    exact Int.le_refl _
  · rw [if_neg h2, if_neg h2]
    rw [List.size_toArray] at h2
    rw [ksk_kind hk (by rw [hsz]; omega)]
    refine wpAny_bind (wpAny_pure ?_)
    refine wpAny_bind (wpAny_mono (wpS_sortRunsSt (κ := intKind) (a₀ := keys.zip vs.toArray)
      (st := SortSt.mk' oneType' (keys.zip vs.toArray) #[] 7 none)
      (Q := fun _ st' => (arrOf st').Perm (keys.zip vs.toArray) ∧ failedOf st' = none ∧ SortedTo (arrOf st') (arrOf st').size ∧ Stable intKind (arrOf st') (keys.zip vs.toArray))
      intKind_oneLt (ksk_keysOfInt (ksk_intKeys hk)) ⟨Array.Perm.refl _, rfl, rfl⟩ rfl (Stable.refl _) (by rw [hzs]; omega)
      fun st' a1 a2 a3 a4 => ⟨a1, a2, by rw [a1.size_eq]; exact sortedTo_of_int a3, a4⟩) ?_ fun _ _ e => e)
    rintro ⟨⟨⟩, st'⟩ s' ⟨rfl, hp, hf, hs, hst⟩
    try dsimp only
    exact srt_tail V ka hk hlen hZ kg ag kp ap hp hs hf hst h
theorem srt_rest {Act : List D → M D} {key : D → Stt → Rs Int} {k0 : Nat} {fl a kS : Addr} {ρ2 : List Addr} {xs : List D} {vs : List V} {its : List Value} {ks : List Int} {st1 stz : Stt} {e1 : Nat} {P : PySem.Fin → Shared → Prop} {E : Value → Shared → Prop}
    (hr : Rm (k0 + 1) X.A.in1.in1) (la : LamAt X.prog X.w X.K X.mg X.base (k0 + 1) X.stack s2 H2 ρ2 fl Act) (hkey : ∀ y st i st1, key y st = .ok i st1 → Act [y] st = .ok (.int i) st1)
    (V : Inv X ((kS, seqObj "list" #[] 0) :: (a, seqObj "list" #[] e1) :: pins) σ H2 s) (un : Un (frs X.stack) [] H2 H2 s2.heap s.heap) (rs : RS X.K X.mg H2 ρ2 st1) (rv : Vals vs its) (rx : RDs X.K X.mg H2 ρ2 xs vs) (hZ : its.length ≤ sizeLine) (ek : keysGo key xs st1 = .ok ks stz)
    (ka : kS ≠ a) (kn : s2.heap.get? kS = none) (kg : X.s_0.heap.objs.size ≤ kS) (ag : X.s_0.heap.objs.size ≤ a) (kp : ∀ p ∈ X.pn ++ pins, p.1 ≠ kS) (ap : ∀ p ∈ X.pn ++ pins, p.1 ≠ a)
    (h : ∀ s' H' ρ' out c, Inv X ((a, seqObj "list" out c) :: pins) σ H' s' → Ext ρ2 H2 ρ' H' → RS X.K X.mg H' ρ' stz → KskOutSt false ks its out.toList → P (.done (.ret .none)) s') :
    wpAny (model X.prog X.w) X.A.in1.in1 (ksk_rest a (.ref fl) false its.toArray e1 (.ref kS)) P E s := by
  have hZ2 := hZ
  rw [sizeLine_eq] at hZ2
  have lxs : xs.length = its.length := by rw [rx.length, rv.length]
  have lks := keysGo_len ek
  unfold ksk_rest
  refine wpAny_bind (wpAny_rule ?_)
  first
    | rw [List.forIn_toArray]
    | (rw [← Array.forIn_toList]; simp only [List.toList_toArray])
    | rw [← Array.forIn_toList]
  refine wpAny_bind (ksk_fold (fun i s' => ∃ H' ρ' st' kA e, Inv X ((kS, seqObj "list" kA e) :: (a, seqObj "list" #[] e1) :: pins) σ H' s' ∧ Un (frs X.stack) [] H2 H' s2.heap s'.heap ∧ Ext ρ2 H2 ρ' H' ∧ RS X.K X.mg H' ρ' st' ∧ IntsAre kA.toList (ks.take i) ∧ keysGo key (xs.drop i) st' = .ok (ks.drop i) stz) its 0 s
    ⟨H2, ρ2, st1, #[], 0, V, un, Ext.refl _ _, rs, by simpa using IntsAre.nil, by simpa using ek⟩ ?step ?done)
  case step =>
    rintro j x s' hx ⟨H', ρ', st', kA, e, V', un', x', rs', hk, eg⟩
    simp only [Nat.zero_add] at hk eg ⊢
    have hj : j < its.length := (List.getElem?_eq_some_iff.mp hx).1
    have hjx : j < xs.length := by omega
    rw [List.drop_eq_getElem_cons hjx] at eg
    obtain ⟨k, st2, ks', e2, e3, e4⟩ := keysGo_cons eg
    have hkj : ks[j]? = some k := by
      have : (ks.drop j)[0]? = some k := by rw [e4]; rfl
      rwa [List.getElem?_drop, Nat.add_zero] at this
    have hd : ks.drop (j + 1) = ks' := by
      have : (ks.drop j).drop 1 = ks' := by rw [e4]; rfl
      rwa [List.drop_drop] at this
    have ekt : ks.take (j + 1) = ks.take j ++ [k] := by rw [List.take_add_one, hkj]; simp
    have hz : kA.size ≤ its.length := by
      have h1 := hk.length
      rw [Array.length_toList, List.length_take] at h1
      omega
    obtain ⟨vi, gvi, rdi⟩ := rx.get (List.getElem?_eq_getElem hjx)
    obtain ⟨ui, gui, rvi⟩ := rv.get gvi
    have eu : x = ui := by
      rw [gui] at hx
      exact (Option.some.inj hx).symm
    subst eu
    refine wpAny_bind (wpAny_attempt (key_call2 la x'.pre V' un' hr rvi (rdi.mono x') rs' (hkey _ _ _ _ e2) fun s3 H3 ρ3 t3 V3 un3 x3 rs3 => ?_))
    try dsimp only
    have nk := (V3.pin (kS, seqObj "list" kA e) (List.mem_append.mpr (.inr List.mem_cons_self))).1
    have sb := Heap.SameBut.update s3.heap kS (Obj.mapSeq (·.push (.int k t3)))
    have hc2 := get?_update_seq nk (·.push (.int k t3))
    have ea : (kA.push (Value.int k t3)).toList = kA.toList ++ [Value.int k t3] := by simp
    refine wpAny_bind (listUpdate_at nk rfl ?_ (by rw [sizeLine_eq]; omega) (Nat.le_trans (Nat.le_of_eq (Array.size_push ..)) (by rw [sizeLine_eq]; omega)))
    refine wpAny_pure ⟨rfl, H3, ρ3, st2, kA.push (.int k t3), _, inv_at (tk := s3.toks) (j := kS) V3 (fun b u nb q => (sb.2 b nb).trans q) hc2 (fun v q => by cases q) kg (fun p hp => by
      simp only [List.mem_append, List.mem_cons] at hp
      rcases hp with z | z | z
      · exact kp p (by simp [z])
      · rw [z]; exact Ne.symm ka
      · exact kp p (by simp [z])), un_poke un3 (fun b u nb q => (sb.2 b nb).trans q) kn, x'.trans x3, rs3, by rw [ea, ekt]; exact ksk_snoc hk, by rw [hd]; exact e3⟩
  case done =>
    rintro s' ⟨H', ρ', st', kA, e, V', un', x', rs', hk, eg⟩
    rw [Nat.zero_add, ← lxs, List.drop_length] at eg
    simp only [keysGo] at eg
    have e5 : st' = stz := by injection eg
    subst e5
    rw [Nat.zero_add, ← lxs, ← lks, List.take_length] at hk
    have nk := (V'.pin (kS, seqObj "list" kA e) (List.mem_append.mpr (.inr List.mem_cons_self))).1
    try dsimp only
    refine wpAny_bind (listItems_at nk rfl ?_)
    exact srt_end V' ka hk (by omega) hZ kg ag kp ap fun h3 tk3 out c V3 k3 => h _ H' ρ' out c V3 x' rs' k3
end
theorem keyed_uniq {α : Type} : ∀ (l m : List (Int × α)), l.Pairwise (fun p q => p.1 ≤ q.1) → m.Pairwise (fun p q => p.1 ≤ q.1) → (∀ c, l.filter (fun p => p.1 == c) = m.filter (fun p => p.1 == c)) → l = m
  | [], m, _, _, h => by
    cases m with
    | nil => rfl
    | cons y m =>
      have := h y.1
      rw [List.filter_nil, List.filter_cons, if_pos (by simp)] at this
      cases this
  | x :: l, m, hl, hm, h => by
    cases m with
    | nil =>
      have := h x.1
      rw [List.filter_nil, List.filter_cons, if_pos (by simp)] at this
      cases this
    | cons y m =>
      rw [List.pairwise_cons] at hl hm
      have hxy : x.1 = y.1 := by
        have h1 : x ∈ (y :: m).filter (fun p => p.1 == x.1) := by rw [← h x.1]; exact List.mem_filter.mpr ⟨by simp, by simp⟩
        have h2 : y ∈ (x :: l).filter (fun p => p.1 == y.1) := by rw [h y.1]; exact List.mem_filter.mpr ⟨by simp, by simp⟩
        have a1 : y.1 ≤ x.1 := by
          rcases List.mem_cons.mp (List.mem_filter.mp h1).1 with e | e
          · rw [e]; exact Int.le_refl _
          · exact hm.1 x e
        have a2 : x.1 ≤ y.1 := by
          rcases List.mem_cons.mp (List.mem_filter.mp h2).1 with e | e
          · rw [e]; exact Int.le_refl _
          · exact hl.1 y e
        omega
      have h0 := h x.1
      rw [List.filter_cons, List.filter_cons, if_pos (by simp), if_pos (by simp [hxy])] at h0
      injection h0 with e1 e2
      subst e1
      rw [keyed_uniq l m hl.2 hm.2 fun c => ?_]
      have hc := h c
      rw [List.filter_cons, List.filter_cons] at hc
      by_cases z : (x.1 == c) = true
      · rw [if_pos z, if_pos z] at hc
        injection hc
      · rw [if_neg z, if_neg z] at hc
        exact hc
theorem keyed_sort {α : Type} {l m : List (Int × α)} (hp : m.Perm l) (hs : m.Pairwise fun p q => p.1 ≤ q.1) (hf : ∀ c, m.filter (fun p => p.1 == c) = l.filter (fun p => p.1 == c)) : m = l.mergeSort fun p q => decide (p.1 ≤ q.1) := by
  have tr : ∀ a b c : Int × α, decide (a.1 ≤ b.1) = true → decide (b.1 ≤ c.1) = true → decide (a.1 ≤ c.1) = true := fun a b c h1 h2 => by simp at *; omega
  have to : ∀ a b : Int × α, (decide (a.1 ≤ b.1) || decide (b.1 ≤ a.1)) = true := fun a b => by simp; omega
  refine keyed_uniq _ _ hs ((List.pairwise_mergeSort tr to l).imp fun h => by simpa using h) fun c => ?_
  rw [hf c]
  have sub : (l.filter fun p => p.1 == c).Sublist (l.mergeSort fun p q => decide (p.1 ≤ q.1)) := List.sublist_mergeSort tr to (by
    rw [List.pairwise_iff_forall_sublist]
    intro a b hab
    have ha := (List.mem_filter.mp (hab.subset (show a ∈ [a, b] by simp))).2
    have hb := (List.mem_filter.mp (hab.subset (show b ∈ [a, b] by simp))).2
    simp only [beq_iff_eq] at ha hb
    simp [ha, hb]) List.filter_sublist
  have sub2 := sub.filter fun p => p.1 == c
  rw [List.filter_filter] at sub2
  simp only [Bool.and_self] at sub2
  refine sub2.eq_of_length ?_
  exact ((List.mergeSort_perm l _).filter _).length_eq.symm
theorem srt_zip {α : Type} {ks : List Int} {vs : List α} {d : α} (h : ks.length = vs.length) : (ks.zip vs).mergeSort (fun p q => decide (p.1 ≤ q.1)) = (srtN ks).map fun i => (ks.getD i 0, vs.getD i d) := by
  have e : ks.zip vs = (List.range ks.length).map fun i => (ks.getD i 0, vs.getD i d) := by
    apply List.ext_getElem
    · simp [h]
    · intro i h1 h2
      have hi : i < ks.length := by simpa [h] using h1
      have hv : i < vs.length := by omega
      simp [List.getD_eq_getElem?_getD, hi, hv]
  rw [e]
  unfold srtN
  rw [List.map_mergeSort]
  intro a _ b _
  rfl
theorem srt_mem {ks : List Int} {i : Nat} (h : i ∈ srtN ks) : i < ks.length := List.mem_range.mp ((List.mergeSort_perm _ _).mem_iff.mp h)
theorem srt_len {ks : List Int} : (srtN ks).length = ks.length := by
  unfold srtN
  rw [(List.mergeSort_perm _ _).length_eq, List.length_range]
theorem ksk_is {ks : List Int} {its out : List Value} {d : Value} (h : ks.length = its.length) (k : KskOutSt false ks its out) : out = (srtN ks).map fun i => its.getD i d := by
  obtain ⟨ps, h1, rfl, h3, h4⟩ := k
  have h3' : ps.Pairwise fun p q => p.1 ≤ q.1 := h3.imp fun h => by simpa using h
  rw [keyed_sort h1 h3' h4, srt_zip (d := d) h, List.map_map]
  rfl
theorem vals_pick {vs : List V} {its : List Value} (r : Vals vs its) : ∀ {js : List Nat}, (∀ i ∈ js, i < vs.length) → Vals (js.map fun i => vs.getD i .non) (js.map fun i => its.getD i .none)
  | [], _ => .nil
  | i :: js, h => by
    have hi := h i (by simp)
    obtain ⟨u, g, ru⟩ := r.get (List.getElem?_eq_getElem hi)
    refine .cons ?_ (vals_pick r fun j hj => h j (by simp [hj]))
    show L2.RelV (vs.getD i .non) (its.getD i .none)
    rw [List.getD_eq_getElem?_getD, List.getD_eq_getElem?_getD, List.getElem?_eq_getElem hi, g]
    exact ru
theorem rds_pick {K : PySem.W.Frag} {mg : Str → Option Value} {H : Hp} {ρ : List Addr} {xs : List D} {vs : List V} (r : RDs K mg H ρ xs vs) : ∀ {js : List Nat}, (∀ i ∈ js, i < xs.length) → RDs K mg H ρ (js.map fun i => xs.getD i .non) (js.map fun i => vs.getD i .non)
  | [], _ => .nil
  | i :: js, h => by
    have hi := h i (by simp)
    obtain ⟨u, g, ru⟩ := r.get (List.getElem?_eq_getElem hi)
    refine .cons ?_ (rds_pick r fun j hj => h j (by simp [hj]))
    show RD K mg H ρ (xs.getD i .non) (vs.getD i .non)
    rw [List.getD_eq_getElem?_getD, List.getD_eq_getElem?_getD, List.getElem?_eq_getElem hi, g]
    exact ru
theorem Rm.in2 {k : Nat} {A : Around} (m : Rm (k + 1) A) : Rm k A.in1.in1 := ⟨⟨m.r.hd, by
  have := m.r.dp
  show A.depth + 3 * k + 5 < _
  omega, by
  have := m.r.un
  show A.units + 1 + 1 + 16 * k + 200 < _
  omega⟩, m.gu⟩
section
variable {X : Cx} {k k0 : Nat} {G : Gam}
theorem lam_at1 {x : Str} {c P fl c' : Addr} {js : List Nat} {fr : List Str} {lb : Ex} {lbody : Expr} {scope : Scope} {lpos ap : Pos} {pm ctv : Value} {pins : List (Addr × Obj)} {σ : L2.St} {H2 : Hp} {s2 : Shared} {ρ2 : List Addr} {env : Env} {cs : List D} (T : LamTx X k0 G x ap lpos scope fr js lb lbody c P)
    (I2' : Inv X pins σ H2 s2) (at2 : s2.heap.get? fl = some (lamO X (argOne x ap) lbody scope pm c' ctv)) (f2 : H2 fl = none) (nf : fl ∉ frs X.stack) (he2 : REnv X.K X.mg L H2 ρ2 env σ) (ecs : capsOf0 env js = some cs)
    (tP2 : ∃ t2, H2 P = some (.tbl t2) ∧ TriplesOk t2.toList ∧ codeAmong lpos t2.toList = some (.ref c')) : LamAt X.prog X.w X.K X.mg X.base (k0 + 1) X.stack s2 H2 ρ2 fl (actOf G cs lb) := by
  obtain ⟨hcd, TB, mT, one, S, hfree, hfr, hjs, hfn, hstk, hbody⟩ := T
  obtain ⟨wv, ew, rw_, sw⟩ := caps_at0 he2 ecs
  have cp : Caps X (cloFrom X.env.cells scope.names []) fr js := Caps.made I2'.ok hfree hfr hjs
  have C2 := cells_of I2' cp
  rw [ew] at C2
  have cnf : ∀ y c, (cloFrom X.env.cells scope.names []).lookup y = some c → c ∉ frs X.stack := fun y c e m => by
    have e' := cp.sub y c e
    have yf : y ∈ fr := by
      rcases cloFrom_mem (PySem.mem_of_lookup e) with q | ⟨q, _⟩
      · cases q
      · exact S.free _ q rfl
    rcases List.mem_cons.mp (I2'.stkSub _ m) with q | q
    · exact I2'.cne y c e' q
    · obtain ⟨_, o, ho, _⟩ := I2'.ok.funs.mem q
      exact absurd (Heap.lt_size ho) (Nat.not_lt.mpr (I2'.ok.cab y c (hfn y yf) e'))
  refine ⟨fun H' h' u => ⟨_, _, _, _, u.keep fl _ at2 f2 nf (by simp)⟩, ?_⟩
  intro A' outer' s' H' us' vs' Q' E' ρ' ys st' pre' hr' e0' u' r' rd' rs' kr'
  have one1 : ∃ y, ys = [y] := by
    match ys, kr' with
    | [y], _ => exact ⟨y, rfl⟩
    | [], z => exact z.elim
    | _ :: _ :: _, z => exact z.elim
  obtain ⟨y, rfl⟩ := one1
  have kr' : KR X.K X.mg (rD X.K X.mg) (fun cls d _ H'' => E' cls d H'') [] Q' H' ρ' (evE G (some y :: cs.map some) lb st') := kr'
  cases rd' with
  | cons ry rn =>
    cases rn
    rename_i v'
    obtain ⟨u1, eu, ru⟩ := vals1 r'
    subst eu
    have cRec : s'.heap.CodeRec (.ref c') (X.env.qual ++ "<lambda>") := by
      obtain ⟨t2, q1, tri, amg⟩ := tP2
      obtain ⟨m2, q2⟩ := u'.tbls P _ q1
      obtain ⟨tab, q3, _, q5⟩ := rs'.tab _ mT
      rw [q2] at q3
      cases q3
      obtain ⟨c2, q6, q7⟩ := q5 lpos (.ref c') (by
        rw [Array.toList_append]
        exact among_keep _ tri amg)
      cases q6
      exact codeO_at e0'.hok q7
    have C3 : CellsAt (cloFrom X.env.cells scope.names []) fr (wv.map some) s'.heap H' := by
      have kp : ∀ y c, (cloFrom X.env.cells scope.names []).lookup y = some c → ∀ v, s2.heap.IsCell c v → s'.heap.IsCell c v := fun y c e v ⟨o, ho, hd⟩ => ⟨o, u'.keep c o ho (C2.all y c e).1 (cnf y c e) (by simp), hd⟩
      refine ⟨C2.len, fun y c e => ?_, C2.inj, fun i y e => ?_⟩
      · obtain ⟨n, v, z⟩ := C2.all y c e
        refine ⟨?_, v, kp y c e v z⟩
        obtain ⟨o, ho, _⟩ := z
        exact u'.free c o ho n (by simp)
      · obtain ⟨c, hc, hv⟩ := C2.has i y e
        exact ⟨c, hc, fun v ev => let ⟨u, r, z⟩ := hv v ev; ⟨u, r, kp y c hc _ z⟩⟩
    have lw : wv.length = fr.length := by have := C2.len; simpa using this
    have lcs : cs.length = wv.length := RDs.length rw_
    have es0 : startF (x :: fr) [v'] (wv.map some) = some v' :: wv.map some := by
      unfold startF
      simp [lw]
    obtain ⟨tl, rfl⟩ := pre'
    have rcs : RDs X.K X.mg H' (ρ2 ++ tl) cs wv := stills0_rd u' rw_ sw
    refine lam_run (k := k0) (F := ⟨"<lambda>", X.env.qual ++ "<lambda>", argOne x ap, [], scope, cloFrom X.env.cells scope.names [], c'⟩) (N := x :: fr) (pn := [x]) (fr := fr) (ws := wv.map some) S hr' e0' (u'.keep fl _ at2 f2 nf (by simp)) cRec bind_x rfl C3 r' (fun hroom => je_of (hbody A' outer' s' H' E' fl _ rfl hroom) (fun cls d _ H => E' cls d H) (takes_of rfl rfl rfl rfl)) ?_
    refine ⟨ρ2 ++ tl, some y :: cs.map some, st', ?_, rs', kr'⟩
    rw [es0]
    refine ⟨⟨by simp [lcs], fun i f q => by cases q⟩, fun i d q => ?_⟩
    cases i with
    | zero => simp at q; subst q; exact ⟨v', rfl, ry⟩
    | succ i =>
      simp only [List.getElem?_cons_succ, List.getElem?_map, Option.map_eq_some_iff] at q ⊢
      obtain ⟨d', q, e⟩ := q
      cases e
      obtain ⟨v, g1, g2⟩ := rcs.get q
      exact ⟨v, ⟨v, g1, rfl⟩, g2⟩
end
section
variable {X : Cx} {pins : List (Addr × Obj)} {σ : L2.St} {H H2 : Hp} {s s2 : Shared}
/-- sorted of what is collected -/
theorem srt_main {Act : List D → M D} {key : D → Stt → Rs Int} {k0 : Nat} {fl : Addr} {arg : Value} {ρ2 : List Addr} {xs : List D} {vs : List V} {ks : List Int} {st1 stz : Stt} {Q : VK}
    (hr : Rm (k0 + 1) X.A.in1.in1) (la : LamAt X.prog X.w X.K X.mg X.base (k0 + 1) X.stack s2 H2 ρ2 fl Act) (hkey : ∀ y st i st1, key y st = .ok i st1 → Act [y] st = .ok (.int i) st1)
    (I2 : Inv X pins σ H2 s2) (rs : RS X.K X.mg H2 ρ2 st1) (rx : RDs X.K X.mg H2 ρ2 xs vs) (hZ : vs.length ≤ sizeLine) (ek : keysGo key xs st1 = .ok ks stz)
    (hcol : ∀ Q' : List Value → Shared → Prop, (∀ h' tk its, (∀ b o, s2.heap.get? b = some o → h'.get? b = some o) → Vals vs its → Q' its { s2 with heap := h', toks := tk }) → wpAny (model X.prog X.w) X.A.in1 (collect arg) Q' X.xe s2)
    (fin : ∀ s' H' ρ' p, Inv X pins σ (upd H' p (.lst ((srtN ks).map fun i => vs.getD i .non))) s' → Ext ρ2 H2 ρ' H' → RS X.K X.mg H' ρ' stz → H' p = none → RDs X.K X.mg H' ρ' (srtBy ks xs) ((srtN ks).map fun i => vs.getD i .non) → EP X pins σ Q (.ref p) s') :
    wpAny (model X.prog X.w) X.A (call (.builtin "sorted") [arg] [(Str.ofString "key", .ref fl)]) (EP X pins σ Q) X.xe s2 := by
  have hZ2 := hZ
  rw [sizeLine_eq] at hZ2
  have lxs : xs.length = vs.length := rx.length
  have lks := keysGo_len ek
  refine call_function_entry_kw kind_sorted plain_sorted entry_sorted (ksk_s1 _ _) ?_
  unfold Builtin.«sorted»
  refine wpAny_bind (m := checkCount "sorted" 1 1 _) (wpAny_pure ?_)
  refine wpAny_bind (hcol _ fun h3 tk3 its keep3 rv => ?_)
  have lits := rv.length
  refine wpAny_bind (wpAny_newList ?_ (by rw [← lits]; exact hZ))
  have I3 : Inv X pins σ H2 { s2 with heap := h3, toks := tk3 } := I2.kept keep3
  have sz3 : (h3.push (seqObj "list" its.toArray 0)).objs.size = h3.objs.size + 1 := size_push' ..
  have keep4 : ∀ b o, h3.get? b = some o → (h3.push (seqObj "list" its.toArray 0)).get? b = some o := fun b o q => Heap.get?_push_of_some _ q
  have I4 : Inv X pins σ H2 { s2 with heap := h3.push (seqObj "list" its.toArray 0), toks := tk3 } := I3.kept keep4
  have hoL : (h3.push (seqObj "list" its.toArray 0)).get? h3.objs.size = some (seqObj "list" its.toArray 0) := Heap.get?_push_size _ rfl
  have big3 : ∀ j, h3.objs.size ≤ j → H2 j = none ∧ j ≠ X.env.locals ∧ j ∉ X.fs ∧ X.s_0.heap.objs.size ≤ j ∧ (∀ p ∈ X.pn ++ pins, p.1 ≠ j) ∧ s2.heap.get? j = none := fun j hj =>
    ⟨I3.hok.fresh hj, fun z => Nat.lt_irrefl _ (Nat.lt_of_lt_of_le I3.lt (z ▸ hj)), I3.nofs hj, Nat.le_trans I3.sz hj, fun p hp z => Nat.lt_irrefl _ (Nat.lt_of_lt_of_le (Heap.lt_size (I3.pin p hp).1) (z ▸ hj)), by
      cases q : s2.heap.get? j with
      | none => rfl
      | some o => exact absurd (Heap.lt_size (keep3 _ _ q)) (Nat.not_lt.mpr hj)⟩
  show wpAny _ _ _ _ _ { s2 with heap := h3.push (seqObj "list" its.toArray 0), toks := tk3 }
  refine wpAny_bind (wpAny_holding (wpAny_call_entry_kw slot_list_sort ⟨_, hoL, rfl⟩ entry_list_sort ?body (ksk_l1 _ _)))
  show wpAny (model X.prog X.w) X.A.in1.in1 (Builtin.«list.sort» ⟨[.ref h3.objs.size], [(Str.ofString "key", .ref fl)]⟩) _ _ _
  rw [ksk_t1]
  obtain ⟨a1, a2, a3, a4, a5, a6⟩ := big3 h3.objs.size (Nat.le_refl _)
  have V4 : Inv X ((h3.objs.size, seqObj "list" its.toArray 0) :: pins) σ H2 { s2 with heap := h3.push (seqObj "list" its.toArray 0), toks := tk3 } := I4.pins_of fun p hp => by
    simp only [List.mem_cons] at hp
    rcases hp with z | z
    · rw [z]; exact ⟨hoL, a1, a2, a3, fun v q => by cases q⟩
    · exact I4.pin p (List.mem_append.mpr (.inr z))
  have big4 : ∀ j, h3.objs.size + 1 ≤ j → H2 j = none ∧ j ≠ X.env.locals ∧ j ∉ X.fs ∧ X.s_0.heap.objs.size ≤ j ∧ (∀ p ∈ X.pn ++ pins, p.1 ≠ j) ∧ s2.heap.get? j = none ∧ j ≠ h3.objs.size := fun j hj => by
    obtain ⟨b1, b2, b3, b4, b5, b6⟩ := big3 j (by omega)
    exact ⟨b1, b2, b3, b4, b5, b6, by omega⟩
  have un4 : Un (frs X.stack) [] H2 H2 s2.heap (h3.push (seqObj "list" its.toArray 0)) := Un.kept fun b o q => keep4 b o (keep3 b o q)
  generalize h3.objs.size = a at *
  generalize h3.push (seqObj "list" its.toArray 0) = h4 at *
  have sb := Heap.SameBut.update h4 a (Obj.mapSeq fun _ => (#[] : Array Value))
  obtain ⟨e1, ho1⟩ : ∃ e1, (h4.update a (Obj.mapSeq fun _ => (#[] : Array Value))).get? a = some (seqObj "list" #[] e1) := ⟨_, get?_update_seq hoL fun _ => (#[] : Array Value)⟩
  have V5 := inv_at (tk := tk3) (j := a) V4 (fun b u nb q => (sb.2 b nb).trans q) ho1 (fun v q => by cases q) a4 a5
  have un5 := un_poke un4 (fun b u nb q => (sb.2 b nb).trans q) a6
  have hkS : ((h4.update a (Obj.mapSeq fun _ => (#[] : Array Value))).push (seqObj "tuple" its.toArray 0)).objs.size = a + 1 + 1 := by rw [size_push', Heap.size_update, sz3]
  have grow : ∀ b o, (h4.update a (Obj.mapSeq fun _ => (#[] : Array Value))).get? b = some o → (((h4.update a (Obj.mapSeq fun _ => (#[] : Array Value))).push (seqObj "tuple" its.toArray 0)).push (seqObj "list" #[] 0)).get? b = some o := fun b o e => Heap.get?_push_of_some _ (Heap.get?_push_of_some _ e)
  have un6 : Un (frs X.stack) [] H2 H2 s2.heap (((h4.update a (Obj.mapSeq fun _ => (#[] : Array Value))).push (seqObj "tuple" its.toArray 0)).push (seqObj "list" #[] 0)) := un5.trans (Un.kept grow)
  have V6 := V5.kept (t' := tk3) grow
  have g2 : (((h4.update a (Obj.mapSeq fun _ => (#[] : Array Value))).push (seqObj "tuple" its.toArray 0)).push (seqObj "list" #[] 0)).get? (a + 1 + 1) = some (seqObj "list" #[] 0) := by
    rw [← hkS]; exact Heap.get?_push_size _ rfl
  obtain ⟨b1, b2, b3, b4, b5, b6, b7⟩ := big4 (a + 1 + 1) (by omega)
  unfold ksk_tree
  refine wpAny_bind (listItems_at hoL rfl ?_)
  refine wpAny_bind (listUpdate_at hoL rfl ?_ (by rw [List.size_toArray, sizeLine_eq]; omega) (Nat.zero_le _))
  refine wpAny_bind (seqEpoch_at ho1 rfl ?_)
  refine wpAny_bind (wpAny_newTuple ?_ (by show its.length ≤ _; rw [sizeLine_eq]; omega))
  refine wpAny_bind (wpAny_newList ?_ (Nat.zero_le _))
  refine wpAny_holding ?_
  show wpAny (model X.prog X.w) X.A.in1.in1 (ksk_rest a (.ref fl) false its.toArray e1 (.ref ((h4.update a (Obj.mapSeq fun _ => (#[] : Array Value))).push (seqObj "tuple" its.toArray 0)).objs.size)) _ _ { s2 with heap := ((h4.update a (Obj.mapSeq fun _ => (#[] : Array Value))).push (seqObj "tuple" its.toArray 0)).push (seqObj "list" #[] 0), toks := tk3 }
  rw [hkS]
  have V7 : Inv X ((a + 1 + 1, seqObj "list" #[] 0) :: (a, seqObj "list" #[] e1) :: pins) σ H2 { s2 with heap := ((h4.update a (Obj.mapSeq fun _ => (#[] : Array Value))).push (seqObj "tuple" its.toArray 0)).push (seqObj "list" #[] 0), toks := tk3 } := V6.pins_of fun p hp => by
    simp only [List.mem_cons] at hp
    rcases hp with z | z | z
    · rw [z]; exact ⟨g2, b1, b2, b3, fun v q => by cases q⟩
    · exact V6.pin p (by simp [z])
    · exact V6.pin p (by simp [z])
  refine srt_rest hr la hkey V7 un6 rs rv rx (by rw [← lits]; exact hZ) ek b7 b6 b4 a4 b5 a5 fun s' H' ρ' out c V' x' rs' k' => ?_
  have ho := (V'.pin (a, seqObj "list" out c) (List.mem_append.mpr (.inr List.mem_cons_self))).1
  have hn := (V'.pin (a, seqObj "list" out c) (List.mem_append.mpr (.inr List.mem_cons_self))).2.1
  have eo := ksk_is (d := .none) (by omega) k'
  have lt : ∀ i ∈ srtN ks, i < vs.length := fun i hi => by have := srt_mem hi; omega
  have rv2 : Vals ((srtN ks).map fun i => vs.getD i .non) out.toList := by
    rw [eo]
    exact vals_pick rv lt
  refine ⟨_, rfl, ?_⟩
  refine wpAny_pure ⟨_, rfl, ?_⟩
  refine fin s' H' ρ' a (inv_adopt V' a4 a5 ⟨by rw [List.length_map, srt_len, sizeLine_eq]; omega, out.toList, c, rv2, by rw [Array.toArray_toList]; exact ho⟩) x' rs' hn ?_
  unfold srtBy
  exact rds_pick (rx.mono x') fun i hi => by have := lt i hi; omega
end
section
variable {X : Cx} {k k0 : Nat} {G : Gam} {a : Expr} {p p2 q pos kpos : Pos} {σ : L2.St} {W : WX}
theorem srt_kw {x : Str} {c P : Addr} {js : List Nat} {fr : List Str} {lb : Ex} {lbody : Expr} {scope : Scope} {lpos ap : Pos} {ex pins : List (Addr × Obj)} {H H1 : Hp} {s1 : Shared} {ρ ρ1 : List Addr} {env : Env} {cs : List D} {st1 : Stt} {xs : List D} {arg : Value} {Q : VK} {Rq : List Value → Shared → Prop}
    (gd : Gd X k) (hk : k0 + 2 ≤ k) (T : LamTx X k0 G x ap lpos scope fr js lb lbody c P) (I1 : Inv X (ex ++ pins) σ H1 s1) (e1 : Ext ρ H ρ1 H1) (rs1 : RS X.K X.mg H1 ρ1 st1) (he : REnv X.K X.mg L H1 ρ1 env σ) (ecs : capsOf0 env js = some cs)
    (k1 : KR X.K X.mg (RA X.K X.mg) W σ Q H ρ ((keysGo (fun y st => keyI (evA G (some y :: cs.map some) lb st)) xs st1).bind fun ks st => .ok (.l (srtBy ks xs)) st))
    (hcol : ∀ s2 H2, Inv X (ex ++ pins) σ H2 s2 → Ext ρ1 H1 ρ1 H2 → (∀ a o, H1 a = some o → (∀ ps, o ≠ .tbl ps) → H2 a = some o) → ∃ vs, RDs X.K X.mg H2 ρ1 xs vs ∧ vs.length ≤ sizeLine ∧ ∀ Q' : List Value → Shared → Prop, (∀ h' tk its, (∀ b o, s2.heap.get? b = some o → h'.get? b = some o) → Vals vs its → Q' its { s2 with heap := h', toks := tk }) → wpAny (model X.prog X.w) X.A.in1 (collect arg) Q' X.xe s2)
    (hR : ∀ fl s2, wpAny (model X.prog X.w) X.A (call (.builtin "sorted") [arg] [(Str.ofString "key", .ref fl)]) (EP X pins σ Q) X.xe s2 → Rq [.ref fl] s2) :
    wpAny (model X.prog X.w) X.A (evalAll [(do let v ← eval (.Lambda (argOne x ap) lbody scope lpos) X.env; standAt pos; pure v)]) Rq X.xe s1 := by
  obtain ⟨hcd, TB, mT, one, S, hfree, hfr, hjs, hfn, hstk, hbody⟩ := id T
  have fre : ∀ y ∈ scope.names, y.2 = .free → ∃ c, X.env.cells.lookup y.1 = some c := fun y hy e => (hfree y hy e).elim (fun z => I1.ok.has _ (.inl z)) fun z => I1.ok.has _ (.inr z)
  refine wpAny_evalAll_cons (wpAny_bind (lam_new I1 TB hcd mT one rs1.tab rfl fre ?_))
  rintro fl c' pm ctv H2 s2 I2 gr at1 f0 nf nl tP2
  have e2 : Ext ρ1 H1 ρ1 H2 := ⟨⟨[], by simp⟩, fun _ m => .inl m, fun a o q _ nt => gr.up a o q nt, fun a o q im => gr.up a o q (fun ps z => by subst z; exact im), gr.dn, gr.gr⟩
  have rs2 : RS X.K X.mg H2 ρ1 st1 := rs1.same e2 gr.tb fun a ha => by
    obtain ⟨o, q, _, nt⟩ := rs1.there ha
    rw [gr.up a o q nt, q]
  have la := lam_at1 T I2 at1 f0 nf (he.mono e2) ecs tP2
  refine wpAny_bind (wpAny_standAt (wpAny_pure (wpAny_evalAll_nil ?_)))
  obtain ⟨vs, rx2, hZ, col⟩ := hcol s2 H2 I2 e2 gr.up
  cases ek : keysGo (fun y st => keyI (evA G (some y :: cs.map some) lb st)) xs st1 with
  | bad => rw [ek] at k1; exact k1.elim
  | exc c fs s => exact absurd ek keysGo_exc
  | ok ks stz =>
    rw [ek] at k1
    have hkey : ∀ y st i st1, (fun y st => keyI (evA G (some y :: cs.map some) lb st)) y st = .ok i st1 → actOf G cs lb [y] st = .ok (.int i) st1 := fun y st i st1 e => by
      have := keyI_ok e
      simp only [actOf, this, Rs.bind, allocA]
    have I2' : Inv X pins σ H2 s2 := I2.pins_of fun p hp => I2.pin p (List.mem_append.mpr (.inr (List.mem_append.mpr (.inr hp))))
    refine hR fl s2 (srt_main (gd.room.mono (by omega)).in2 la hkey I2' rs2 rx2 hZ ek col ?_)
    intro s' H' ρ' b V' x' rs' hn rd'
    exact ⟨.ref b, _, V', rfl, fin_lst (k1.ext anti_A ((e1.trans e2).trans x')) rs' rd' hn⟩
theorem ja_srtL {x : Str} {c P : Addr} {js : List Nat} {fr : List Str} {lb : Ex} {xa : Ex} {lbody : Expr} {scope : Scope} {lpos ap : Pos} (gx : GX X k G) (gd : Gd X k) (hk : k0 + 2 ≤ k) (hg : Gl X "sorted")
    (T : LamTx X k0 G x ap lpos scope fr js lb lbody c P) (ha : JA X L (fun env st => evA G env xa st) a) (hs1 : starEach (a :: []) X.env = (false, eval a X.env) :: starEach [] X.env) :
    JA X L (fun env st => evA G env (.srtk false js lb xa) st) (.Call (.Name "sorted" p) [a] [⟨some "key", .Lambda (argOne x ap) lbody scope lpos, kpos⟩] pos) := by
  intro W tk
  refine ⟨fun pins s σ H Q I h => ?_⟩
  obtain ⟨ρ, env, st, he, rs, h⟩ := h
  simp only [evA] at h
  have hm := gx.bt "sorted" (by decide +kernel)
  have hb : backTo pos (starEach [a] X.env) = (false, eval a X.env) :: backTo pos (starEach [] X.env) := by rw [hs1]; rfl
  refine wpAny_Call_Name_kw (ld_blt I hg hm (show bootBuiltins "sorted" = some (.builtin "sorted") by decide +kernel) ?_ (by decide +kernel) (by decide +kernel))
  refine PyProof.Rows.callWith_kw (thn ((pa_cons (ha W tk) pa_nil hs1).run pos pins s σ H (fun vs H1 => ∃ v ρ1 y st1, vs = [v] ∧ Ext ρ H ρ1 H1 ∧ RS X.K X.mg H1 ρ1 st1 ∧ RA X.K X.mg H H1 ρ1 y v ∧ KR X.K X.mg (RA X.K X.mg) W σ Q H ρ (match capsOf0 env js, srtI false y st1 with
    | some cs, some xs => (keysGo (fun y st => keyI (evA G (some y :: cs.map some) lb st)) xs st1).bind fun ks st => .ok (.l (srtBy ks xs)) st
    | _, _ => .bad)) I ⟨ρ, env, st, he, rs, KR.bind h ?_⟩) ?_) hb (by rw [hb]; rfl) (by rfl) (by rfl)
  · intro y st1 v H1 ρ1 e1 s1 r1 k1
    exact ⟨v, ρ1, y, st1, rfl, e1, s1, r1, k1⟩
  · rintro us s1 ⟨vs1, H1, I1, r1, v, ρ1, y, st1, rfl, e1, rs1, ra, k1⟩
    obtain ⟨u, rfl, ru⟩ := vals1 r1
    split at k1
    · rename_i cs xs ecs exs
      simp only [srtI, Bool.false_eq_true, if_false] at exs
      obtain ⟨xs', el, exs⟩ := Option.bind_eq_some_iff.mp exs
      split at exs
      · rename_i len
        cases exs
        obtain ⟨Ta, vs, rfl, hT, rx⟩ := ra.seqL rs1 el
        cases ru
        refine srt_kw (ex := []) gd hk T I1 e1 rs1 (he.mono e1) ecs k1 (fun s2 H2 I2 e2 up => ?_) fun fl s2 h => h
        have hT2 : SqL X.K H2 Ta vs := by
          rcases hT with hT | hT
          · rcases hT with hT | ⟨o, hT⟩
            · exact .inl (.inl (up _ _ hT (fun ps z => by cases z)))
            · exact .inl (.inr ⟨o, up _ _ hT (fun ps z => by cases z)⟩)
          · exact .inr hT
        obtain ⟨its, rv, pl, hz⟩ := I2.list hT2
        refine ⟨vs, rx.mono e2, hz, fun Q' hQ => collect_list pl.isList (hQ _ _ its (fun b o q => ?_) rv) (by rw [← rv.length]; exact hz)⟩
        have hlt : b < s2.heap.objs.size := Heap.lt_size q
        rw [Heap.get?_update_ne _ _ _ _ (Nat.ne_of_lt hlt)]
        exact Heap.get?_push_of_some _ q
      · cases exs
    · exact k1.elim
theorem rng_pin {ta : TE} {pins : List (Addr × Obj)} {s : Shared} {H : Hp} {R : Int → Hp → Prop} (hg : Gl X "range") (hm : X.mg "range" = none) (ha : PE X a ta) (na : starEach [a] X.env = (false, eval a X.env) :: starEach [] X.env) (I : Inv X pins σ H s) (h : ta σ H fun x H1 => ∃ n, x = .int n ∧ R n H1) :
    wpAny (model X.prog X.w) X.A (eval (.Call (.Name "range" p2) [a] [] q) X.env) (fun x s' => ∃ r o n t u v H', x = .ref r ∧ s'.heap.get? r = some o ∧ IsRange s'.heap r 0 n 1 t u v ∧ Inv X ([(r, o)] ++ pins) σ H' s' ∧ R n H') X.xe s := by
  refine Call_ (ld_blt I hg hm boot_range (PyProof.Rows.callWith_type1 (one_arg ha I h (fun v s2 x H2 I2 r q => ?_) na) na))
  obtain ⟨n, rfl, q⟩ := q
  obtain ⟨t, rfl⟩ := r
  refine call_range_1 ⟨_, _, n, _, _, _, H2, rfl, Heap.get?_push_size _ rfl, IsRange.new _ _ _ _ _ _ _, ?_, q⟩
  have I3 : Inv X pins σ H2 { s2 with heap := s2.heap.push { cls := .type "range", data := .fields #[.int 0 s2.toks, .int n t, .int 1 (s2.toks + 1)] }, toks := s2.toks + 1 + 1 } := I2.kept fun b u e => Heap.get?_push_of_some _ e
  refine I3.pins_of fun p hp => ?_
  rcases List.mem_cons.mp hp with z | z
  · rw [z]
    exact ⟨Heap.get?_push_size _ rfl, I2.hok.fresh (Nat.le_refl _), fun z => Nat.lt_irrefl _ (z ▸ I2.lt), I2.nofs (Nat.le_refl _), fun v q => by cases q⟩
  · exact I3.pin p (List.mem_append.mpr (.inr z))
theorem ja_srtR {x : Str} {c P : Addr} {js : List Nat} {fr : List Str} {lb : Ex} {xa : Ex} {lbody : Expr} {scope : Scope} {lpos ap : Pos} (gx : GX X k G) (gd : Gd X k) (hk : k0 + 2 ≤ k) (hg : Gl X "sorted") (hg2 : Gl X "range")
    (T : LamTx X k0 G x ap lpos scope fr js lb lbody c P) (ha : JA X L (fun env st => evA G env xa st) a) (hs : starEach (a :: []) X.env = (false, eval a X.env) :: starEach [] X.env) :
    JA X L (fun env st => evA G env (.srtk true js lb xa) st) (.Call (.Name "sorted" p) [.Call (.Name "range" p2) [a] [] q] [⟨some "key", .Lambda (argOne x ap) lbody scope lpos, kpos⟩] pos) := by
  intro W tk
  refine ⟨fun pins s σ H Q I h => ?_⟩
  obtain ⟨ρ, env, st, he, rs, h⟩ := h
  simp only [evA] at h
  have hm := gx.bt "sorted" (by decide +kernel)
  have hm2 := gx.bt "range" (by decide +kernel)
  refine wpAny_Call_Name_kw (ld_blt I hg hm (show bootBuiltins "sorted" = some (.builtin "sorted") by decide +kernel) ?_ (by decide +kernel) (by decide +kernel))
  have main := args_cons (pos := pos) (rest := []) (Q := fun us s' => ∃ r o n t u v H' ρ1 cs st1, us = [.ref r] ∧ s'.heap.get? r = some o ∧ IsRange s'.heap r 0 n 1 t u v ∧ Inv X ([(r, o)] ++ pins) σ H' s' ∧ Ext ρ H ρ1 H' ∧ RS X.K X.mg H' ρ1 st1 ∧ capsOf0 env js = some cs ∧ rgOk 0 n = true ∧ KR X.K X.mg (RA X.K X.mg) W σ Q H ρ ((keysGo (fun y st => keyI (evA G (some y :: cs.map some) lb st)) (rngI 0 n.toNat) st1).bind fun ks st => .ok (.l (srtBy ks (rngI 0 n.toNat))) st)) (thn (rng_pin (p2 := p2) (q := q) (R := fun n H1 => ∃ ρ1 cs st1, Ext ρ H ρ1 H1 ∧ RS X.K X.mg H1 ρ1 st1 ∧ capsOf0 env js = some cs ∧ rgOk 0 n = true ∧ KR X.K X.mg (RA X.K X.mg) W σ Q H ρ ((keysGo (fun y st => keyI (evA G (some y :: cs.map some) lb st)) (rngI 0 n.toNat) st1).bind fun ks st => .ok (.l (srtBy ks (rngI 0 n.toNat))) st)) hg2 hm2 (ha W tk) hs I ⟨ρ, env, st, he, rs, KR.bind h ?_⟩) ?_) (by rfl)
  · refine PyProof.Rows.callWith_kw (thn main ?_) (by rfl) (by rfl) (by rfl) (by rfl)
    rintro us s1 ⟨r, o, n, t, u, v, H1, ρ1, cs, st1, rfl, go, hr, I1, e1, rs1, ecs, rg, k1⟩
    refine srt_kw (ex := [(r, o)]) gd hk T I1 e1 rs1 (he.mono e1) ecs k1 (fun s2 H2 I2 e2 up => ?_) fun fl s2 h => h
    have g2 := (I2.pin (r, o) (List.mem_append.mpr (.inr List.mem_cons_self))).1
    have hr2 : IsRange s2.heap r 0 n 1 t u v := by
      have e : s1.heap.get? r = _ := hr
      rw [go] at e
      show s2.heap.get? r = _
      rw [g2, e]
    obtain ⟨b1, b2, b3, b4, b5⟩ := rgOk_ok rg
    have hsz : ((List.range n.toNat).map fun m => V.int (0 + ((m : Nat) : Int))).length ≤ sizeLine := by
      rw [List.length_map, List.length_range, sizeLine_eq]
      omega
    refine ⟨(List.range n.toNat).map fun m => V.int (0 + (m : Nat)), rds_rng, hsz, fun Q' hQ => ?_⟩
    refine collect_range gd.room.r.hd hr2 (small_one b1 b2 b3 b4) (rangeSize_nat 0 n) b5 fun h' tk acc hk hi => hQ h' tk _ hk ?_
    have := vals_rg hi
    unfold rgV at this
    rw [Int.sub_zero] at this
    exact this
  · intro y st1 v H1 ρ1 e1 s1 r1 k1
    split at k1
    · rename_i cs xs ecs exs
      simp only [srtI, if_true] at exs
      split at exs
      · split at exs
        · rename_i i rg
          cases exs
          obtain rfl := r1.int
          exact ⟨_, rfl, ρ1, cs, st1, e1, s1, ecs, rg, k1⟩
        · cases exs
      · cases exs
    · exact k1.elim
  · rintro u s1 ⟨r, o, n, t, u, v, H1, rfl, go, hr, I1, ρ1, cs, st1, e1, rs1, ecs, rg, k1⟩
    exact args_nil ⟨r, o, n, t, u, v, H1, ρ1, cs, st1, rfl, go, hr, I1, e1, rs1, ecs, rg, k1⟩
end
end Ev
namespace Ev
open PySem PySem.Spec PyProof.Rows L2 LamX NdefX
variable {L : LT}
structure TC where
  N : List Str
  sc : Scope
  fb : Str → Bool
  cl : List Str
  lam : Option Str
  lmk : Bool
structure Tr (X : Cx) (L : LT) (k : Nat) (G : Gam) (c : TC) : Prop where
  N : X.N = c.N
  sc : X.env.scope = c.sc
  fb : ∀ x, c.fb x = true → X.fn x = true
  gd : Gd X k
  gx : GX X k G
  cl : ∀ x ∈ c.cl, ∃ D, X.mg x = some (.ref D)
  nl : ∀ i f, L i = some f → ∃ y, c.N[i]? = some y ∧ askB y = true
  la : ∀ z, c.lam = some z → askB z = true ∧ ∀ A, G.fn z = some A → ∃ i f r, L i = some (f, r) ∧ X.N[i]? = some z ∧ X.ex = [] ∧ LamAt X.prog X.w X.K X.mg X.base k X.outer X.s_0 X.H_0 r f A
  lm : c.lmk = true → ∃ k0 cc P, k0 + 2 ≤ k ∧ GX X k0 G ∧ X.env.code = .ref cc ∧ TabB X.base X.mg cc P ∧ (P, X.env.qual ++ "<lambda>") ∈ lamTabs X.K X.mg ∧ (∀ z ∈ lamTabs X.K X.mg, z.1 = P → z.2 = X.env.qual ++ "<lambda>") ∧ X.stack = X.env :: X.outer
noncomputable def dbgs (x : Str) : Bool := (x == ("__debug__" : Str)) || (x == ("__classdict__" : Str))
noncomputable def ixOf (x : Str) : List Str → Option Nat
  | [] => none
  | y :: r => if y = x then some 0 else (ixOf x r).map (· + 1)
theorem ixOf_ok {x : Str} : ∀ {N : List Str} {i : Nat}, ixOf x N = some i → N[i]? = some x
  | y :: r, i, h => by
    unfold ixOf at h
    split at h
    · rename_i e; cases h; simp [e]
    · simp only [Option.map_eq_some_iff] at h
      obtain ⟨j, h, rfl⟩ := h
      simpa using ixOf_ok h
noncomputable def visB (sc : Scope) (x : Str) : Bool := match sc.names.lookup x with
  | some .local => true
  | some .cell => true
  | some .free => true
  | _ => false
noncomputable def locB (sc : Scope) (x : Str) : Bool := match sc.names.lookup x with
  | some .local => true
  | some .cell => true
  | _ => false
noncomputable def lclB (sc : Scope) (x : Str) : Bool := match sc.names.lookup x with
  | some .local => true
  | _ => false
noncomputable def glB (sc : Scope) (x : Str) : Bool := match sc.names.lookup x with
  | some .globalImplicit => !dbgs x
  | _ => false
theorem visB_ok {sc : Scope} {x : Str} (h : visB sc x = true) : Vis sc x := by
  unfold visB at h; unfold Vis
  split at h
  · rename_i e; exact .inl e
  · rename_i e; exact .inr (.inl e)
  · rename_i e; exact .inr (.inr e)
  · cases h
theorem locB_ok {sc : Scope} {x : Str} (h : locB sc x = true) : L2.Loc sc x := by
  unfold locB at h; unfold L2.Loc
  split at h
  · rename_i e; exact .inl e
  · rename_i e; exact .inr e
  · cases h
theorem lclB_ok {sc : Scope} {x : Str} (h : lclB sc x = true) : sc.names.lookup x = some .local := by
  unfold lclB at h
  split at h
  · rename_i e; exact e
  · cases h
section
variable {X : Cx} {k : Nat} {G : Gam} {c : TC}
theorem Tr.hL (t : Tr X L k G c) {x : Str} {i : Nat} (h : ixOf x c.N = some i) (hx : askB x = false) : L i = none := by
  cases q : L i with
  | none => rfl
  | some f =>
    obtain ⟨y, e1, e2⟩ := t.nl i f q
    rw [ixOf_ok h] at e1
    rw [← Option.some.inj e1, hx] at e2
    cases e2
theorem glB_ok (t : Tr X L k G c) {x : Str} (h : glB c.sc x = true) : Gl X x ∧ (x == ("__debug__" : Str)) = false := by
  unfold glB at h
  split at h
  · rename_i e
    refine ⟨?_, ?_⟩
    · show X.env.scope.names.lookup x = _
      rw [t.sc]; exact e
    · unfold dbgs at h
      cases q : (x == ("__debug__" : Str)) with
      | false => rfl
      | true => rw [q] at h; simp at h
  · cases h
end
noncomputable def nst : Expr → Bool
  | .Starred _ _ => false
  | _ => true
theorem starEach_ok {e : Expr} {es : List Expr} {env : PySem.Env} (h : nst e = true) : starEach (e :: es) env = (false, eval e env) :: starEach es env := by
  cases e <;> first | rfl | cases h
theorem back_ok {pos : Pos} {env : PySem.Env} : ∀ {es : List Expr}, es.all nst = true → (backTo pos (starEach es env)).any (·.1) = false
  | [], _ => rfl
  | e :: es, h => by
    rw [List.all_cons, Bool.and_eq_true] at h
    rw [starEach_ok h.1]
    simpa [backTo] using back_ok (pos := pos) (env := env) h.2
theorem back_all {pos : Pos} {env : PySem.Env} : ∀ {es : List Expr}, es.all nst = true → (backTo pos (starEach es env)).all (fun x => !x.1) = true
  | [], _ => rfl
  | e :: es, h => by
    rw [List.all_cons, Bool.and_eq_true] at h
    rw [starEach_ok h.1]
    simpa [backTo] using back_all (pos := pos) (env := env) h.2
theorem assignEach_ok {e : Expr} {es : List Expr} {env : PySem.Env} (h : nst e = true) : assignEach (e :: es) env = (false, assign e env) :: assignEach es env := by
  cases e <;> first | rfl | cases h
noncomputable def mapEs (f : Expr → Option Ex) : List Expr → Option Es
  | [] => some .nil
  | e :: r => if nst e = true then (f e).bind fun x => (mapEs f r).map fun y => .cons x y else none
noncomputable def trO (f : Expr → Option Ex) : Option Expr → Option Eo
  | none => some .no
  | some e => (f e).map .so
noncomputable def trIf (f : Expr → Option Ex) : List Expr → Option Eo
  | [] => some .no
  | [e] => (f e).map .so
  | _ => none
mutual
noncomputable def trTg (c : TC) : Nat → Expr → Option Tg
  | 0, _ => none
  | n + 1, .Name x _ => if locB c.sc x = true ∧ (c.fb x || lclB c.sc x) = true ∧ askB x = false then (ixOf x c.N).map .nm else none
  | n + 1, .Tuple es _ _ => (trTgs c n es).map .tup
  | _, _ => none
noncomputable def trTgs (c : TC) : Nat → List Expr → Option Tgs
  | 0, _ => none
  | _ + 1, [] => some .nil
  | n + 1, e :: r => if nst e = true then (trTg c n e).bind fun x => (trTgs c n r).map fun y => .cons x y else none
end
section
variable {X : Cx} {k : Nat} {G : Gam} {c : TC}
theorem trTg_ok (t : Tr X L k G c) : ∀ n, (∀ e x, trTg c n e = some x → JG X L x e) ∧ (∀ es xs, trTgs c n es = some xs → JGs X L xs es ∧ (assignEach es X.env).length = tgsLen xs ∧ (assignEach es X.env).findIdx? (·.1) = none)
  | 0 => ⟨fun e x h => by simp [trTg] at h, fun es xs h => by simp [trTgs] at h⟩
  | n + 1 => by
    have ih := trTg_ok t n
    refine ⟨fun e x h => ?_, fun es xs h => ?_⟩
    · cases e with
      | Name y pos =>
        simp only [trTg] at h
        split at h
        · rename_i q
          simp only [Option.map_eq_some_iff] at h
          obtain ⟨i, h, rfl⟩ := h
          refine jg_nm t.gd.nd ?_ ?_ ?_ (t.hL h q.2.2)
          · rw [t.N]; exact ixOf_ok h
          · rw [t.sc]; exact locB_ok q.1
          · rw [t.sc]
            rcases Bool.or_eq_true_iff.mp q.2.1 with q | q
            · exact .inl (t.fb _ q)
            · exact .inr (lclB_ok q)
        · cases h
      | Tuple es kk pos =>
        simp only [trTg, Option.map_eq_some_iff] at h
        obtain ⟨ts, h, rfl⟩ := h
        obtain ⟨h1, h2, h3⟩ := ih.2 es ts h
        exact jg_tup (n := 0) t.gd.calm h1 h2 h3
      | _ => simp [trTg] at h
    · cases es with
      | nil =>
        simp only [trTgs] at h
        cases h
        exact ⟨jgs_nil, rfl, rfl⟩
      | cons e r =>
        simp only [trTgs] at h
        split at h
        · rename_i q
          obtain ⟨x, hx, h⟩ := Option.bind_eq_some_iff.mp h
          simp only [Option.map_eq_some_iff] at h
          obtain ⟨y, hy, rfl⟩ := h
          obtain ⟨h1, h2, h3⟩ := ih.2 r y hy
          refine ⟨jgs_cons (ih.1 e x hx) h1 ?_, ?_, ?_⟩
          · rw [assignEach_ok q]; rfl
          · rw [assignEach_ok q]; simp [tgsLen, h2]
          · rw [assignEach_ok q]; simp [List.findIdx?_cons, h3]
        · cases h
end
/-- the block's own names -/
noncomputable def ownOf (N : List Str) : List (Str × NameKind) → List (Str × Nat)
  | [] => []
  | (x, k) :: r => (match k, ixOf x N with
    | .local, some i => [(x, i)]
    | .cell, some i => [(x, i)]
    | _, _ => []) ++ ownOf N r
noncomputable def blkTC (c : TC) (scope : Scope) : TC := ⟨c.N, relS scope c.sc, fun x => scope.names.lookup x == some .cell, c.cl, none, false⟩
theorem Tr.blk {X : Cx} {k : Nat} {G : Gam} {c : TC} (t : Tr X L k G c) {scope : Scope} (s : Shared) (H : Hp) (C : Addr) (cl : List (Str × Addr)) (fp : List Addr) : Tr (X.blk s H scope (compEnvC scope cl C X.env) fp) L k G (blkTC c scope) where
  N := t.N
  sc := by
    show relS scope X.env.scope = _
    rw [t.sc]; rfl
  fb := fun x h => h
  gd := ⟨t.gd.calm, t.gd.nd, t.gd.room, PassesOwn.never⟩
  gx := t.gx
  cl := t.cl
  nl := t.nl
  la := fun z h => by cases h
  lm := fun h => by cases h
noncomputable def setB : Expr → Bool
  | .Set _ _ _ => true
  | _ => false
theorem fold_ok {e : Expr} {env : PySem.Env} (h : setB e = false) : ∀ x, foldedSetIterable e env x = pure x := by
  cases e <;> first | (intro x; rfl) | cases h
structure LcT where
  xe : Ex
  t : Tg
  it : It
  f : Eo
  own : List (Str × Nat)
noncomputable def isTup : Expr → Bool
  | .Tuple _ _ _ => true
  | _ => false
/-- what is walked -/
noncomputable def trIt (c : TC) (f : Expr → Option Ex) (tg : Expr) (e : Expr) : Option It :=
  match e with
  | .Call (.Name x _) [a] [] _ =>
    if x = ("range" : Str) then
      if glB c.sc "range" = true ∧ nst a = true then (f a).map .rng else none
    else if x = ("enumerate" : Str) then
      if glB c.sc "enumerate" = true ∧ nst a = true ∧ isTup tg = true then (f a).map .enum else none
    else (f e).map .val
  | .Call (.Name x _) [a, b] [] _ =>
    if x = ("range" : Str) then
      if glB c.sc "range" = true ∧ nst a = true ∧ nst b = true then (f a).bind fun p => (f b).map fun q => .rng2 p q else none
    else if x = ("zip" : Str) then
      if glB c.sc "zip" = true ∧ nst a = true ∧ nst b = true ∧ isTup tg = true then (f a).bind fun p => (f b).map fun q => .zip p q else none
    else (f e).map .val
  | e => (f e).map .val
noncomputable def trLc (c : TC) (f : TC → Expr → Option Ex) (n : Nat) (elt tg iter : Expr) (ifs : List Expr) (scope : Scope) : Option LcT :=
  let own := ownOf c.N scope.names
  let c' := blkTC c scope
  if blkC c.N c.sc scope own = true ∧ setB iter = false then
    (trIt c (f c) tg iter).bind fun it => (trTg c' n tg).bind fun t => (trIf (f c') ifs).bind fun g => (f c' elt).bind fun x =>
      if (slots t).all (fun i => (own.map (·.2)).contains i) = true ∧ scope.names.all (fun y => !askB y.1) = true then some ⟨x, t, it, g, own⟩ else none
  else none
noncomputable def slcB : Expr → Bool
  | .Slice _ _ _ _ => true
  | _ => false
noncomputable def c0B : Expr → Bool
  | .Call _ [] [] _ => true
  | _ => false
noncomputable def opB (op : BoolOp) (es : Es) : Option Ex :=
  match es with
  | .nil => none
  | _ => match op with
    | .And => some (.and es)
    | .Or => some (.or es)
/-- len(set(b)), list(range(b)), tuple(range(b)) -/
noncomputable def trSp (c : TC) (f : Expr → Option Ex) (g : Str) (a : Expr) (es : List Expr) : Option Ex :=
  match es with
  | [] => match a with
    | .Call (.Name h _) [b] [] _ =>
      if glB c.sc g = true ∧ glB c.sc h = true ∧ nst b = true then
        if g = ("len" : Str) ∧ h = ("set" : Str) then (f b).map .nset
        else if g = ("sorted" : Str) ∧ h = ("set" : Str) then (f b).map .sset
        else if g = ("list" : Str) ∧ h = ("range" : Str) then (f b).map fun x => .rgl false x .no
        else if g = ("tuple" : Str) ∧ h = ("range" : Str) then (f b).map fun x => .rgl true x .no
        else none
      else none
    | _ => none
  | _ => none
/-- a lambda's free names -/
noncomputable def freesOf : List (Str × NameKind) → List Str
  | [] => []
  | (x, .free) :: r => x :: freesOf r
  | _ :: r => freesOf r
noncomputable def lamTC (c : TC) (x : Str) (scope : Scope) : TC := ⟨x :: freesOf scope.names, scope, fun _ => false, c.cl, none, false⟩
/-- a lambda of one parameter: where the names lie that it takes along, and its text -/
noncomputable def lamB (c : TC) (f : TC → Expr → Option Ex) (x : Str) (lbody : Expr) (scope : Scope) : Option (List Nat × Ex) :=
  if c.lmk = true ∧ nscB (x :: freesOf scope.names) [x] (freesOf scope.names) scope = true ∧ ndefB c.sc scope (freesOf scope.names) = true ∧ (freesOf scope.names).all c.fb = true then
    ((freesOf scope.names).mapM fun y => ixOf y c.N).bind fun js => (f (lamTC c x scope) lbody).map fun lb => (js, lb)
  else none
noncomputable def lamTC0 (c : TC) (scope : Scope) : TC := ⟨freesOf scope.names, scope, fun _ => false, c.cl, none, false⟩
/-- a lambda of no parameter -/
noncomputable def lamB0 (c : TC) (f : TC → Expr → Option Ex) (lbody : Expr) (scope : Scope) : Option (List Nat × Ex) :=
  if c.lmk = true ∧ nscB (freesOf scope.names) [] (freesOf scope.names) scope = true ∧ ndefB c.sc scope (freesOf scope.names) = true ∧ (freesOf scope.names).all c.fb = true then
    ((freesOf scope.names).mapM fun y => ixOf y c.N).bind fun js => (f (lamTC0 c scope) lbody).map fun lb => (js, lb)
  else none
/-- a def is called whose first argument is a lambda -/
noncomputable def trLam (c : TC) (f : TC → Expr → Option Ex) (g : Str) (a : Expr) (es : List Expr) : Option Ex :=
  match a with
  | .Lambda ⟨[], [⟨x, none, _⟩], none, [], [], none, []⟩ lbody scope _ =>
    if glB c.sc g = true then (lamB c f x lbody scope).bind fun r => (mapEs (f c) es).map fun xs => .lamc g r.1 r.2 xs else none
  | .Lambda ⟨[], [], none, [], [], none, []⟩ lbody scope _ => match es with
    | [] => if glB c.sc g = true then (lamB0 c f lbody scope).map fun r => .lam0 g r.1 r.2 else none
    | _ => none
  | _ => none
/-- the names of some classes -/
noncomputable def nmsB (c : TC) : List Expr → Option (List (Str × Pos))
  | [] => some []
  | .Name T p :: r => if glB c.sc T = true ∧ (tyName T).isNone = true ∧ (T == ("ValueError" : Str) || c.cl.contains T) = true then (nmsB c r).map ((T, p) :: ·) else none
  | _ :: _ => none
noncomputable def trCmp (c : TC) (f0 : TC → Expr → Option Ex) (e0 : Expr) : Option Ex :=
  match e0 with
  | .Compare a [op] [b] _ => if behindInMarks op b = true then none else (f0 c a).bind fun x => (f0 c b).map fun y => .cmp x op y
  | .Compare a [op, op2] [b, d] _ => if lastMarks [op, op2] [b, d] = true then none else (f0 c a).bind fun x => (f0 c b).bind fun y => (f0 c d).map fun z => .cmp2 x op y op2 z
  | .Compare a [op, op2, op3] [b, d, e] _ => if lastMarks [op, op2, op3] [b, d, e] = true then none else (f0 c a).bind fun x => (f0 c b).bind fun y => (f0 c d).bind fun z => (f0 c e).map fun w => .cmp3 x op y op2 z op3 w
  | _ => none
/-- sorted(xs, key=lambda ..), sorted(range(n), key=lambda ..) -/
noncomputable def trSrt (c : TC) (f : Expr → Option Ex) (a : Expr) (l : Option (List Nat × Ex)) : Option Ex :=
  match a with
  | .Call (.Name g _) [b] [] _ =>
    if g = ("range" : Str) then (if glB c.sc "range" = true ∧ nst b = true then (f b).bind fun y => l.map fun r => .srtk true r.1 r.2 y else none) else none
  | .Call _ _ _ _ => none
  | a => if nst a = true then (f a).bind fun y => l.map fun r => .srtk false r.1 r.2 y else none
noncomputable def trCall (c : TC) (f0 : TC → Expr → Option Ex) (e0 : Expr) : Option Ex :=
  match e0 with
  | .Call (.Name f _) [] [] _ => if c.lam = some f ∧ visB c.sc f = true then some (.call f .nil) else none
  | .Call (.Name f _) (a :: es) [] _ =>
    match trSp c (f0 c) f a es with
    | some x => some x
    | none =>
    match trLam c (fun c => f0 c) f a es with
    | some x => some x
    | none =>
    if f = ("isinstance" : Str) then
      match es with
      | [.Tuple ts _ _] => (nmsB c ts).bind fun r => if nst a = true ∧ glB c.sc "isinstance" = true ∧ 2 ≤ r.length ∧ r.length ≤ 1000 then (f0 c a).map fun x => .isi x (r.map (·.1)) else none
      | [.Name T _] => if nst a = true ∧ glB c.sc "isinstance" = true ∧ glB c.sc T = true ∧ ((tyName T).isSome || T == ("ValueError" : Str) || c.cl.contains T) = true then (f0 c a).map fun x => .isi x [T] else none
      | _ => none
    else if glB c.sc f = true ∧ askB f = false then
      (mapEs (f0 c) (a :: es)).map fun xs => if (bval f).isSome = true then .bi f xs else .call f xs
    else if c.lam = some f ∧ visB c.sc f = true then (mapEs (f0 c) (a :: es)).map fun xs => .call f xs
    else if visB c.sc f = true ∧ dbgs f = false then (ixOf f c.N).bind fun i => (mapEs (f0 c) (a :: es)).map fun xs => .callv i xs
    else none
  | .Call (.Name f _) [a] [⟨some kn, .Constant (.int d) _ _, _⟩] _ =>
    if f = ("max" : Str) ∧ kn = ("default" : Str) ∧ glB c.sc "max" = true ∧ nst a = true then (f0 c a).map fun y => .maxd y d else none
  | .Call (.Name f _) [a] [⟨some kn, .Lambda ⟨[], [⟨x, none, _⟩], none, [], [], none, []⟩ lbody scope _, _⟩] _ =>
    if f = ("min" : Str) ∧ kn = ("key" : Str) ∧ glB c.sc "min" = true ∧ nst a = true then (f0 c a).bind fun y => (lamB c (fun c => f0 c) x lbody scope).map fun r => .minl r.1 r.2 y
    else if f = ("sorted" : Str) ∧ kn = ("key" : Str) ∧ glB c.sc "sorted" = true then trSrt c (f0 c) a (lamB c (fun c => f0 c) x lbody scope) else none
  | .Call (.Attribute o m apos) es [] pos =>
    if c0B o = true ∨ (mtab.lookup m).isNone = true ∨ (apos.endLine == pos.line) = false ∨ 4 ≤ es.length then none else (f0 c o).bind fun x => (mapEs (f0 c) es).map fun xs => .mt m x xs
  | _ => none
noncomputable def trDict (c : TC) (f0 : TC → Expr → Option Ex) (e0 : Expr) : Option Ex :=
  match e0 with
  | .Dict [] [] _ => some .dict0
  | .Dict [some (.Name x p)] [v] _ => (f0 c (.Name x p)).bind fun a => (f0 c v).map fun b => .dicE a b
  | .Dict [some (.Constant (.int k) _ _)] [.Constant v _ _] _ => match v with
    | .int i => some (.dic1 k (.int i))
    | .bool b => some (.dic1 k (.bl b))
    | .none => some (.dic1 k .non)
    | _ => none
  | _ => none
noncomputable def trE : Nat → TC → Expr → Option Ex
  | 0, _, _ => none
  | n + 1, c, e =>
    match e with
    | .Name x _ => if dbgs x = true then none else if visB c.sc x = true then (ixOf x c.N).map .v else if glB c.sc x = true ∧ askB x = false then some (.g x) else none
    | .Constant v _ _ => match v with
      | .int i => some (.c (.int i))
      | .bool b => some (.c (.bl b))
      | .none => some (.c .non)
      | .str s => some (.c (.str s))
      | _ => none
    | .BinOp a op b _ => (trE n c a).bind fun x => (trE n c b).map fun y => .bin op x y
    | .UnaryOp .USub a _ => (trE n c a).map .neg
    | .UnaryOp .Not a _ => (trE n c a).map .nt
    | .BoolOp op vs _ => (mapEs (trE n c) vs).bind (opB op)
    | .Compare a b d p => trCmp c (fun c => trE n c) (.Compare a b d p)
    | .Call a b d p => trCall c (fun c => trE n c) (.Call a b d p)
    | .Attribute o f _ => if c0B o = true ∨ f ≠ ("ring" : Str) then none else (trE n c o).map .ring
    | .Subscript a i _ => match i with
      | .Slice none none (some (.UnaryOp .USub (.Constant (.int 1) _ _) _)) _ => (trE n c a).map .rev
      | .Slice lo hi none _ => (trE n c a).bind fun x => (trO (trE n c) lo).bind fun l => (trO (trE n c) hi).map fun h => .sl x l h
      | i => if slcB i = true then none else (trE n c a).bind fun x => (trE n c i).map fun y => .ix x y
    | .Tuple es _ _ => (mapEs (trE n c) es).map .tup
    | .List es _ => (mapEs (trE n c) es).map .lst
    | .Dict a b p => trDict c (fun c => trE n c) (.Dict a b p)
    | .ListComp elt [⟨tg, iter, ifs, 0⟩] scope _ => (trLc c (fun c => trE n c) n elt tg iter ifs scope).map fun r => .lc r.xe r.t r.it r.f (r.own.map (·.2))
    | .IfExp t a b _ => (trE n c t).bind fun x => (trE n c a).bind fun y => (trE n c b).map fun z => .ife x y z
    | _ => none
section
variable {X : Cx} {k : Nat} {G : Gam} {c : TC}
theorem mapEs_nst {f : Expr → Option Ex} : ∀ {es : List Expr} {xs : Es}, mapEs f es = some xs → es.all nst = true
  | [], _, _ => rfl
  | e :: r, xs, h => by
    simp only [mapEs] at h
    split at h
    · rename_i q
      obtain ⟨x, hx, h⟩ := Option.bind_eq_some_iff.mp h
      simp only [Option.map_eq_some_iff] at h
      obtain ⟨y, hy, rfl⟩ := h
      rw [List.all_cons, q, mapEs_nst hy]; rfl
    · cases h
theorem mapEs_len {f : Expr → Option Ex} : ∀ {es : List Expr}, mapEs f es = some .nil → es = []
  | [], _ => rfl
  | e :: r, h => by
    simp only [mapEs] at h
    split at h
    · obtain ⟨x, hx, h⟩ := Option.bind_eq_some_iff.mp h
      simp only [Option.map_eq_some_iff] at h
      obtain ⟨y, hy, h⟩ := h
      cases h
    · cases h
theorem jl_map {f : Expr → Option Ex} (hf : ∀ e x, f e = some x → JA X L (fun env st => evA G env x st) e) : ∀ {es : List Expr} {xs : Es}, mapEs f es = some xs → JL X L (fun env st => evEs G env xs st) es
  | [], xs, h => by cases h; exact jl_nil
  | e :: r, xs, h => by
    simp only [mapEs] at h
    split at h
    · rename_i q
      obtain ⟨x, hx, h⟩ := Option.bind_eq_some_iff.mp h
      simp only [Option.map_eq_some_iff] at h
      obtain ⟨y, hy, rfl⟩ := h
      exact jl_cons (hf e x hx) (jl_map hf hy) (starEach_ok q)
    · cases h
theorem jls_map {f : Expr → Option Ex} (hf : ∀ e x, f e = some x → JA X L (fun env st => evA G env x st) e) : ∀ {es : List Expr} {xs : Es}, mapEs f es = some xs → JLs X L (fun env st => evAs G env xs st) es
  | [], xs, h => by cases h; exact jls_nil
  | e :: r, xs, h => by
    simp only [mapEs] at h
    split at h
    · rename_i q
      obtain ⟨x, hx, h⟩ := Option.bind_eq_some_iff.mp h
      simp only [Option.map_eq_some_iff] at h
      obtain ⟨y, hy, rfl⟩ := h
      exact jls_cons (hf e x hx) (jls_map hf hy) (starEach_ok q)
    · cases h
theorem ja_bop {f : Expr → Option Ex} {pos : Pos} (hf : ∀ e x, f e = some x → JA X L (fun env st => evA G env x st) e) : ∀ {es : List Expr} {x : Ex} {xs : Es},
    (mapEs f es = some (.cons x xs) → JA X L (fun env st => evAnd G env (.cons x xs) st) (.BoolOp .And es pos)) ∧ (mapEs f es = some (.cons x xs) → JA X L (fun env st => evOr G env (.cons x xs) st) (.BoolOp .Or es pos))
  | [], x, xs => ⟨fun h => by simp [mapEs] at h, fun h => by simp [mapEs] at h⟩
  | e :: r, x, xs => by
    have key : ∀ (P : Prop), (∀ hx : f e = some x, mapEs f r = some xs → P) → mapEs f (e :: r) = some (.cons x xs) → P := fun P hp h => by
      simp only [mapEs] at h
      split at h
      · obtain ⟨x', hx, h⟩ := Option.bind_eq_some_iff.mp h
        simp only [Option.map_eq_some_iff] at h
        obtain ⟨y, hy, h⟩ := h
        cases h
        exact hp hx hy
      · cases h
    refine ⟨key _ fun hx hr => ?_, key _ fun hx hr => ?_⟩
    · cases xs with
      | nil =>
        obtain rfl := mapEs_len hr
        simpa only [evAnd] using ja_one (hf e x hx)
      | cons y ys =>
        cases r with
        | nil => simp [mapEs] at hr
        | cons e2 r2 => exact ja_and (hf e x hx) ((ja_bop (pos := pos) hf).1 hr)
    · cases xs with
      | nil =>
        obtain rfl := mapEs_len hr
        simpa only [evOr] using ja_one (hf e x hx)
      | cons y ys =>
        cases r with
        | nil => simp [mapEs] at hr
        | cons e2 r2 => exact ja_or (hf e x hx) ((ja_bop (pos := pos) hf).2 hr)
theorem jw_bop {f : Expr → Option Ex} {pos : Pos} (hf : ∀ e x, f e = some x → JT X L (fun env st => tst G env x st) e) : ∀ {es : List Expr} {x : Ex} {xs : Es},
    (mapEs f es = some (.cons x xs) → JW X L (fun env st => tstAnd G env (.cons x xs) st) (.BoolOp .And es pos)) ∧ (mapEs f es = some (.cons x xs) → JW X L (fun env st => tstOr G env (.cons x xs) st) (.BoolOp .Or es pos))
  | [], x, xs => ⟨fun h => by simp [mapEs] at h, fun h => by simp [mapEs] at h⟩
  | e :: r, x, xs => by
    have key : ∀ (P : Prop), (∀ hx : f e = some x, mapEs f r = some xs → P) → mapEs f (e :: r) = some (.cons x xs) → P := fun P hp h => by
      simp only [mapEs] at h
      split at h
      · obtain ⟨x', hx, h⟩ := Option.bind_eq_some_iff.mp h
        simp only [Option.map_eq_some_iff] at h
        obtain ⟨y, hy, h⟩ := h
        cases h
        exact hp hx hy
      · cases h
    refine ⟨key _ fun hx hr => ?_, key _ fun hx hr => ?_⟩
    · cases xs with
      | nil =>
        obtain rfl := mapEs_len hr
        exact jw_and1 (hf e x hx)
      | cons y ys =>
        cases r with
        | nil => simp [mapEs] at hr
        | cons e2 r2 => exact jw_and (hf e x hx) ((jw_bop (pos := pos) hf).1 hr)
    · cases xs with
      | nil =>
        obtain rfl := mapEs_len hr
        exact jw_or1 (hf e x hx)
      | cons y ys =>
        cases r with
        | nil => simp [mapEs] at hr
        | cons e2 r2 => exact jw_or (hf e x hx) ((jw_bop (pos := pos) hf).2 hr)
theorem trO_ok {f : Expr → Option Ex} (hf : ∀ e x, f e = some x → JA X L (fun env st => evA G env x st) e) {o : Option Expr} {x : Eo} (h : trO f o = some x) : JO X L (fun env st => evO G env x st) o := by
  cases o with
  | none => cases h; exact jo_no
  | some e =>
    simp only [trO, Option.map_eq_some_iff] at h
    obtain ⟨x, h, rfl⟩ := h
    exact jo_so (hf e x h)
theorem trIf_ok {f : Expr → Option Ex} (hf : ∀ e x, f e = some x → JT X L (fun env st => tst G env x st) e) {o : List Expr} {x : Eo} (h : trIf f o = some x) : JTs X L (fun env st => evIf G env x st) o := by
  unfold trIf at h
  split at h
  · cases h; exact jts_no
  · simp only [Option.map_eq_some_iff] at h
    obtain ⟨x, h, rfl⟩ := h
    exact jts_so (hf _ x h)
  · cases h
theorem trIt_val {f : Expr → Option Ex} {tg e : Expr} {it : It} (hf : ∀ e x, f e = some x → JA X L (fun env st => evA G env x st) e) (h : (f e).map It.val = some it) : JI X L (fun env st => evIt G env it st) tg e := by
  simp only [Option.map_eq_some_iff] at h
  obtain ⟨x, h, rfl⟩ := h
  exact ji_val (hf e x h)
theorem trIt_ok {f : Expr → Option Ex} (t : Tr X L k G c) (hf : ∀ e x, f e = some x → JA X L (fun env st => evA G env x st) e) {tg e : Expr} {it : It} (h : trIt c f tg e = some it) : JI X L (fun env st => evIt G env it st) tg e := by
  have tup : isTup tg = true → ∃ a b d, tg = .Tuple a b d := fun q => by
    cases tg <;> first | exact ⟨_, _, _, rfl⟩ | cases q
  unfold trIt at h
  split at h
  · split at h
    · rename_i ex
      subst ex
      split at h
      · rename_i q
        simp only [Option.map_eq_some_iff] at h
        obtain ⟨x, h, rfl⟩ := h
        exact ji_rng t.gx (glB_ok t q.1).1 (hf _ x h) (starEach_ok q.2)
      · cases h
    · split at h
      · rename_i ex
        subst ex
        split at h
        · rename_i q
          simp only [Option.map_eq_some_iff] at h
          obtain ⟨x, h, rfl⟩ := h
          obtain ⟨_, _, _, rfl⟩ := tup q.2.2
          exact ji_enum t.gx (glB_ok t q.1).1 (hf _ x h) (starEach_ok q.2.1)
        · cases h
      · exact trIt_val hf h
  · split at h
    · rename_i ex
      subst ex
      split at h
      · rename_i q
        obtain ⟨x, hx, h⟩ := Option.bind_eq_some_iff.mp h
        simp only [Option.map_eq_some_iff] at h
        obtain ⟨y, hy, rfl⟩ := h
        exact ji_rng2 t.gx (glB_ok t q.1).1 (hf _ x hx) (hf _ y hy) (starEach_ok q.2.1) (starEach_ok q.2.2)
      · cases h
    · split at h
      · rename_i ex
        subst ex
        split at h
        · rename_i q
          obtain ⟨x, hx, h⟩ := Option.bind_eq_some_iff.mp h
          simp only [Option.map_eq_some_iff] at h
          obtain ⟨y, hy, rfl⟩ := h
          obtain ⟨_, _, _, rfl⟩ := tup q.2.2.2
          refine ji_zip t.gx (glB_ok t q.1).1 (hf _ x hx) (hf _ y hy) (starEach_ok q.2.1) (starEach_ok q.2.2.1) (back_ok ?_)
          rw [List.all_cons, q.2.2.1]; rfl
        · cases h
      · exact trIt_val hf h
  · exact trIt_val hf h
end
end Ev
namespace Ev
open PySem PySem.Spec PyProof.Rows L2 LamX NdefX
variable {L : LT}
structure LcOk (X : Cx) (L : LT) (G : Gam) (r : LcT) (elt tg iter : Expr) (ifs : List Expr) (scope : Scope) : Prop where
  it : JI X L (fun env st => evIt G env r.it st) tg iter
  ok : BlkOk X.N X.env.scope scope r.own
  tg : ∀ (s : Shared) (H : Hp) (C : Addr) (cl : List (Str × Addr)) (fp : List Addr), JG (X.blk s H scope (compEnvC scope cl C X.env) fp) L r.t tg
  ifs : ∀ (s : Shared) (H : Hp) (C : Addr) (cl : List (Str × Addr)) (fp : List Addr), JTs (X.blk s H scope (compEnvC scope cl C X.env) fp) L (fun env st => evIf G env r.f st) ifs
  el : ∀ (s : Shared) (H : Hp) (C : Addr) (cl : List (Str × Addr)) (fp : List Addr), JA (X.blk s H scope (compEnvC scope cl C X.env) fp) L (fun env st => evA G env r.xe st) elt
  sl : ∀ i ∈ slots r.t, i ∈ r.own.map (·.2)
  ol : ∀ i ∈ r.own.map (·.2), L i = none
  fs : ∀ x, foldedSetIterable iter X.env x = pure x
noncomputable def GoodF (G : Gam) (f : TC → Expr → Option Ex) : Prop := ∀ L k X c, Tr X L k G c → ∀ e x, f c e = some x → JA X L (fun env st => evA G env x st) e ∧ JT X L (fun env st => tst G env x st) e
theorem ownOf_mem {N : List Str} : ∀ {l : List (Str × NameKind)} {y : Str × Nat}, y ∈ ownOf N l → (∃ k, (y.1, k) ∈ l) ∧ ixOf y.1 N = some y.2
  | (x, k) :: r, y, h => by
    unfold ownOf at h
    rcases List.mem_append.mp h with h | h
    · split at h
      · rename_i i e _
        simp only [List.mem_singleton] at h
        subst h
        exact ⟨⟨_, List.mem_cons_self⟩, e⟩
      · rename_i i e _
        simp only [List.mem_singleton] at h
        subst h
        exact ⟨⟨_, List.mem_cons_self⟩, e⟩
      · cases h
    · obtain ⟨⟨k', h1⟩, h2⟩ := ownOf_mem h
      exact ⟨⟨k', List.mem_cons_of_mem _ h1⟩, h2⟩
theorem nscope_by {N ps fr : List Str} {sc : Scope} (h : nscB N ps fr sc = true) : NScope N ps fr sc := by
  unfold nscB at h
  simp only [Bool.and_eq_true, decide_eq_true_eq, List.all_eq_true, Bool.not_eq_true', decide_eq_false_iff_not, Bool.or_eq_true] at h
  obtain ⟨⟨⟨⟨⟨⟨⟨⟨h1, h2⟩, h3⟩, h4⟩, h5⟩, h6⟩, h7⟩, h8⟩, h9⟩ := h
  exact ⟨h1, h2, h3, h4, h5, h6, h7, fun y hy e => (h8 y hy).elim (fun z => absurd e z) id, h9⟩
theorem mapM_ix {N : List Str} : ∀ {fr : List Str} {js : List Nat}, fr.mapM (fun y => ixOf y N) = some js → js.map (fun j => N[j]?) = fr.map some
  | [], js, h => by
    simp only [List.mapM_nil] at h
    cases h
    rfl
  | y :: r, js, h => by
    rw [List.mapM_cons] at h
    obtain ⟨j, hj, h⟩ := Option.bind_eq_some_iff.mp h
    obtain ⟨js', hjs, h⟩ := Option.bind_eq_some_iff.mp h
    cases h
    rw [List.map_cons, List.map_cons, ixOf_ok hj, mapM_ix hjs]
section
variable {X : Cx} {k : Nat} {G : Gam} {c : TC}
theorem lamB_ok (t : Tr X L k G c) {f : TC → Expr → Option Ex} (hf : GoodF G f) {x : Str} {lbody : Expr} {scope : Scope} {r : List Nat × Ex} {ap lpos : Pos} (h : lamB c f x lbody scope = some r) :
    ∃ k0 cc P, k0 + 2 ≤ k ∧ GX X k0 G ∧ LamTx X k0 G x ap lpos scope (freesOf scope.names) r.1 r.2 lbody cc P := by
  unfold lamB at h
  split at h
  · rename_i q
    obtain ⟨q1, q2, q3, q4⟩ := q
    obtain ⟨js, hjs, h⟩ := Option.bind_eq_some_iff.mp h
    simp only [Option.map_eq_some_iff] at h
    obtain ⟨lb, hlb, rfl⟩ := h
    obtain ⟨k0, cc, P, hk, g0, hcd, TB, mT, one, hstk⟩ := t.lm q1
    have S := nscope_by q2
    unfold ndefB at q3
    simp only [Bool.and_eq_true, List.all_eq_true, Bool.or_eq_true, Bool.not_eq_true', decide_eq_false_iff_not, decide_eq_true_eq] at q3
    refine ⟨k0, cc, P, hk, g0, hcd, TB, mT, one, S, fun y hy e => ?_, fun y hy => q3.2 y hy, ?_, fun y hy => t.fb y (List.all_eq_true.mp q4 y hy), hstk, ?_⟩
    · rw [t.sc]
      rcases q3.1 y hy with (z | z) | z
      · exact absurd e z
      · exact .inl z
      · exact .inr z
    · rw [t.N]; exact mapM_ix hjs
    · intro A outer s H E fl F hF hroom
      refine (hf noL k0 _ (lamTC c x scope) ⟨rfl, hF, fun _ h => (by cases h), ⟨rfl, S.nd, hroom, passes_of (X := ncx (L2.CX X.prog X.w) X.prog X.w X.K X.mg X.base (x :: freesOf scope.names) F fl A outer s H E) rfl⟩, g0, t.cl, fun i f h => (by cases h), fun _ h => (by cases h), fun h => (by cases h)⟩ _ _ hlb).1
  · cases h
theorem lamB0_ok (t : Tr X L k G c) {f : TC → Expr → Option Ex} (hf : GoodF G f) {lbody : Expr} {scope : Scope} {r : List Nat × Ex} {lpos : Pos} (h : lamB0 c f lbody scope = some r) :
    ∃ k0 cc P, k0 + 2 ≤ k ∧ GX X k0 G ∧ LamTx0 X k0 G lpos scope (freesOf scope.names) r.1 r.2 lbody cc P := by
  unfold lamB0 at h
  split at h
  · rename_i q
    obtain ⟨q1, q2, q3, q4⟩ := q
    obtain ⟨js, hjs, h⟩ := Option.bind_eq_some_iff.mp h
    simp only [Option.map_eq_some_iff] at h
    obtain ⟨lb, hlb, rfl⟩ := h
    obtain ⟨k0, cc, P, hk, g0, hcd, TB, mT, one, hstk⟩ := t.lm q1
    have S := nscope_by q2
    unfold ndefB at q3
    simp only [Bool.and_eq_true, List.all_eq_true, Bool.or_eq_true, Bool.not_eq_true', decide_eq_false_iff_not, decide_eq_true_eq] at q3
    refine ⟨k0, cc, P, hk, g0, hcd, TB, mT, one, S, fun y hy e => ?_, fun y hy => q3.2 y hy, ?_, fun y hy => t.fb y (List.all_eq_true.mp q4 y hy), hstk, ?_⟩
    · rw [t.sc]
      rcases q3.1 y hy with (z | z) | z
      · exact absurd e z
      · exact .inl z
      · exact .inr z
    · rw [t.N]; exact mapM_ix hjs
    · intro A outer s H E fl F hF hroom
      refine (hf noL k0 _ (lamTC0 c scope) ⟨rfl, hF, fun _ h => (by cases h), ⟨rfl, S.nd, hroom, passes_of (X := ncx (L2.CX X.prog X.w) X.prog X.w X.K X.mg X.base (freesOf scope.names) F fl A outer s H E) rfl⟩, g0, t.cl, fun i f h => (by cases h), fun _ h => (by cases h), fun h => (by cases h)⟩ _ _ hlb).1
  · cases h
theorem trLc_ok (t : Tr X L k G c) {f : TC → Expr → Option Ex} (hf : GoodF G f) {n : Nat} {elt tg iter : Expr} {ifs : List Expr} {scope : Scope} {r : LcT} (h : trLc c f n elt tg iter ifs scope = some r) : LcOk X L G r elt tg iter ifs scope := by
  unfold trLc at h
  dsimp only at h
  split at h
  · rename_i q
    obtain ⟨it, hi, h⟩ := Option.bind_eq_some_iff.mp h
    obtain ⟨tt, ht, h⟩ := Option.bind_eq_some_iff.mp h
    obtain ⟨g, hg, h⟩ := Option.bind_eq_some_iff.mp h
    obtain ⟨x, hx, h⟩ := Option.bind_eq_some_iff.mp h
    split at h
    · rename_i hs
      cases h
      refine ⟨trIt_ok t (fun e x h => (hf L k X c t e x h).1) hi, ?_, fun s H C cl fp => (trTg_ok (t.blk s H C cl fp) n).1 _ _ ht, fun s H C cl fp => trIf_ok (fun e x h => (hf L k _ _ (t.blk s H C cl fp) e x h).2) hg, fun s H C cl fp => (hf L k _ _ (t.blk s H C cl fp) _ _ hx).1, fun i hi => ?_, fun i hi => ?_, fold_ok q.2⟩
      · rw [t.N, t.sc]; exact blkOk_by q.1
      · have := List.all_eq_true.mp hs.1 i hi
        simpa using this
      · obtain ⟨y, hy, rfl⟩ := List.mem_map.mp hi
        obtain ⟨⟨kk, h1⟩, h2⟩ := ownOf_mem hy
        exact t.hL h2 (by simpa using List.all_eq_true.mp hs.2 _ h1)
    · cases h
  · cases h
theorem both {x : Ex} {e : Expr} (ha : JA X L (fun env st => evA G env x st) e) (he : ∀ whole, isTrue e X.env whole = (do let v ← whole; standAt e.pos; holding [v] (truthy v))) : JA X L (fun env st => evA G env x st) e ∧ JT X L (fun env st => tst G env x st) e := ⟨ha, jt_of ha he⟩
theorem pt_ifExp {a b t : Expr} {tt ta tb : TT} {pos : Pos} (ht : PT X t tt) (ha : PT X a ta) (hb : PT X b tb) : PT X (.IfExp t a b pos) (fun σ H Q => tt σ H fun c H1 => if c = true then ta σ H1 Q else tb σ H1 Q) := by
  refine ⟨fun pins s σ H Q I h => ?_⟩
  show wpAny _ _ (do if ← isTrue t X.env (eval t X.env) then isTrue a X.env (eval a X.env) else isTrue b X.env (eval b X.env)) _ _ _
  refine wpAny_bind (thn (ht.run pins s σ H _ I h) fun c s1 ⟨H1, I1, q⟩ => ?_)
  cases c with
  | true => exact ha.run pins s1 σ H1 Q I1 q
  | false => exact hb.run pins s1 σ H1 Q I1 q
theorem jt_ife {a b t : Expr} {xt xa xb : Ex} {pos : Pos} (ht : JT X L (fun env st => tst G env xt st) t) (ha : JT X L (fun env st => tst G env xa st) a) (hb : JT X L (fun env st => tst G env xb st) b) : JT X L (fun env st => tst G env (.ife xt xa xb) st) (.IfExp t a b pos) := by
  intro W tk
  refine PT.imp (pt_ifExp (ht W tk) (ha W tk) (hb W tk)) ?_
  rintro σ H Q ⟨ρ, env, st, he, hs, h⟩
  have e0 : tst G env (.ife xt xa xb) st = (tst G env xt st).bind fun r st => if r = true then tst G env xa st else tst G env xb st := by
    simp only [tst, evA]
    cases evA G env xt st with
    | ok z s1 =>
      simp only [Rs.bind]
      cases truA z s1 with
      | ok b s2 => cases b <;> rfl
      | exc c fs s2 => rfl
      | bad => rfl
    | exc c fs s1 => rfl
    | bad => rfl
  have h : KR X.K X.mg rEq W σ Q H ρ (tst G env (.ife xt xa xb) st) := h
  rw [e0] at h
  refine ⟨ρ, env, st, he, hs, KR.bind h ?_⟩
  intro x st1 v1 H1 ρ1 e1 s1 r1 h1
  cases r1
  cases x with
  | true =>
    rw [if_pos rfl] at h1 ⊢
    exact ⟨ρ1, env, st1, he.mono e1, s1, h1.ext anti_eq e1⟩
  | false =>
    rw [if_neg Bool.false_ne_true] at h1 ⊢
    exact ⟨ρ1, env, st1, he.mono e1, s1, h1.ext anti_eq e1⟩
theorem plain_ok {b : Expr} (h : slcB b = false) : PlainIx b := by
  intro o i
  cases b <;> first | rfl | cases h
theorem base_ok {o : Expr} {m : Str} {env : PySem.Env} {w : Sem Value} (h : c0B o = false) : attributeBase o m env w = w := by
  unfold attributeBase
  split
  · cases h
  · rfl
theorem trSp_ok (t : Tr X L k G c) {f : Expr → Option Ex} (hA : ∀ e x, f e = some x → JA X L (fun env st => evA G env x st) e) {g : Str} {a : Expr} {es : List Expr} {x : Ex} {p pos : Pos} (h : trSp c f g a es = some x) : JA X L (fun env st => evA G env x st) (.Call (.Name g p) (a :: es) [] pos) := by
  unfold trSp at h
  split at h
  · split at h
    · split at h
      · rename_i q
        obtain ⟨q1, q2, q3⟩ := q
        split at h
        · rename_i r
          obtain ⟨rfl, rfl⟩ := r
          simp only [Option.map_eq_some_iff] at h
          obtain ⟨y, hy, rfl⟩ := h
          exact ja_nset t.gx t.gd (glB_ok t q1).1 (glB_ok t q2).1 (hA _ _ hy) (starEach_ok q3)
        · split at h
          · rename_i r
            obtain ⟨rfl, rfl⟩ := r
            simp only [Option.map_eq_some_iff] at h
            obtain ⟨y, hy, rfl⟩ := h
            exact ja_sset t.gx t.gd (glB_ok t q1).1 (glB_ok t q2).1 (hA _ _ hy) (starEach_ok q3)
          · split at h
            · rename_i r
              obtain ⟨rfl, rfl⟩ := r
              simp only [Option.map_eq_some_iff] at h
              obtain ⟨y, hy, rfl⟩ := h
              exact ja_rgl1 (by rfl) t.gx t.gd (glB_ok t q1).1 (glB_ok t q2).1 (hA _ _ hy) (starEach_ok q3)
            · split at h
              · rename_i r
                obtain ⟨rfl, rfl⟩ := r
                simp only [Option.map_eq_some_iff] at h
                obtain ⟨y, hy, rfl⟩ := h
                exact ja_rgl1 (by rfl) t.gx t.gd (glB_ok t q1).1 (glB_ok t q2).1 (hA _ _ hy) (starEach_ok q3)
              · cases h
      · cases h
    · cases h
  · cases h
theorem ja_noF {f : Str} {xs : Es} {e : Expr} (hn : G.fn f = none) : JA X L (fun env st => evA G env (.call f xs) st) e := by
  intro W tk
  refine ⟨fun pins s σ H Q I h => ?_⟩
  obtain ⟨ρ, env, st, he, rs, h⟩ := h
  simp only [evA, hn] at h
  exact h.elim
theorem trLam_ok (t : Tr X L k G c) {f : TC → Expr → Option Ex} (hf : GoodF G f) {g : Str} {a : Expr} {es : List Expr} {x : Ex} {p pos : Pos} (h : trLam c f g a es = some x) : JA X L (fun env st => evA G env x st) (.Call (.Name g p) (a :: es) [] pos) := by
  unfold trLam at h
  split at h
  · split at h
    · rename_i hg
      obtain ⟨r, hr, h⟩ := Option.bind_eq_some_iff.mp h
      simp only [Option.map_eq_some_iff] at h
      obtain ⟨xs, hx, rfl⟩ := h
      obtain ⟨k0, cc, P, hk, g0, T⟩ := lamB_ok t hf hr
      exact ja_lamc t.gd g0 hk (glB_ok t hg).1 (glB_ok t hg).2 T (jl_map (fun e x h => (hf L k X c t e x h).1) hx) (back_ok (mapEs_nst hx))
    · cases h
  · split at h
    · split at h
      · rename_i hg
        simp only [Option.map_eq_some_iff] at h
        obtain ⟨r, hr, rfl⟩ := h
        obtain ⟨k0, cc, P, hk, g0, T⟩ := lamB0_ok t hf hr
        exact ja_lam0 t.gd g0 hk (glB_ok t hg).1 (glB_ok t hg).2 T
      · cases h
    · cases h
  · cases h
theorem trSrt_ok (t : Tr X L k G c) {f : TC → Expr → Option Ex} (hf : GoodF G f) (hA : ∀ e x, f c e = some x → JA X L (fun env st => evA G env x st) e) {a : Expr} {xn : Str} {lbody : Expr} {scope : Scope} {ap lpos p pos kpos : Pos} {y : Ex} (hg : Gl X "sorted") (h : trSrt c (f c) a (lamB c f xn lbody scope) = some y) :
    JA X L (fun env st => evA G env y st) (.Call (.Name "sorted" p) [a] [⟨some "key", .Lambda (argOne xn ap) lbody scope lpos, kpos⟩] pos) := by
  unfold trSrt at h
  split at h
  · split at h
    · rename_i q
      subst q
      split at h
      · rename_i q
        obtain ⟨z, hz, h⟩ := Option.bind_eq_some_iff.mp h
        simp only [Option.map_eq_some_iff] at h
        obtain ⟨r, hr, rfl⟩ := h
        obtain ⟨k0, cc, P, hk, g0, T⟩ := lamB_ok t hf hr
        exact ja_srtR t.gx t.gd hk hg (glB_ok t q.1).1 T (hA _ _ hz) (starEach_ok q.2)
      · cases h
    · cases h
  · cases h
  · split at h
    · rename_i q
      obtain ⟨z, hz, h⟩ := Option.bind_eq_some_iff.mp h
      simp only [Option.map_eq_some_iff] at h
      obtain ⟨r, hr, rfl⟩ := h
      obtain ⟨k0, cc, P, hk, g0, T⟩ := lamB_ok t hf hr
      exact ja_srtL t.gx t.gd hk hg T (hA _ _ hz) (starEach_ok q)
    · cases h
theorem nmsB_ok (t : Tr X L k G c) : ∀ {es : List Expr} {r : List (Str × Pos)}, nmsB c es = some r → es = r.map (fun z => .Name z.1 z.2) ∧ ∀ z ∈ r, NmOk X z.1
  | [], r, h => by cases h; exact ⟨rfl, fun z hz => by cases hz⟩
  | e :: es, r, h => by
    unfold nmsB at h
    split at h
    · rename_i z1; cases z1
    · rename_i T p r' z1
      cases z1
      split at h
      · rename_i q
        simp only [Option.map_eq_some_iff] at h
        obtain ⟨s, hs, rfl⟩ := h
        obtain ⟨h1, h2⟩ := nmsB_ok t hs
        refine ⟨by rw [h1]; rfl, fun z hz => ?_⟩
        rcases List.mem_cons.mp hz with rfl | hz
        · refine ⟨(glB_ok t q.1).1, (glB_ok t q.1).2, by simpa using q.2.1, ?_⟩
          rcases Bool.or_eq_true_iff.mp q.2.2 with z | z
          · exact .inr (beq_iff_eq.mp z)
          · exact .inl (t.cl T (by simpa using z))
        · exact h2 z hz
      · cases h
    · cases h
theorem trCmp_ok (t : Tr X L k G c) {f0 : TC → Expr → Option Ex} (ih : GoodF G f0) {e : Expr} {x : Ex} (h : trCmp c f0 e = some x) : JA X L (fun env st => evA G env x st) e ∧ JT X L (fun env st => tst G env x st) e := by
    have hA : ∀ e x, f0 c e = some x → JA X L (fun env st => evA G env x st) e := fun e x h => (ih L k X c t e x h).1
    have hT : ∀ e x, f0 c e = some x → JT X L (fun env st => tst G env x st) e := fun e x h => (ih L k X c t e x h).2
    unfold trCmp at h
    split at h
    · split at h
      · cases h
      · rename_i hm
        obtain ⟨x, hx, h⟩ := Option.bind_eq_some_iff.mp h
        simp only [Option.map_eq_some_iff] at h
        obtain ⟨y, hy, rfl⟩ := h
        exact ⟨ja_cmp t.gd (hA _ _ hx) (hA _ _ hy) (by simpa using hm), jt_cmp t.gd (hA _ _ hx) (hA _ _ hy) (by simpa using hm)⟩
    · split at h
      · cases h
      · rename_i hm
        obtain ⟨x, hx, h⟩ := Option.bind_eq_some_iff.mp h
        obtain ⟨y, hy, h⟩ := Option.bind_eq_some_iff.mp h
        simp only [Option.map_eq_some_iff] at h
        obtain ⟨z, hz, rfl⟩ := h
        exact ⟨ja_cmp2 t.gd (hA _ _ hx) (hA _ _ hy) (hA _ _ hz) (by simpa using hm), jt_cmp2 t.gd (hA _ _ hx) (hA _ _ hy) (hA _ _ hz) (by simpa using hm)⟩
    · split at h
      · cases h
      · rename_i hm
        obtain ⟨x, hx, h⟩ := Option.bind_eq_some_iff.mp h
        obtain ⟨y, hy, h⟩ := Option.bind_eq_some_iff.mp h
        obtain ⟨z, hz, h⟩ := Option.bind_eq_some_iff.mp h
        simp only [Option.map_eq_some_iff] at h
        obtain ⟨w, hw, rfl⟩ := h
        exact ⟨ja_cmp3 t.gd (hA _ _ hx) (hA _ _ hy) (hA _ _ hz) (hA _ _ hw) (by simpa using hm), jt_cmp3 t.gd (hA _ _ hx) (hA _ _ hy) (hA _ _ hz) (hA _ _ hw) (by simpa using hm)⟩
    · cases h
theorem trCall_ok (t : Tr X L k G c) {f0 : TC → Expr → Option Ex} (ih : GoodF G f0) {e : Expr} {x : Ex} (h : trCall c f0 e = some x) : JA X L (fun env st => evA G env x st) e ∧ JT X L (fun env st => tst G env x st) e := by
    have hA : ∀ e x, f0 c e = some x → JA X L (fun env st => evA G env x st) e := fun e x h => (ih L k X c t e x h).1
    have hT : ∀ e x, f0 c e = some x → JT X L (fun env st => tst G env x st) e := fun e x h => (ih L k X c t e x h).2
    unfold trCall at h
    split at h
    · -- Call of a lambda handed in
      split at h
      · rename_i q
        cases h
        refine both ?_ fun _ => rfl
        cases hA' : G.fn _ with
        | none => exact ja_noF hA'
        | some A =>
          obtain ⟨i, f, r0, h1, h2, h3, h4⟩ := (t.la _ q.1).2 A hA'
          exact ja_asked0 t.gd (t.la _ q.1).1 h1 h2 (by rw [t.sc]; exact visB_ok q.2) hA' h3 h4
      · cases h
    · -- Call of a name
      split at h
      · rename_i hsp
        cases h
        exact both (trSp_ok t hA hsp) fun _ => rfl
      rename_i hsp
      clear hsp
      split at h
      · rename_i hla
        cases h
        exact both (trLam_ok t ih hla) fun _ => rfl
      rename_i hla
      clear hla
      split at h
      · rename_i ef
        subst ef
        split at h
        · obtain ⟨r, hr, h⟩ := Option.bind_eq_some_iff.mp h
          split at h
          · rename_i q
            simp only [Option.map_eq_some_iff] at h
            obtain ⟨y, hy, rfl⟩ := h
            obtain ⟨er, nm⟩ := nmsB_ok t hr
            rw [er]
            exact both (ja_isiM t.gx (glB_ok t q.2.1).1 q.2.2.1 q.2.2.2 nm (hA _ _ hy) (fun e => starEach_ok q.1)) fun _ => rfl
          · cases h
        · split at h
          · rename_i q
            simp only [Option.map_eq_some_iff] at h
            obtain ⟨y, hy, rfl⟩ := h
            rename_i _ T _
            cases hn : tyName T with
            | some nm => exact both (ja_isi1 t.gx t.gd (glB_ok t q.2.1).1 (glB_ok t q.2.2.1).1 hn (hA _ _ hy) (starEach_ok q.1)) fun _ => rfl
            | none =>
              have hT : (∃ D, X.mg T = some (.ref D)) ∨ T = "ValueError" := by
                have q3 := q.2.2.2
                rw [hn] at q3
                simp only [Option.isSome_none, Bool.false_or, Bool.or_eq_true, beq_iff_eq] at q3
                rcases q3 with q3 | q3
                · exact .inr q3
                · exact .inl (t.cl T (by simpa using q3))
              exact both (ja_isiE t.gx t.gd (glB_ok t q.2.1).1 (glB_ok t q.2.2.1).1 (glB_ok t q.2.2.1).2 hn hT (hA _ _ hy) (starEach_ok q.1)) fun _ => rfl
          · cases h
        · cases h
      · split at h
        · rename_i hg
          simp only [Option.map_eq_some_iff] at h
          obtain ⟨xs, hx, rfl⟩ := h
          have hn := mapEs_nst hx
          rw [List.all_cons, Bool.and_eq_true] at hn
          split
          · rename_i hb
            obtain ⟨cu, hc⟩ := Option.isSome_iff_exists.mp hb
            exact both (ja_bi t.gx t.gd (glB_ok t hg.1).1 hc (jls_map hA hx) (starEach_ok hn.1) (back_ok hn.2)) fun _ => rfl
          · exact both (ja_call t.gx hg.2 t.gd (glB_ok t hg.1).1 (glB_ok t hg.1).2 (jl_map hA hx) (starEach_ok hn.1) (back_ok hn.2)) fun _ => rfl
        · split at h
          · rename_i q
            obtain ⟨q1, q2⟩ := q
            simp only [Option.map_eq_some_iff] at h
            obtain ⟨xs, hx, rfl⟩ := h
            have hn := mapEs_nst hx
            rw [List.all_cons, Bool.and_eq_true] at hn
            refine both ?_ fun _ => rfl
            cases hA' : G.fn _ with
            | none => exact ja_noF hA'
            | some A =>
              obtain ⟨i, f, r0, h1, h2, h3, h4⟩ := (t.la _ q1).2 A hA'
              exact ja_asked t.gd (t.la _ q1).1 h1 h2 (by rw [t.sc]; exact visB_ok q2) hA' h3 h4 (jl_map hA hx) (starEach_ok hn.1) (back_ok hn.2)
          split at h
          · rename_i q
            obtain ⟨i, hi, h⟩ := Option.bind_eq_some_iff.mp h
            simp only [Option.map_eq_some_iff] at h
            obtain ⟨xs, hx, rfl⟩ := h
            have hn := mapEs_nst hx
            rw [List.all_cons, Bool.and_eq_true] at hn
            have hd := q.2
            unfold dbgs at hd
            simp only [Bool.or_eq_false_iff] at hd
            exact both (ja_callv t.gx t.gd (by rw [t.N]; exact ixOf_ok hi) (by rw [t.sc]; exact visB_ok q.1) hd.1 hd.2 (jl_map hA hx) (starEach_ok hn.1) (back_ok hn.2)) fun _ => rfl
          · cases h
    · -- max with a default
      split at h
      · rename_i q
        obtain ⟨rfl, rfl, q3, q4⟩ := q
        simp only [Option.map_eq_some_iff] at h
        obtain ⟨y, hy, rfl⟩ := h
        exact both (ja_maxd t.gx t.gd (glB_ok t q3).1 (hA _ _ hy) (starEach_ok q4)) fun _ => rfl
      · cases h
    · -- min with a key
      split at h
      · rename_i q
        obtain ⟨rfl, rfl, q3, q4⟩ := q
        obtain ⟨y, hy, h⟩ := Option.bind_eq_some_iff.mp h
        simp only [Option.map_eq_some_iff] at h
        obtain ⟨r, hr, rfl⟩ := h
        obtain ⟨k0, cc, P, hk, g0, T⟩ := lamB_ok t ih hr
        exact both (ja_minl t.gx t.gd hk (glB_ok t q3).1 T (hA _ _ hy) (starEach_ok q4)) fun _ => rfl
      · split at h
        · rename_i q
          obtain ⟨rfl, rfl, q3⟩ := q
          exact both (trSrt_ok t (f := f0) ih hA (glB_ok t q3).1 h) fun _ => rfl
        · cases h
    · -- a method
      rename_i o m apos es pos
      split at h
      · cases h
      · rename_i q
        simp only [not_or, Bool.not_eq_true, Bool.not_eq_false] at q
        obtain ⟨x, hx, h⟩ := Option.bind_eq_some_iff.mp h
        simp only [Option.map_eq_some_iff] at h
        obtain ⟨ys, hy, rfl⟩ := h
        obtain ⟨⟨T, id⟩, hm⟩ : ∃ p, mtab.lookup _ = some p := Option.ne_none_iff_exists'.mp (by simpa using q.2.1)
        have hn := mapEs_nst hy
        cases es with
        | nil =>
          cases hy
          exact both (ja_mt0 hm (hA _ _ hx) (base_ok q.1) q.2.2.1) fun _ => rfl
        | cons e es =>
          have hn2 := hn
          rw [List.all_cons, Bool.and_eq_true] at hn2
          refine both (ja_mt hm (hA _ _ hx) (jls_map hA hy) (base_ok q.1) q.2.2.1 ?_ (starEach_ok hn2.1) (back_ok hn2.2)) fun _ => rfl
          rw [back_all hn]
          have : (e :: es).length < 4 := by omega
          simp only [List.length_cons] at this ⊢
          simp [backToKw, keywordEach]
          omega
    · cases h
theorem trDict_ok (t : Tr X L k G c) {f0 : TC → Expr → Option Ex} (ih : GoodF G f0) {e : Expr} {x : Ex} (h : trDict c f0 e = some x) : JA X L (fun env st => evA G env x st) e ∧ JT X L (fun env st => tst G env x st) e := by
    have hA : ∀ e x, f0 c e = some x → JA X L (fun env st => evA G env x st) e := fun e x h => (ih L k X c t e x h).1
    have hT : ∀ e x, f0 c e = some x → JT X L (fun env st => tst G env x st) e := fun e x h => (ih L k X c t e x h).2
    unfold trDict at h
    split at h
    · cases h
      exact both ja_dict0 fun _ => rfl
    · obtain ⟨x, hx, h⟩ := Option.bind_eq_some_iff.mp h
      simp only [Option.map_eq_some_iff] at h
      obtain ⟨y, hy, rfl⟩ := h
      exact both (ja_dicE (hA _ _ hx) (hA _ _ hy)) fun _ => rfl
    · split at h <;> cases h
      · exact both (ja_dic1 pe_int fun _ _ => .int _) fun _ => rfl
      · exact both (ja_dic1 pe_bl fun _ _ => .bl _) fun _ => rfl
      · exact both (ja_dic1 pe_non fun _ _ => .non) fun _ => rfl
    · cases h
theorem trE_ok : ∀ n, GoodF G (trE n)
  | 0 => fun L k X c t e x h => by simp [trE] at h
  | n + 1 => fun L k X c t e x h => by
    have ih := trE_ok n
    have hA : ∀ e x, trE n c e = some x → JA X L (fun env st => evA G env x st) e := fun e x h => (ih L k X c t e x h).1
    have hT : ∀ e x, trE n c e = some x → JT X L (fun env st => tst G env x st) e := fun e x h => (ih L k X c t e x h).2
    unfold trE at h
    split at h
    · -- Name
      rename_i y pos
      split at h
      · cases h
      · rename_i hd
        unfold dbgs at hd
        simp only [Bool.or_eq_true, not_or, Bool.not_eq_true] at hd
        split at h
        · rename_i hv
          simp only [Option.map_eq_some_iff] at h
          obtain ⟨i, h, rfl⟩ := h
          exact both (ja_v (by rw [t.N]; exact ixOf_ok h) (by rw [t.sc]; exact visB_ok hv) hd.1 hd.2) fun _ => rfl
        · split at h
          · rename_i hg
            cases h
            exact both (ja_g t.gx hg.2 (glB_ok t hg.1).1 hd.1) fun _ => rfl
          · cases h
    · -- Constant
      split at h <;> cases h
      · exact both ja_int fun _ => rfl
      · exact both ja_bl fun _ => rfl
      · exact both ja_non fun _ => rfl
      · exact both ja_str fun _ => rfl
    · obtain ⟨x, hx, h⟩ := Option.bind_eq_some_iff.mp h
      simp only [Option.map_eq_some_iff] at h
      obtain ⟨y, hy, rfl⟩ := h
      exact both (ja_bin (hA _ _ hx) (hA _ _ hy)) fun _ => rfl
    · simp only [Option.map_eq_some_iff] at h
      obtain ⟨y, hy, rfl⟩ := h
      exact both (ja_neg (hA _ _ hy)) fun _ => rfl
    · simp only [Option.map_eq_some_iff] at h
      obtain ⟨y, hy, rfl⟩ := h
      exact ⟨ja_nt (hA _ _ hy), jt_nt (hT _ _ hy)⟩
    · obtain ⟨xs, hx, h⟩ := Option.bind_eq_some_iff.mp h
      unfold opB at h
      split at h
      · cases h
      · rename_i hne
        cases xs with
        | nil => exact (hne rfl).elim
        | cons y ys =>
          split at h <;> cases h
          · exact ⟨(by simpa only [evA] using (ja_bop hA).1 hx), jt_and ((jw_bop hT).1 hx)⟩
          · exact ⟨(by simpa only [evA] using (ja_bop hA).2 hx), jt_or ((jw_bop hT).2 hx)⟩
    · exact trCmp_ok t ih h
    · exact trCall_ok t ih h
    · -- e.ring
      split at h
      · cases h
      · rename_i q
        simp only [not_or, Bool.not_eq_true, ne_eq, Decidable.not_not] at q
        simp only [Option.map_eq_some_iff] at h
        obtain ⟨y, hy, rfl⟩ := h
        obtain ⟨q1, rfl⟩ := q
        exact both (ja_ring t.gx (hA _ _ hy) (base_ok q1)) fun _ => rfl
    · -- a subscript
      split at h
      · simp only [Option.map_eq_some_iff] at h
        obtain ⟨y, hy, rfl⟩ := h
        exact both (ja_rev (hA _ _ hy)) fun _ => rfl
      · obtain ⟨x, hx, h⟩ := Option.bind_eq_some_iff.mp h
        obtain ⟨y, hy, h⟩ := Option.bind_eq_some_iff.mp h
        simp only [Option.map_eq_some_iff] at h
        obtain ⟨z, hz, rfl⟩ := h
        exact both (ja_sl (hA _ _ hx) (trO_ok hA hy) (trO_ok hA hz)) fun _ => rfl
      · split at h
        · cases h
        · rename_i hs
          obtain ⟨x, hx, h⟩ := Option.bind_eq_some_iff.mp h
          simp only [Option.map_eq_some_iff] at h
          obtain ⟨y, hy, rfl⟩ := h
          exact both (ja_ix (hA _ _ hx) (hA _ _ hy) (plain_ok (by simpa using hs))) fun _ => rfl
    · simp only [Option.map_eq_some_iff] at h
      obtain ⟨xs, hx, rfl⟩ := h
      exact both (ja_tup (jl_map hA hx)) fun _ => rfl
    · simp only [Option.map_eq_some_iff] at h
      obtain ⟨xs, hx, rfl⟩ := h
      exact both (ja_lst (jl_map hA hx)) fun _ => rfl
    · exact trDict_ok t ih h
    · simp only [Option.map_eq_some_iff] at h
      obtain ⟨r, hr, rfl⟩ := h
      have l := trLc_ok t ih hr
      exact both (ja_lc t.gd l.it l.ok l.tg l.ifs l.el l.sl l.ol l.fs) fun _ => rfl
    · obtain ⟨x, hx, h⟩ := Option.bind_eq_some_iff.mp h
      obtain ⟨y, hy, h⟩ := Option.bind_eq_some_iff.mp h
      simp only [Option.map_eq_some_iff] at h
      obtain ⟨z, hz, rfl⟩ := h
      exact ⟨ja_ife (hT _ _ hx) (hA _ _ hy) (hA _ _ hz), jt_ife (hT _ _ hx) (hT _ _ hy) (hT _ _ hz)⟩
    · cases h
end
end Ev
namespace Ev
open PySem PySem.Spec PyProof.Rows L2
variable {L : LT}
noncomputable def cmpScope : Expr → Option Scope
  | .ListComp _ _ s _ => some s
  | .SetComp _ _ s _ => some s
  | .DictComp _ _ _ s _ => some s
  | _ => none
noncomputable def swB (sc : Scope) (v t : Expr) : Bool :=
  match cmpScope v, t with
  | some s, .Name x p => sc.names.lookup x == some .local && p.line == v.pos.line && !(s.names.any fun (n, k) => n == x && (k == .local || k == .cell))
  | _, _ => false
theorem swB_ok {env : PySem.Env} (hk : env.scope.kind = .function) {v t : Expr} {l : Nat} : swapsWith v (some t) l env = pure (swB env.scope v t) := by
  have hb : (env.blockKind == ScopeKind.function) = true := by unfold Env.blockKind; rw [hk]; rfl
  unfold swapsWith swB
  cases v <;> first | rfl | (cases t <;> first | rfl | (simp only [cmpScope, hb, Env.kindOf, Bool.true_and]))
theorem swN_ok {env : PySem.Env} {v : Expr} {l : Nat} (h : (cmpScope v).isNone = true) : swapsWith v none l env = pure false := by
  cases v <;> first | rfl | cases h
noncomputable def swNames (sc : Scope) (line : Nat) (ts : List Expr) : List Str := ts.filterMap fun
  | .Name id pos => if sc.names.lookup id == some .local && pos.line == line then some id else none
  | _ => none
noncomputable def swS (sc : Scope) (t v : Expr) : Option (Option (List Str)) :=
  match t, v with
  | .Tuple ts _ _, .Tuple vs _ _ =>
    if (!(ts.length == 2 || ts.length == 3) || vs.length != ts.length) = true then some none
    else if (vs.any fun | .Starred .. => true | _ => false) = true then some none
    else
      if ((swNames sc ((ts.head?.map (·.pos.line)).getD 0) ts).length != ts.length || (swNames sc ((ts.head?.map (·.pos.line)).getD 0) ts).eraseDups.length != (swNames sc ((ts.head?.map (·.pos.line)).getD 0) ts).length) = true then some none
      else if vs.all (foldedForSure 8) = true then some none
      else if vs.all (constantsAlone 8) = true then none
      else some (some (swNames sc ((ts.head?.map (·.pos.line)).getD 0) ts))
  | .List _ _, .Tuple _ _ _ => none
  | _, _ => some none
theorem swS_ok {env : PySem.Env} (hk : env.scope.kind = .function) {t v : Expr} {r : Option (List Str)} (h : swS env.scope t v = some r) : swappedStores [t] v env = pure r := by
  have hb : (env.blockKind != ScopeKind.function) = false := by unfold Env.blockKind; rw [hk]; rfl
  unfold swappedStores
  unfold swS at h
  cases t <;> first | (cases h; rfl) | skip
  all_goals (cases v <;> first | (cases h; rfl) | (cases h; done) | skip)
  · rename_i ts _ _ vs _ _
    dsimp only at h ⊢
    have e : ∀ l, (ts.filterMap fun | .Name id pos => if env.kindOf id == some .local && pos.line == l then some id else none | _ => none) = swNames env.scope l ts := fun l => rfl
    simp only [e, hb, Bool.or_false]
    split at h
    · rename_i q; cases h; exact if_pos q
    · rename_i q; refine (if_neg q).trans ?_
      split at h
      · rename_i q; cases h; exact if_pos q
      · rename_i q; refine (if_neg q).trans ?_
        split at h
        · rename_i q; cases h; exact if_pos q
        · rename_i q; refine (if_neg q).trans ?_
          split at h
          · rename_i q; cases h; exact if_pos q
          · rename_i q; refine (if_neg q).trans ?_
            split at h
            · cases h
            · rename_i q; cases h; exact if_neg q
theorem sole_one {v t : Expr} {l : Nat} {env : PySem.Env} : swapsWithSole [t] v l env = swapsWith v (some t) l env := rfl
noncomputable def mapSs (f : Stmt → Sx) : List Stmt → Ss
  | [] => .nil
  | s :: r => .cons (f s) (mapSs f r)
noncomputable def trPar (c : TC) (f : Expr → Option Ex) (names : List Str) (t v : Expr) : Option Sx :=
  match t, v with
  | .Tuple [.Name x _, .Name y _] _ _, .Tuple [a, b] _ _ =>
    if names = [x, y] ∧ lclB c.sc x = true ∧ lclB c.sc y = true ∧ askB x = false ∧ askB y = false then
      (ixOf x c.N).bind fun i => (ixOf y c.N).bind fun j => (mapEs f [a, b]).bind fun xs => if i ≠ j then some (.asg (.tup (.cons (.nm i) (.cons (.nm j) .nil))) (.tup xs)) else none
    else none
  | .Tuple [.Name x _, .Name y _, .Name z _] _ _, .Tuple [a, b, d] _ _ =>
    if names = [x, y, z] ∧ lclB c.sc x = true ∧ lclB c.sc y = true ∧ lclB c.sc z = true ∧ askB x = false ∧ askB y = false ∧ askB z = false then
      (ixOf x c.N).bind fun i => (ixOf y c.N).bind fun j => (ixOf z c.N).bind fun l => (mapEs f [a, b, d]).bind fun xs => if i ≠ j ∧ i ≠ l ∧ j ≠ l then some (.asg (.tup (.cons (.nm i) (.cons (.nm j) (.cons (.nm l) .nil)))) (.tup xs)) else none
    else none
  | _, _ => none
noncomputable def trLcA (c : TC) (n : Nat) (y : Str) (v : Expr) : Option Sx :=
  match v with
  | .ListComp elt [⟨tg, iter, ifs, 0⟩] scope _ => if lclB c.sc y = true ∧ askB y = false then (ixOf y c.N).bind fun i => (trLc c (fun c => trE n c) n elt tg iter ifs scope).map fun r => .asg (.nm i) (.lc r.xe r.t r.it r.f (r.own.map (·.2))) else none
  | _ => none
noncomputable def trAsg (c : TC) (n : Nat) (t v : Expr) : Option Sx :=
  match t with
  | .Name y p => if swB c.sc v (.Name y p) = true then trLcA c n y v else (trTg c n (.Name y p)).bind fun tt => (trE n c v).bind fun x => match tt with
    | .nm i => some (.asg (.nm i) x)
    | _ => none
  | .Tuple ts kt p => match swS c.sc (.Tuple ts kt p) v with
    | some none => (trTgs c n ts).bind fun tt => (trE n c v).map fun x => .asg (.tup tt) x
    | some (some names) => trPar c (trE n c) names (.Tuple ts kt p) v
    | none => none
  | .Subscript o i _ => if slcB i = true then none else (trE n c v).bind fun x => (trE n c o).bind fun y => (trE n c i).map fun z => .st y z x
  | _ => none
noncomputable def strB : Expr → Bool
  | .Constant (.str _) _ _ => true
  | _ => false
noncomputable def trRaise (c : TC) (e : Expr) : Option Sx :=
  match e with
  | .Call (.Name x _) [.Constant (.str _) _ _] [] _ => if glB c.sc x = true then some (.raise x .nil) else none
  | .Call (.Name x _) [.Name y yp] [] _ => if glB c.sc x = true then (trE 4 c (.Name y yp)).map fun z => .raise x (.cons z .nil) else none
  | _ => none
/-- what a clause's suite may be -/
noncomputable def trHE (c : TC) : Expr → Option Ex
  | .Name x _ => if dbgs x = true ∨ visB c.sc x = false then none else (ixOf x c.N).map .v
  | .Constant v _ _ => match v with
    | .int i => some (.c (.int i))
    | .bool b => some (.c (.bl b))
    | .none => some (.c .non)
    | .str s => some (.c (.str s))
    | _ => none
  | _ => none
noncomputable def trH (c : TC) (s : Stmt) : Sx :=
  match s with
  | .Pass _ => .pass
  | .Return (some e) _ => match trHE c e with
    | some x => .ret x
    | none => .nev
  | .Assign [.Name y _] e _ => if locB c.sc y = true ∧ (c.fb y || lclB c.sc y) = true ∧ askB y = false then
      match trHE c e, ixOf y c.N with
      | some x, some i => .asg (.nm i) x
      | _, _ => .nev
    else .nev
  | _ => .nev
noncomputable def trS : Nat → TC → Stmt → Sx
  | 0, _, _ => .nev
  | n + 1, c, s =>
    match s with
    | .Pass _ => .pass
    | .Break _ => .brk
    | .Continue _ => .cont
    | .Return none _ => .ret0
    | .Return (some e) _ => match trE n c e with
      | some x => .ret x
      | none => .nev
    | .Expr e _ => if strB e = true then .pass else if (cmpScope e).isNone = true then (match trE n c e with
      | some x => .ex x
      | none => .nev) else .nev
    | .If t a b _ => match trE n c t with
      | some x => .ife x (mapSs (trS n c) a) (mapSs (trS n c) b)
      | none => .nev
    | .For tg iter body [] _ => if setB iter = true then .nev else match trIt c (trE n c) tg iter, trTg c n tg with
      | some it, some t => .for t it (mapSs (trS n c) body)
      | _, _ => .nev
    | .While t body [] _ => match trE n c t with
      | some x => .whl x (mapSs (trS n c) body)
      | none => .nev
    | .Raise (some e) none _ => (trRaise c e).getD .nev
    | .Try body [.ExceptHandler (some (.Name x _)) (some y) (b :: suite) _] [] [] _ =>
      if glB c.sc x = true ∧ c.cl.contains x = true ∧ lclB c.sc y = true ∧ askB y = false then
        match ixOf y c.N with
        | some i => .try (mapSs (trS n c) body) x i (mapSs (trH c) (b :: suite))
        | none => .nev
      else .nev
    | .Assign [t] v _ => (trAsg c n t v).getD .nev
    | _ => .nev
section
variable {X : Cx} {k : Nat} {G : Gam} {c : TC}
theorem mapSs_ok {f : Stmt → Sx} (hf : ∀ s, JS X L (fun env st => evS G (f s) env st) s) : ∀ ss, JSs X L (fun env st => evSs G (mapSs f ss) env st) ss
  | [] => jss_nil
  | s :: r => jss_cons (hf s) (mapSs_ok hf r)
theorem trPar_ok (t : Tr X L k G c) (hk : c.sc.kind = .function) {f : Expr → Option Ex} (hf : ∀ e x, f e = some x → JA X L (fun env st => evA G env x st) e) {names : List Str} {tt v : Expr} {s : Sx} {pos : Pos} (hw : swappedStores [tt] v X.env = pure (some names)) (hs : swapsWithSole [tt] v pos.line X.env = pure false)
    (h : trPar c f names tt v = some s) : JS X L (fun env st => evS G s env st) (.Assign [tt] v pos) := by
  unfold trPar at h
  split at h
  · split at h
    · rename_i q
      obtain ⟨rfl, q1, q2, q3, q4⟩ := q
      obtain ⟨i, hi, h⟩ := Option.bind_eq_some_iff.mp h
      obtain ⟨j, hj, h⟩ := Option.bind_eq_some_iff.mp h
      obtain ⟨xs, hx, h⟩ := Option.bind_eq_some_iff.mp h
      split at h
      · rename_i ne
        cases h
        exact js_par t.gd (by rw [t.N]; exact ixOf_ok hi) (by rw [t.N]; exact ixOf_ok hj) ne (t.hL hi q3) (t.hL hj q4) (by rw [t.sc]; exact lclB_ok q1) (by rw [t.sc]; exact lclB_ok q2) (jl_map hf hx) hw hs
      · cases h
    · cases h
  · split at h
    · rename_i q
      obtain ⟨rfl, q1, q2, q3, q4, q5, q6⟩ := q
      obtain ⟨i, hi, h⟩ := Option.bind_eq_some_iff.mp h
      obtain ⟨j, hj, h⟩ := Option.bind_eq_some_iff.mp h
      obtain ⟨l, hl, h⟩ := Option.bind_eq_some_iff.mp h
      obtain ⟨xs, hx, h⟩ := Option.bind_eq_some_iff.mp h
      split at h
      · rename_i ne
        cases h
        exact js_par3 t.gd (by rw [t.N]; exact ixOf_ok hi) (by rw [t.N]; exact ixOf_ok hj) (by rw [t.N]; exact ixOf_ok hl) ne.1 ne.2.1 ne.2.2 (t.hL hi q4) (t.hL hj q5) (t.hL hl q6) (by rw [t.sc]; exact lclB_ok q1) (by rw [t.sc]; exact lclB_ok q2) (by rw [t.sc]; exact lclB_ok q3) (jl_map hf hx) hw hs
      · cases h
    · cases h
  · cases h
theorem trAsg_ok (t : Tr X L k G c) (hk : c.sc.kind = .function) {n : Nat} {tt v : Expr} {s : Sx} {pos : Pos} (h : trAsg c n tt v = some s) : JS X L (fun env st => evS G s env st) (.Assign [tt] v pos) := by
  have hk' : X.env.scope.kind = .function := by rw [t.sc]; exact hk
  have hA : ∀ e x, trE n c e = some x → JA X L (fun env st => evA G env x st) e := fun e x h => (trE_ok n L k X c t e x h).1
  unfold trAsg at h
  split at h
  · rename_i y p
    split at h
    · rename_i hsw
      unfold trLcA at h
      split at h
      · split at h
        · rename_i hl
          obtain ⟨i, hi, h⟩ := Option.bind_eq_some_iff.mp h
          simp only [Option.map_eq_some_iff] at h
          obtain ⟨r, hr, rfl⟩ := h
          have l := trLc_ok t (trE_ok n) hr
          exact js_setLc t.gd (by rw [t.N]; exact ixOf_ok hi) (by rw [t.sc]; exact lclB_ok hl.1) (by rw [swB_ok hk', t.sc, hsw]) l.it l.ok l.tg l.ifs l.el l.sl l.ol (t.hL hi hl.2) l.fs
        · cases h
      · cases h
    · rename_i hsw
      obtain ⟨ty, h1, h⟩ := Option.bind_eq_some_iff.mp h
      obtain ⟨x, h2, h⟩ := Option.bind_eq_some_iff.mp h
      split at h
      · cases h
        have g := (trTg_ok t n).1 _ _ h1
        exact js_asg (hA _ _ h2) g (by
          rw [sole_one, swB_ok hk', t.sc]
          simp only [Bool.not_eq_true] at hsw
          rw [hsw]) (swS_ok hk' (by simp [swS])) rfl
      · cases h
  · rename_i ts kt p
    have hs : swapsWithSole [.Tuple ts kt p] v pos.line X.env = pure false := by
      rw [sole_one, swB_ok hk']
      unfold swB
      cases cmpScope v <;> rfl
    split at h
    · rename_i hw
      obtain ⟨xs, h1, h⟩ := Option.bind_eq_some_iff.mp h
      simp only [Option.map_eq_some_iff] at h
      obtain ⟨x, h2, rfl⟩ := h
      obtain ⟨g1, g2, g3⟩ := (trTg_ok t n).2 _ _ h1
      exact js_un (hA _ _ h2) (jg_un t.gd.calm g1 g2 g3) hs (swS_ok hk' (by rw [t.sc]; exact hw)) rfl
    · rename_i names hw
      exact trPar_ok t hk hA (swS_ok hk' (by rw [t.sc]; exact hw)) hs h
    · cases h
  · rename_i o i p
    split at h
    · cases h
    · rename_i hsl
      obtain ⟨x, h1, h⟩ := Option.bind_eq_some_iff.mp h
      obtain ⟨y, h2, h⟩ := Option.bind_eq_some_iff.mp h
      simp only [Option.map_eq_some_iff] at h
      obtain ⟨z, h3, rfl⟩ := h
      refine js_st t.gd (hA _ _ h1) (hA _ _ h2) (hA _ _ h3) ?_ ?_ (swS_ok hk' (by simp [swS])) rfl
      · intro v
        cases i <;> first | rfl | exact absurd rfl hsl
      · rw [sole_one, swB_ok hk']
        unfold swB
        cases cmpScope v <;> rfl
  · cases h
structure Tr0 (X : Cx) (L : LT) (c : TC) : Prop where
  N : X.N = c.N
  sc : X.env.scope = c.sc
  fb : ∀ x, c.fb x = true → X.fn x = true
  nd : X.N.Nodup
  nl : ∀ i f, L i = some f → ∃ y, c.N[i]? = some y ∧ askB y = true
theorem Tr0.hL (t : Tr0 X L c) {x : Str} {i : Nat} (h : ixOf x c.N = some i) (hx : askB x = false) : L i = none := by
  cases q : L i with
  | none => rfl
  | some f =>
    obtain ⟨y, e1, e2⟩ := t.nl i f q
    rw [ixOf_ok h] at e1
    rw [← Option.some.inj e1, hx] at e2
    cases e2
theorem trHE_ok (t : Tr0 X L c) {e : Expr} {x : Ex} (h : trHE c e = some x) : JA X L (fun env st => evA G env x st) e := by
  unfold trHE at h
  split at h
  · split at h
    · cases h
    · rename_i hd
      simp only [not_or, Bool.not_eq_true, Bool.not_eq_false] at hd
      obtain ⟨h1, h2⟩ := hd
      unfold dbgs at h1
      simp only [Bool.or_eq_false_iff] at h1
      simp only [Option.map_eq_some_iff] at h
      obtain ⟨i, h, rfl⟩ := h
      exact ja_v (by rw [t.N]; exact ixOf_ok h) (by rw [t.sc]; exact visB_ok h2) h1.1 h1.2
  · split at h <;> cases h
    · exact ja_int
    · exact ja_bl
    · exact ja_non
    · exact ja_str
  · cases h
theorem trHE_cmp {e : Expr} {x : Ex} (h : trHE c e = some x) : cmpScope e = none := by
  unfold trHE at h
  split at h
  · rfl
  · rfl
  · cases h
theorem trH_ok (t : Tr0 X L c) (hk : c.sc.kind = .function) (s : Stmt) : JS X L (fun env st => evS G (trH c s) env st) s := by
  have hk' : X.env.scope.kind = .function := by rw [t.sc]; exact hk
  unfold trH
  split
  · exact js_pass
  · split
    · rename_i q; exact js_ret (trHE_ok t q)
    · exact js_nev
  · split
    · rename_i q
      split
      · rename_i h1 h2
        refine js_asg (trHE_ok t h1) (jg_nm t.nd (by rw [t.N]; exact ixOf_ok h2) (by rw [t.sc]; exact locB_ok q.1) ?_ (t.hL h2 q.2.2)) ?_ (swS_ok hk' (by simp [swS])) rfl
        · rw [t.sc]
          rcases Bool.or_eq_true_iff.mp q.2.1 with q | q
          · exact .inl (t.fb _ q)
          · exact .inr (lclB_ok q)
        · rw [sole_one, swB_ok hk']
          unfold swB
          rw [trHE_cmp h1]
      · exact js_nev
    · exact js_nev
  · exact js_nev
structure TrX (X : Cx) : Prop where
  ex : X.ex = []
  stk : X.stack = X.env :: X.outer
  frm : X.env.frame = some X.env.locals
theorem trS_ok (hk : c.sc.kind = .function) : ∀ n X, Tr X L k G c → TrX X → ∀ s, JS X L (fun env st => evS G (trS n c s) env st) s
  | 0, X, t, tx, s => by simp only [trS]; exact js_nev
  | n + 1, X, t, tx, s => by
    have ih := trS_ok hk n X t tx
    have hA : ∀ e x, trE n c e = some x → JA X L (fun env st => evA G env x st) e := fun e x h => (trE_ok n L k X c t e x h).1
    have hT : ∀ e x, trE n c e = some x → JT X L (fun env st => tst G env x st) e := fun e x h => (trE_ok n L k X c t e x h).2
    unfold trS
    split
    · exact js_pass
    · exact js_brk
    · exact js_cont
    · exact js_ret0
    · split
      · rename_i q; exact js_ret (hA _ _ q)
      · exact js_nev
    · rename_i e pos
      split
      · rename_i q
        cases e <;> first | cases q | skip
        rename_i v _ _
        cases v <;> first | exact js_doc | cases q
      · split
        · rename_i q
          split
          · rename_i q2; exact js_ex (hA _ _ q2) (swN_ok q)
          · exact js_nev
        · exact js_nev
    · split
      · rename_i q; exact js_if (hT _ _ q) (mapSs_ok ih _) (mapSs_ok ih _)
      · exact js_nev
    · split
      · exact js_nev
      · rename_i hs
        split
        · rename_i q1 q2
          exact js_for t.gd (trIt_ok t hA q1) ((trTg_ok t n).1 _ _ q2) (mapSs_ok ih _) (fold_ok (by simpa using hs))
        · exact js_nev
    · split
      · rename_i q; exact js_whl t.gd (hT _ _ q) (mapSs_ok ih _)
      · exact js_nev
    · rename_i e pos
      cases q : trRaise c e with
      | none => exact js_nev
      | some s =>
        unfold trRaise at q
        split at q
        · split at q
          · rename_i hg
            cases q
            exact js_raise t.gx t.gd (glB_ok t hg).1 (glB_ok t hg).2
          · cases q
        · split at q
          · rename_i hg
            simp only [Option.map_eq_some_iff] at q
            obtain ⟨z, hz, rfl⟩ := q
            refine js_raiseR t.gx t.gd (glB_ok t hg).1 (glB_ok t hg).2 (jl_map (f := trE 4 c) (fun e x h => (trE_ok 4 _ _ _ _ t e x h).1) ?_) rfl
            show (if nst _ = true then (trE 4 c _).bind fun x => (mapEs (trE 4 c) []).map fun y => Es.cons x y else none) = _
            rw [hz]; rfl
          · cases q
        · cases q
    · split
      · rename_i q
        split
        · rename_i i hi
          refine js_try t.gx t.gd tx.ex tx.stk tx.frm (by rw [t.N]; exact ixOf_ok hi) ?_ (t.hL hi q.2.2.2) (t.cl _ (by simpa using q.2.1)) (glB_ok t q.1).1 (glB_ok t q.1).2 ?_ ?_
          · show X.env.scope.names.lookup _ = _
            rw [t.sc]; exact lclB_ok q.2.2.1
          · intro pn xe hp
            exact mapSs_ok (trS_ok hk n (X.tr pn xe) ⟨t.N, t.sc, t.fb, ⟨t.gd.calm, t.gd.nd, t.gd.room, hp⟩, t.gx, t.cl, t.nl, t.la, t.lm⟩ ⟨tx.ex, tx.stk, tx.frm⟩) _
          · intro a pn
            exact mapSs_ok (X := X.suite a pn) (trH_ok (X := X.suite a pn) ⟨t.N, t.sc, t.fb, t.gd.nd, t.nl⟩ hk) (_ :: _)
        · exact js_nev
      · exact js_nev
    · rename_i tt v pos
      cases q : trAsg c n tt v with
      | none => exact js_nev
      | some s => exact trAsg_ok t hk q
    · exact js_nev
end
end Ev
namespace Ev
open PySem PySem.Spec PyProof.Rows L2 LamX
variable {L : LT}
section
variable {P : Program} {w : World} {K : PySem.W.Frag} {mg : Str → Option Value} {base : Heap} {k : Nat} {G : Gam}
noncomputable abbrev trDF (a : Option Str) (b : Bool) (n : Nat) (N : List Str) (cl : List Str) (st : Stmt) : Ss := mapSs (trS n ⟨N, defScope st, fun _ => true, cl, a, b⟩) (defBody st)
noncomputable abbrev trD (n : Nat) (N : List Str) (cl : List Str) (st : Stmt) : Ss := trDF none false n N cl st
/-- a def entered, at one place -/
theorem enter_at {x qual : Str} {st : Stmt} {f : Addr} {fd : FuncData} {N ps : List Str} {j : Nat} {A : Around} {outer : List PySem.Env} {s : Shared} {H : Hp} {args : Args} {us : List Value} {vs : List V} {Q : VK} {E : XK}
    (F : L2.Fun K x qual st f fd) (S : FnScope N ps (defScope st)) (hr : Rm (j + 1) A) (e0 : Env0 P w K mg base A outer s H) (hb : BindsTo s fd args (ps.zip us)) (hl : vs.length = ps.length) (r : Vals vs us)
    (go : ∀ cdv, fd.code = cdv → Rm j (A.deeper (envOfC qual (defScope st) s.heap.objs.size f cdv)) → ∃ t, PSs (cxOf (L2.CX P w) P w K mg base N qual (defScope st) f cdv A outer s H E) (defBody st) t ∧ t { nx := fun _ H' => Q .non H', rt := Q } (L2.start N vs) H) :
    codeAny (model P w) A (.call (.ref f) args) (CR (L2.CX P w) outer P w H s Q E) s := by
  obtain ⟨oc, od, kV, doc, pm, an, cdv, ct, osl, e, lk, hcd⟩ := F.ex
  subst e
  have ki := e0.mod.kin.keeps fun b o q => (e0.bs b o q).1
  refine codeAny_call_function hr.r.depth (ki _ _ lk) rfl S.co S.gen rfl (PySem.W.codeRec_of ki hcd) (hb _ _ _ _ ?_)
  refine wpAny_newFunctionEnv_cells S.kind (fun z hz => (S.par z.1 (List.of_mem_zip (show (z.1, z.2) ∈ ps.zip us from hz)).1).imp id fun q => ⟨q, PySem.W.cellsFrom_some _ _ _ (.inl q)⟩) fun env he s1 x1 => ?_
  cases he
  refine And.intro (Heap.NoLimit.keeps (e0.mod.nolimit.keeps fun b o q => (e0.bs b o q).1) x1.toInCall.keep) (codeAny_func ?_)
  obtain ⟨t, h1, h2⟩ := go cdv rfl (hr.deeper _)
  refine wpAny_mono (h1.run [] s1 (L2.start N vs) H _ (inv_start S hr.r.hd e0 hl r x1) h2) (fun fl s2 done => ?_) fun _ _ z => z
  cases fl with
  | ret u => obtain ⟨v, σ2, H2, J, rv, q⟩ := done; exact ⟨v, H2, J.os, J.bare, J.base, J.hok, rv, q⟩
  | next => obtain ⟨σ2, H2, J, q⟩ := done; exact ⟨V.non, H2, J.os, J.bare, J.base, J.hok, rfl, q⟩
  | brk => obtain ⟨_, _, _, q⟩ := done; exact q.elim
  | cont => obtain ⟨_, _, _, q⟩ := done; exact q.elim
theorem ks_fin {L : LT} {m n : Nat} {b : Ss} {H : Hp} {ρ : List Addr} {Q : VK} {E : XK} {W : WX} {r : Rf} (hW : ∀ cls d σ H', E cls d H' → W cls d σ H')
    (h : KR K mg (rD K mg) (fun cls d _ H' => E cls d H') [] Q H ρ (match r with
      | .ok .nx _ st => .ok .non st
      | .ok (.rt d) _ st => .ok d st
      | .exc c fs _ st => .exc c fs st
      | _ => .bad : Rs D)) : KS K mg L W { nx := fun _ H' => Q .non H', rt := Q } H ρ r := by
  cases r with
  | bad => exact h.elim
  | exc c fs e st1 => exact fun cls d σ' H' ρ' e1 s1 _ r1 => hW _ _ _ _ (h cls d H' ρ' e1 s1 r1)
  | ok fl e st1 =>
    cases fl with
    | nx => exact fun σ' H' ρ' e1 s1 _ => h _ H' ρ' e1 s1 .non
    | rt d => exact fun v H' ρ' e1 s1 r1 => h v H' ρ' e1 s1 r1
    | bk => exact h.elim
    | ct => exact h.elim
theorem start_env {H : Hp} {ρ : List Addr} {N : List Str} {xs : List D} {vs : List V} (h : RDs K mg H ρ xs vs) : REnv K mg noL H ρ (xs.map some ++ List.replicate (N.length - xs.length) none) (L2.start N vs) := by
  have hl := h.length
  refine ⟨⟨by simp [L2.start, hl], fun _ _ z => (by cases z)⟩, fun i x q => ?_⟩
  by_cases hi : i < xs.length
  · rw [List.getElem?_append_left (by simpa using hi), List.getElem?_map] at q
    simp only [Option.map_eq_some_iff] at q
    obtain ⟨y, hy, e⟩ := q
    cases e
    obtain ⟨v, h1, h2⟩ := h.get hy
    refine ⟨v, ?_, h2⟩
    unfold L2.start
    rw [List.getElem?_append_left (by simpa [← hl] using hi), List.getElem?_map, h1]
    rfl
  · rw [List.getElem?_append_right (by simpa using hi)] at q
    rw [List.getElem?_replicate] at q
    split at q <;> cases q
theorem fn_ev {x qual : Str} {st : Stmt} {f : Addr} {fd : FuncData} {N ps : List Str} (F : L2.Fun K x qual st f fd) (S : FnScope N ps (defScope st)) (gx : GOk P w K mg base k G) (n : Nat) :
    FnG P w K mg base (k + 1) f fd ps (spD K mg ps.length (evF G ps.length N.length (trD n N G.cl st))) := by
  refine ⟨fun vs H Q E h => h.1, fun A outer s H us vs Q E hr e0 hb r hsp => ?_⟩
  obtain ⟨hl, ρ, xs, st0, hx, hs, h⟩ := hsp
  refine enter_at F S hr e0 hb hl r fun cdv hcd hroom => ?_
  have t : Tr (cxOf (L2.CX P w) P w K mg base N qual (defScope st) f cdv A outer s H E) noL k G ⟨N, defScope st, fun _ => true, G.cl, none, false⟩ := ⟨rfl, rfl, fun _ _ => rfl, ⟨rfl, S.nd, hroom, passes_of rfl⟩, gx, gx.cl, fun _ _ z => (by cases z), fun _ z => (by cases z), fun z => (by cases z)⟩
  refine ⟨_, mapSs_ok (trS_ok S.kind n _ t ⟨rfl, rfl, rfl⟩) (defBody st) _ (takes_of rfl rfl rfl rfl), ?_⟩
  refine ⟨ρ, _, st0, start_env hx, hs, ?_⟩
  unfold evF at h
  split at h
  · exact ks_fin (m := 0) (n := 0) (b := .nil) (fun _ _ _ _ z => z) h
  · exact h.elim
noncomputable def Gam.add (G : Gam) (f : Str) (F : List D → M D) : Gam := { G with fn := fun x => if x = f then some F else G.fn x }
theorem Gam.add_same {G : Gam} {f : Str} {F : List D → M D} : (G.add f F).fn f = some F := by simp [Gam.add]
theorem Gam.add_ne {G : Gam} {f x : Str} {F : List D → M D} (h : x ≠ f) : (G.add f F).fn x = G.fn x := by simp [Gam.add, h]
theorem evF_arity {m n : Nat} {b : Ss} {xs : List D} {st : Stt} (h : ∃ z, evF G m n b xs st = z ∧ z ≠ .bad) : xs.length = m := by
  obtain ⟨z, h, hz⟩ := h
  unfold evF at h
  split at h
  · assumption
  · exact absurd h.symm hz
theorem GOk.mono {j : Nat} (gx : GOk P w K mg base j G) (h : j ≤ k) : GOk P w K mg base k G :=
  ⟨fun f F q => let ⟨a, fd, ps, h1, h2, h3, h4, h5⟩ := gx.hf f F q; ⟨a, fd, ps, h1, h2, h3, fun i hi => h4 i (Nat.le_trans h hi), h5⟩, fun f F n q => let ⟨a, fd, ps, h1, h2, h3, h4, h5⟩ := gx.fn f F n q; ⟨a, fd, ps, h1, h2, h3, h4.mono h, h5⟩, gx.gc, gx.bt, gx.xc, fun c q => ⟨Nat.le_trans (gx.xr c q).1 h, (gx.xr c q).2⟩, gx.ist, gx.cl, gx.sub, gx.sm⟩
theorem GOk.add {x qual : Str} {st : Stmt} {f : Addr} {fd : FuncData} {N ps : List Str} (gx : GOk P w K mg base k G) (F : L2.Fun K x qual st f fd) (S : FnScope N ps (defScope st)) (n : Nat) (y : Str) (hm : mg y = some (.ref f)) (hb : Binds K fd ps []) {b : Ss} (e : trD n N G.cl st = b) :
    GOk P w K mg base (k + 1) (G.add y (evF G ps.length N.length b)) := by
  subst e
  refine ⟨(gx.mono (Nat.le_succ k)).hf, fun g F' ng q => ?_, gx.gc, gx.bt, gx.xc, (gx.mono (Nat.le_succ k)).xr, gx.ist, gx.cl, gx.sub, gx.sm⟩
  by_cases hg : g = y
  · subst hg
    rw [Gam.add_same] at q
    cases q
    exact ⟨f, fd, ps, hm, F.kp, hb, fn_ev F S gx n, fun xs st h => evF_arity h⟩
  · rw [Gam.add_ne hg] at q
    exact (gx.mono (Nat.le_succ k)).fn g F' ng q
theorem GOk.asked {z : Str} {A : List D → M D} (hz : askB z = true) (gx : GOk P w K mg base k G) : GOk P w K mg base k (G.add z A) :=
  ⟨gx.hf, fun g F' ng q => by rw [Gam.add_ne (fun e => by rw [e, hz] at ng; cases ng)] at q; exact gx.fn g F' ng q, gx.gc, gx.bt, gx.xc, gx.xr, gx.ist, gx.cl, gx.sub, gx.sm⟩
/-- what is known of the table of a def that makes a lambda -/
noncomputable def TabD (K : PySem.W.Frag) (mg : Str → Option Value) (base : Heap) (qual : Str) (fd : FuncData) : Prop :=
  ∃ c P, fd.code = .ref c ∧ TabB base mg c P ∧ (P, qual ++ ".<locals>." ++ "<lambda>") ∈ lamTabs K mg ∧ ∀ z ∈ lamTabs K mg, z.1 = P → z.2 = qual ++ ".<locals>." ++ "<lambda>"
theorem fn_evL {x qual : Str} {st : Stmt} {f : Addr} {fd : FuncData} {N ps : List Str} (F : L2.Fun K x qual st f fd) (S : FnScope N ps (defScope st)) (gx : GOk P w K mg base k G) (td : TabD K mg base qual fd) (n : Nat) :
    FnG P w K mg base (k + 3) f fd ps (spD K mg ps.length (evF G ps.length N.length (trDF none true n N G.cl st))) := by
  refine ⟨fun vs H Q E h => h.1, fun A outer s H us vs Q E hr e0 hb r hsp => ?_⟩
  obtain ⟨hl, ρ, xs, st0, hx, hs, h⟩ := hsp
  refine enter_at F S hr e0 hb hl r fun cdv hcd hroom => ?_
  obtain ⟨c, Pt, h1, h2, h3, h4⟩ := td
  have hcv : cdv = .ref c := hcd.symm.trans h1
  have t : Tr (cxOf (L2.CX P w) P w K mg base N qual (defScope st) f cdv A outer s H E) noL (k + 2) G ⟨N, defScope st, fun _ => true, G.cl, none, true⟩ :=
    ⟨rfl, rfl, fun _ _ => rfl, ⟨rfl, S.nd, hroom, passes_of rfl⟩, gx.mono (by omega), gx.cl, fun _ _ z => (by cases z), fun _ z => (by cases z), fun _ => ⟨k, c, Pt, Nat.le_refl _, gx, hcv, h2, h3, h4, rfl⟩⟩
  refine ⟨_, mapSs_ok (trS_ok S.kind n _ t ⟨rfl, rfl, rfl⟩) (defBody st) _ (takes_of rfl rfl rfl rfl), ?_⟩
  refine ⟨ρ, _, st0, start_env hx, hs, ?_⟩
  unfold evF at h
  split at h
  · exact ks_fin (m := 0) (n := 0) (b := .nil) (fun _ _ _ _ z => z) h
  · exact h.elim
theorem GOk.addL {x qual : Str} {st : Stmt} {f : Addr} {fd : FuncData} {N ps : List Str} (gx : GOk P w K mg base k G) (F : L2.Fun K x qual st f fd) (S : FnScope N ps (defScope st)) (td : TabD K mg base qual fd) (n : Nat) (y : Str) (hm : mg y = some (.ref f)) (hb : Binds K fd ps []) {b : Ss} (e : trDF none true n N G.cl st = b) :
    GOk P w K mg base (k + 3) (G.add y (evF G ps.length N.length b)) := by
  subst e
  refine ⟨(gx.mono (by omega)).hf, fun g F' ng q => ?_, gx.gc, gx.bt, gx.xc, (gx.mono (by omega) : GOk P w K mg base (k + 3) G).xr, gx.ist, gx.cl, gx.sub, gx.sm⟩
  by_cases hg : g = y
  · subst hg
    rw [Gam.add_same] at q
    cases q
    exact ⟨f, fd, ps, hm, F.kp, hb, fn_evL F S gx td n, fun xs st h => evF_arity h⟩
  · rw [Gam.add_ne hg] at q
    exact (gx.mono (by omega) : GOk P w K mg base (k + 3) G).fn g F' ng q
theorem GOk.base0 (bt : ∀ x ∈ allB, mg x = none) (sm : SmB base) : GOk P w K mg base k {} where
  sm := sm
  hf := fun f F q => by cases q
  fn := fun f F _ q => by cases q
  gc := fun x d q => by cases q
  bt := bt
  xc := fun c q => by cases q
  xr := fun c q => by cases q
  sub := fun c' c b q => by cases q
  ist := fun c' c b q => by cases q
  cl := fun c h => by cases h
end
noncomputable def spLaw (K : PySem.W.Frag) (mg : Str → Option Value) : Sp := fun vs H Q _ => ∃ (a : Addr) (ns : List Int), vs = [.ref a] ∧ SqL K H a (ns.map V.int) ∧ ns.length ≤ 63 ∧ TabsK K mg H ∧ ∀ H', Q (.bl true) H'
section
variable {K : PySem.W.Frag} {mg : Str → Option Value} {H : Hp} {ρ : List Addr}
theorem rds_ints : ∀ {ns : List Int}, RDs K mg H ρ (ns.map D.int) (ns.map V.int)
  | [] => .nil
  | _ :: _ => .cons (.int _) rds_ints
/-- a law whose run, from whatever store, ends with True -/
theorem law_sp {F : List D → M D} (h : ∀ (d : D) (st : Stt) (ns : List Int), lstOf st (.d d) = some (ns.map D.int) → ns.length ≤ 63 → ∃ st', F [d] st = .ok (.bl true) st') :
    ∀ vs H Q E, spLaw K mg vs H Q E → spD K mg 1 F vs H Q E := by
  rintro vs H Q E ⟨a, ns, rfl, hS, hl, tb, q⟩
  refine ⟨rfl, ?_⟩
  have fin : ∀ {ρ : List Addr} {d : D} {st : Stt}, lstOf st (.d d) = some (ns.map D.int) → KR K mg (rD K mg) (fun cls d _ H' => E cls d H') [] Q H ρ (F [d] st) := fun {ρ d st} e => by
    obtain ⟨st', h⟩ := h d st ns e hl
    rw [h]
    intro b H' ρ' _ _ r
    cases r
    exact q H'
  rcases hS with (hS | ⟨o, hS⟩) | hS
  · refine ⟨[a], [.loc 0], [.lst (ns.map D.int)], .cons (.loc rfl) .nil, ⟨tb, rfl, by simp, fun l b o h1 h2 => ?_⟩, fin rfl⟩
    cases l with
    | zero =>
      cases h1; cases h2
      exact .lst hS rds_ints
    | succ l => simp at h1
  · exact ⟨[], [.rol (ns.map D.int)], [], .cons (.rol (.inl ⟨o, hS⟩) rds_ints) .nil, ⟨tb, rfl, by simp, fun l b o h1 h2 => by simp at h1⟩, fin rfl⟩
  · exact ⟨[], [.rol (ns.map D.int)], [], .cons (.rol (.inr hS) rds_ints) .nil, ⟨tb, rfl, by simp, fun l b o h1 h2 => by simp at h1⟩, fin rfl⟩
end
end Ev
namespace Ev
open PySem PySem.Spec PyProof.Rows L2
variable {L : LT}
theorem cx_none {P : Program} {w : World} {o : List PySem.Env} {H : Hp} {s s' : Shared} {e : Value} (h : L2.CX P w o H s (fun _ _ _ => False) e s') : False := by
  obtain ⟨_, _, _, _, _, _, _, _, _, _, _, _, h⟩ := h
  exact h
noncomputable def scopeB (N ps : List Str) (sc : Scope) : Bool :=
  (match sc.kind with | .function => true | _ => false) && !sc.isCoroutine && !sc.isGenerator && decide N.Nodup && decide (N.take ps.length = ps) && (ps.all fun x => locB sc x) && sc.names.all fun y => match y.2 with
    | .free => false
    | _ => true
theorem scope_by {N ps : List Str} {sc : Scope} (h : scopeB N ps sc = true) : FnScope N ps sc := by
  unfold scopeB at h
  simp only [Bool.and_eq_true, decide_eq_true_eq, List.all_eq_true, Bool.not_eq_true'] at h
  obtain ⟨⟨⟨⟨⟨⟨h1, h2⟩, h3⟩, h4⟩, h5⟩, h6⟩, h7⟩ := h
  refine ⟨?_, h2, h3, h4, h5, fun x hx => locB_ok (h6 x hx), fun y hy e => ?_⟩
  · split at h1
    · rename_i q; exact q
    · cases h1
  · have := h7 y hy
    rw [e] at this
    cases this
end Ev
namespace Ev
open PySem PySem.Spec PyProof.Rows L2
variable {L : LT}
noncomputable def AllL {α : Type} (P : α → Prop) : List α → Prop
  | [] => True
  | x :: r => P x ∧ AllL P r
theorem AllL.mem {α : Type} {P : α → Prop} : ∀ {l : List α}, AllL P l → ∀ x ∈ l, P x
  | y :: r, h, x, hx => by
    rcases List.mem_cons.mp hx with e | hx
    · rw [e]; exact h.1
    · exact AllL.mem h.2 x hx
noncomputable def tab2 (t : List (Str × Str × Bool)) (a b : Str) : Option Bool := (t.find? fun p => decide (p.1 = a) && decide (p.2.1 = b)).map (·.2.2)
end Ev
namespace Ev
open PySem PySem.Spec PyProof.Rows L2
end Ev
namespace Ev
open PySem PySem.Spec PyProof.Rows L2 LamX
/-- what is tracked there: the tables of the lambdas' defs, and the script, if it is none of the module's own -/
noncomputable def hd0 (K : PySem.W.Frag) (T : List Addr) (a : Addr) (o : Obj) (xs : List V) : Hp := fun b => if b ∈ T then some (.tbl #[]) else if b = a ∧ K.lookup a = none then some (.frz o (.lst xs)) else none
section
variable {K : PySem.W.Frag} {T : List Addr} {a b : Addr} {o : Obj} {xs : List V} {u : HO}
theorem hd0_T (h : b ∈ T) : hd0 K T a o xs b = some (.tbl #[]) := by unfold hd0; rw [if_pos h]
theorem hd0_no (h : b ∉ T) (n : ¬ (b = a ∧ K.lookup a = none)) : hd0 K T a o xs b = none := by unfold hd0; rw [if_neg h, if_neg n]
theorem hd0_of (h : hd0 K T a o xs b = some u) : (b ∈ T ∧ u = .tbl #[]) ∨ (b ∉ T ∧ b = a ∧ K.lookup a = none ∧ u = .frz o (.lst xs)) := by
  unfold hd0 at h
  by_cases h1 : b ∈ T
  · rw [if_pos h1] at h; cases h; exact .inl ⟨h1, rfl⟩
  · rw [if_neg h1] at h
    by_cases h2 : b = a ∧ K.lookup a = none
    · rw [if_pos h2] at h; cases h; exact .inr ⟨h1, h2.1, h2.2, rfl⟩
    · rw [if_neg h2] at h; cases h
end
theorem head_G {P : Program} {w : World} {K : PySem.W.Frag} {mg mb : Str → Option Value} {k : Nat} {fa a : Addr} {cs : List (Addr × Addr)} {fd : FuncData} {x : Str} {sp : Sp} {st : Shared} {vs : List Value} {ns : List Int}
    (KI : K.In st.heap) (nsg : st.heap.Ns mainGlobals mg) (nsb : st.heap.Ns builtinsNs mb) (bb : ∀ x : Str, x ≠ "__name__" → mb x = bootBuiltins x) (nl : st.heap.NoLimit) (gn : st.gens = #[])
    (tb : ∀ p ∈ cs, st.heap.get? p.2 = some { cls := .none, data := .fields #[] }) (tn : ∀ p ∈ cs, K.lookup p.2 = none) (cd : ∀ p ∈ cs, PySem.W.CodeHd st.heap p.1 p.2)
    (bm : ∃ (m : Addr) (ob : Obj), mg "__builtins__" = some (.ref m) ∧ m ≠ builtinsNs ∧ st.heap.get? m = some ob ∧ ob.cls = .type "module" ∧ ob.dict = some builtinsNs ∧ ob.data = .plain)
    (sc : st.heap.get? a = some { cls := .type "list", data := .seq vs.toArray }) (si : IntsAre vs ns) (sl : ns.length ≤ sizeLine) (rm : Rm k callerA)
    (md : ∃ m, st.heap.Ns sysModules m) (go : ∀ base : Heap, K.In base → base.Ns mainGlobals mg → (∀ p ∈ cs, TabB base mg p.1 p.2) → SmB base → FnG P w K mg base k fa fd [x] sp) (bd : ∀ (s : Shared) (u : Value), BindsTo s fd ⟨[u], []⟩ [(x, u)])
    (at' : ∀ H : Hp, (∀ p ∈ cs, H p.2 = some (.tbl #[])) → SqL K H a (ns.map V.int) → sp [.ref a] H (fun v _ => v = .bl true) fun _ _ _ => False) :
    codeAny (model P w) callerA (.call (.ref fa) ⟨[.ref a], []⟩) (fun r s' => r = .ok (.ret (.bool true)) ∧ OldK st.heap s'.heap ∧ s'.os = st.os ∧ AllBare s'.gens) st := by
  generalize eT : cs.map (·.2) = T
  generalize eo : ({ cls := .type "list", data := .seq vs.toArray } : Obj) = so at sc
  have inT : ∀ p ∈ cs, p.2 ∈ T := fun p hp => by rw [← eT]; exact List.mem_map.mpr ⟨p, hp, rfl⟩
  have ofT : ∀ b ∈ T, ∃ p ∈ cs, b = p.2 := fun b hb => by
    rw [← eT] at hb
    obtain ⟨p, hp, e⟩ := List.mem_map.mp hb
    exact ⟨p, hp, e.symm⟩
  have tbT : ∀ b ∈ T, st.heap.get? b = some { cls := .none, data := .fields #[] } := fun b hb => by
    obtain ⟨p, hp, rfl⟩ := ofT b hb; exact tb p hp
  have naT : a ∉ T := fun z => by
    have e := (tbT a z).symm.trans sc
    rw [← eo] at e; cases e
  have vi := vals_ints si
  -- what is tracked is neither a namespace nor of the module
  have free : ∀ {b : Addr} {ob : Obj}, st.heap.get? b = some ob → ob.data ≠ .fields #[] → (∀ zs n, ob.data ≠ .seq zs n) → hd0 K T a so (ns.map V.int) b = none := fun {b ob} e n1 n2 => by
    refine hd0_no (fun z => ?_) (fun z => ?_)
    · rw [tbT b z] at e; cases e; exact n1 rfl
    · rw [z.1, sc] at e; cases e; rw [← eo] at n2; exact n2 _ _ rfl
  have hid : ∀ {b : Addr} {ob : Obj}, st.heap.get? b = some ob → ob.data ≠ .fields #[] → (∀ zs n, ob.data ≠ .seq zs n) → (hidT st.heap (hd0 K T a so (ns.map V.int))).get? b = some ob := fun e n1 n2 => hidT_get e (free e n1 n2)
  have nss : ∀ {b : Addr} {m : Str → Option Value}, st.heap.Ns b m → (hidT st.heap (hd0 K T a so (ns.map V.int))).Ns b m := fun ⟨ob, es, ep, e, d, r⟩ =>
    ⟨ob, es, ep, hid e (by rw [d]; exact fun z => by cases z) (fun zs n => by rw [d]; exact fun z => by cases z), d, r⟩
  have kin : K.In (hidT st.heap (hd0 K T a so (ns.map V.int))) := fun b ob e => hidT_get (KI b ob e) (hd0_no (fun z => by
    obtain ⟨p, hp, rfl⟩ := ofT b z
    rw [tn p hp] at e; cases e) (fun z => by
    rw [z.1, z.2] at e; cases e))
  have hM : L2.Mod K mg (hidT st.heap (hd0 K T a so (ns.map V.int))) := by
    obtain ⟨mc, c1, c2⟩ := nl
    exact ⟨kin, nss nsg, ⟨mb, nss nsb, bb⟩, ⟨mc, nss c1, c2⟩⟩
  have tabs : ∀ p ∈ cs, TabB (hidT st.heap (hd0 K T a so (ns.map V.int))) mg p.1 p.2 := fun p hp => by
    obtain ⟨og, esg, epg, eg, dg, _⟩ := id nsg
    refine ⟨?_, ?_, fun z => ?_⟩
    · obtain ⟨ob, us, file, tf, fl, tg, fi, tx, tt, c1, c2, c3, c4, rest⟩ := cd p hp
      refine ⟨ob, us, file, tf, fl, tg, fi, tx, tt, hid c1 (fun z => ?_) (fun zs n z => ?_), c2, c3, c4, rest⟩
      · rw [c3] at z; cases z; cases c4
      · rw [c3] at z; cases z
    · obtain ⟨m, ob, m1, m2, m3, m4, m5, m6⟩ := bm
      have pl : ∀ {d : Data}, d = .plain → (d ≠ .fields #[] ∧ ∀ zs n, d ≠ .seq zs n) := fun e => by subst e; exact ⟨(fun z => by cases z), (fun zs n z => by cases z)⟩
      refine ⟨m, ob, m1, m2, fun z => ?_, fun z => ?_, hid m3 (pl m6).1 (pl m6).2, m4, m5, m6⟩
      · rw [z] at m3; cases m3.symm.trans eg; rw [dg] at m6; cases m6
      · rw [z] at m3; cases m3.symm.trans (tb p hp); cases m6
    · rw [z] at eg; cases eg.symm.trans (tb p hp); cases dg
  have hok : L2.HOk P w (hd0 K T a so (ns.map V.int)) st.heap := fun b u e => by
    rcases hd0_of e with ⟨h1, rfl⟩ | ⟨_, rfl, _, rfl⟩
    · exact tbT b h1
    · subst eo
      exact ⟨sc, by simpa using sl, vs, _, vi, sc⟩
  have sq : SqL K (hd0 K T a so (ns.map V.int)) a (ns.map V.int) := by
    cases q : K.lookup a with
    | none => exact .inl (.inr ⟨so, by unfold hd0; rw [if_neg naT, if_pos ⟨rfl, q⟩]⟩)
    | some ob =>
      have e := (KI a ob q).symm.trans sc
      cases e
      subst eo
      exact .inr ⟨_, _, _, q, rfl, rfl, rfl, by rw [List.size_toArray, si.length]; exact sl, by simpa using vi⟩
  have tracked : ∀ p ∈ cs, hd0 K T a so (ns.map V.int) p.2 = some (.tbl #[]) := fun p hp => hd0_T (inT p hp)
  have e0 : Env0 P w K mg (hidT st.heap (hd0 K T a so (ns.map V.int))) callerA [] st (hd0 K T a so (ns.map V.int)) :=
    { frames := rfl, mod := hM, bs := fun b ob e => of_hidT e, bsz := Nat.le_of_eq (hidT_size _ _), funs := trivial, frf := fun b z => (nomatch z), hok := hok, bare := .of_eq gn }
  apply codeAny_mono ((go _ kin (nss nsg) tabs (by obtain ⟨m, hm⟩ := md; obtain ⟨ob, _, _, e, _⟩ := nss hm; exact ⟨ob, e⟩)).go callerA [] st _ [.ref a] [.ref a] _ _ rm e0 (bd st (.ref a)) (.cons rfl .nil) (at' _ tracked sq))
  rintro (e | fl) s2 q
  · exact (cx_none q).elim
  · cases fl with
    | ret u =>
      obtain ⟨v, H2, os, bare, un, hok2, rv, rfl⟩ := q
      cases (show u = Value.bool true from rv)
      have stays : ∀ b ob, b ∉ T → st.heap.get? b = some ob → s2.heap.get? b = some ob := fun b ob nb e => by
        cases q : hd0 K T a so (ns.map V.int) b with
        | none => exact un.keep b ob e q (fun z => (nomatch z)) (fun z => (nomatch z))
        | some u =>
          rcases hd0_of q with ⟨h1, _⟩ | ⟨_, rfl, _, rfl⟩
          · exact absurd h1 nb
          · cases sc.symm.trans e
            exact (hok2 b _ (un.frzs b _ _ q)).1
      have more : ∀ b ∈ T, ∃ z : Array Value, s2.heap.get? b = some ({ cls := .none, data := .fields z } : Obj) := fun b hb => by
        obtain ⟨m, z⟩ := un.tbls b #[] (hd0_T hb)
        exact ⟨_, hok2 b _ z⟩
      refine ⟨rfl, ⟨fun b ob e => ?_, fun b ob e => ?_⟩, os, bare⟩
      · by_cases hb : b ∈ T
        · obtain ⟨p, hp, rfl⟩ := ofT b hb
          obtain ⟨m, hm⟩ := more _ hb
          cases (tb p hp).symm.trans e
          exact .inr (.inl ⟨((cd p hp).tab (tb p hp)).isCodeTable, rfl, #[], m, rfl, by simpa using hm⟩)
        · exact .inl (stays b ob hb e)
      · by_cases hb : b ∈ T
        · obtain ⟨m, hm⟩ := more _ hb
          exact ⟨_, hm⟩
        · exact ⟨ob, stays b ob hb e⟩
    | _ => exact (show False from q).elim
/-- what a law's def must show, the module's text being laid -/
noncomputable def LawAtG (l : PySem.W.OpenLaw) (w : World) (K : PySem.W.Frag) (k n : Nat) (x : Str) (mg : Str → Option Value) (fa : Addr) (h : Heap) : Prop :=
  ∃ (fd : FuncData) (cs : List (Addr × Addr)) (sp : Sp), (∀ p ∈ cs, h.get? p.2 = some { cls := .none, data := .fields #[] }) ∧ (∀ p ∈ cs, K.lookup p.2 = none) ∧ (∀ p ∈ cs, PySem.W.CodeHd h p.1 p.2) ∧
    (∀ (s : Shared) (u : Value), BindsTo s fd ⟨[u], []⟩ [(x, u)]) ∧ (∀ (H : Hp) (a : Addr) (ns : List Int), ns.length ≤ n → (∀ p ∈ cs, H p.2 = some (.tbl #[])) → SqL K H a (ns.map V.int) → sp [.ref a] H (fun v _ => v = .bl true) fun _ _ _ => False) ∧
    ∀ base : Heap, K.In base → base.Ns mainGlobals mg → (∀ p ∈ cs, TabB base mg p.1 p.2) → SmB base → FnG l.prog w K mg base k fa fd [x] sp
theorem seer_sm {h : Heap} (x : h.NoSeer) : ∃ m, h.Ns sysModules m :=
  let ⟨m, hm, _⟩ := x.mods; ⟨m, hm⟩
/-- as OwnTab, of any def of the text -/
theorem walk_ofL {l : PySem.W.OpenLaw} {n k : Nat} {q : Program} {loose : List Str} {XP : (Str → Option Value) → Heap → Prop} {YP : World → Heap → Prop} {d : DefRec} {K : Params → PySem.W.Frag} {x : Str}
    (hi : importsNone q = true) (hn : l.most = some n) (hn2 : n ≤ sizeLine) (hdf : d.params.defaults = []) (hr : Rm k callerA) (hY : ∀ (w : World) (h : Heap), YP w h → (K w.params).In h)
    (F : ∀ (w : World) (mg : Str → Option Value) (fa : Addr) (h : Heap), YP w h → (K w.params).In h → h.Ns mainGlobals mg → mg d.name = some (.ref fa) →
      (∀ (nm : Str) (f : Addr), ((PyProof.Rows.recsOf q).any fun e => e.name == nm) = true → mg nm = some (.ref f) → OwnTab (K w.params) f h) → LawAtG l w (K w.params) k n x mg fa h) :
    PySem.W.WalkO q loose XP YP l.row.toRowW d [] (fun f vs => PySem.call f vs) := by
  refine Att.attach_callB hn hdf fun w s0 s1 mg mb fa o pm cd doc a vs ns G Y ho hd hcd hmg hobj hints hlen hbits hg => ?_
  have KX := hY w _ Y
  have own : ∀ (nm : Str) (f : Addr), ((PyProof.Rows.recsOf q).any fun e => e.name == nm) = true → mg nm = some (.ref f) → OwnTab (K w.params) f s1.heap := by
    intro nm f hrec hf c P o1 fd1 e dd vs1 sl k1 k2 k3 k4 k5
    obtain ⟨dL, hm, hq⟩ := List.any_eq_true.mp hrec
    obtain ⟨a2, o2, fd2, c2, P2, t1, t2, t3, t4, _, ⟨oc, vc, t5, _, t6, t7⟩, t8⟩ := G.T.tab dL hm
    rw [beq_iff_eq.mp hq, hf] at t1
    cases t1
    cases (KX _ _ k1).symm.trans t2
    cases k2.symm.trans t3
    cases k3.symm.trans t4
    cases (KX _ _ k4).symm.trans t5
    cases t6
    cases k5.symm.trans t7
    exact t8
  obtain ⟨fd, cs, sp, hT, nT, C, hb, hsp, hF⟩ := F w mg fa _ Y KX G.T.g hmg own
  exact head_G KX G.T.g G.T.b G.T.builtins G.T.nolimit hg hT nT C G.T.bmain hobj hints (Nat.le_trans hlen hn2) hr (by have := G.T.seer hi; exact seer_sm this) hF hb (fun H hH hS => hsp H a ns hlen hH hS)
section
variable {K : PySem.W.Frag} {mg : Str → Option Value} {x : Str} {f c P : Addr} {fd : FuncData} {oc ty : Value} {od dc : Option Addr} {sl slc : Array (Option Value)} {vs : Array Value} {base h : Heap}
theorem tabAt_of (hm : mg x = some (.ref f)) (ll : K.lookup f = some ⟨oc, od, .func fd, sl⟩) (lc : fd.code = .ref c) (lq : fd.qualname = x) (lk : K.lookup c = some ⟨ty, dc, .fields vs, slc⟩) (lp : vs[11]? = some (.ref P)) : tabAt K mg x = some (P, x ++ ".<locals>." ++ "<lambda>") := by
  unfold tabAt
  simp only [hm, ll, lc, lk, lp, lq]
theorem tabAt_no (hm : mg x = none) : tabAt K mg x = none := by
  unfold tabAt
  simp only [hm]
theorem empty_of (own : OwnTab K f h) (ll : K.lookup f = some ⟨oc, od, .func fd, sl⟩) (lc : fd.code = .ref c) (lk : K.lookup c = some ⟨ty, dc, .fields vs, slc⟩) (lp : vs[11]? = some (.ref P)) : h.get? P = some { cls := .none, data := .fields #[] } :=
  own c P _ fd ty dc vs slc ll rfl lc lk lp
/-- a lambda's name -/
noncomputable abbrev lamNm (x : Str) : Str := x ++ ".<locals>." ++ "<lambda>"
theorem tabD_of {f2 : Addr} {fd2 : FuncData} {od2 : Option Addr} {oc2 : Value} {sl2 : Array (Option Value)} (La : PySem.W.nsIn K mainGlobals x = some (some (.ref f))) (a2 : PySem.W.nsIn K mainGlobals x = some (some (.ref f2))) (ll : K.lookup f = some ⟨oc, od, .func fd, sl⟩) (lc : fd.code = .ref c) (l2 : K.lookup f2 = some ⟨oc2, od2, .func fd2, sl2⟩) (tb : TabB base mg c P) (m : (P, lamNm x) ∈ lamTabs K mg) (one : ∀ z ∈ lamTabs K mg, z.1 = P → z.2 = lamNm x) : TabD K mg base x fd2 := by
  cases La.symm.trans a2
  rw [ll] at l2
  cases l2
  exact ⟨c, P, lc, tb, m, one⟩
end
theorem lawAt_of {l : PySem.W.OpenLaw} {w : World} {K : PySem.W.Frag} {k : Nat} {mg : Str → Option Value} {fa : Addr} {h : Heap} {fd : FuncData} {x : Str} (X : K.In h) (cs : List (Addr × Addr)) (hlt : ∀ z ∈ lamTabs K mg, ∃ p ∈ cs, z.1 = p.2)
    (hcs : ∀ p ∈ cs, h.get? p.2 = some { cls := .none, data := .fields #[] } ∧ K.lookup p.2 = none ∧ PySem.W.codeHdIn K p.1 p.2 = true)
    (hb : ∀ (s : Shared) (u : Value), BindsTo s fd ⟨[u], []⟩ [(x, u)]) (hF : ∀ base : Heap, K.In base → base.Ns mainGlobals mg → (∀ p ∈ cs, TabB base mg p.1 p.2) → SmB base → FnG l.prog w K mg base k fa fd [x] (spLaw K mg)) : LawAtG l w K k 63 x mg fa h :=
  ⟨fd, cs, spLaw K mg, fun p hp => (hcs p hp).1, fun p hp => (hcs p hp).2.1, fun p hp => PySem.W.codeHd_of_K X (hcs p hp).2.2, hb, fun H a ns hl hT hS => ⟨a, ns, rfl, hS, hl, fun z hz => (by
    obtain ⟨p, hp, e⟩ := hlt z hz
    exact .nil (by rw [e]; exact hT p hp)), fun _ => rfl⟩, hF⟩
end Ev
namespace Ev
open PySem PySem.Spec PyProof.Rows L2
noncomputable def Wp {α : Type} (m : Rs α) (Q : α → Stt → Prop) (E : Str → List D → Stt → Prop) : Prop := match m with
  | .ok a s => Q a s
  | .exc c fs s => E c fs s
  | .bad => False
noncomputable def Ws (m : Rf) (N : Env → Stt → Prop) (R : D → Stt → Prop) (E : Str → List D → Env → Stt → Prop) : Prop := match m with
  | .ok .nx e s => N e s
  | .ok (.rt d) _ s => R d s
  | .exc c fs e s => E c fs e s
  | _ => False
section
variable {α β : Type} {G : Gam} {st : Stt} {env : Env} {Q : α → Stt → Prop} {QA : A → Stt → Prop} {N : Env → Stt → Prop} {R : D → Stt → Prop} {E : Str → List D → Stt → Prop} {Ee : Str → List D → Env → Stt → Prop}
theorem wp_ok {a : α} : Wp (.ok a st) Q E = Q a st := rfl
theorem wp_exc {c : Str} {fs : List D} : Wp (.exc c fs st : Rs α) Q E = E c fs st := rfl
theorem wp_bind {m : Rs β} {k : β → M α} : Wp (m.bind k) Q E = Wp m (fun a s => Wp (k a s) Q E) E := by cases m <;> rfl
theorem wp_ite {c : Prop} [Decidable c] {a b : Rs α} : Wp (if c then a else b) Q E = if c then Wp a Q E else Wp b Q E := by split <;> rfl
theorem ws_ite {c : Prop} [Decidable c] {a b : Rf} : Ws (if c then a else b) N R Ee = if c then Ws a N R Ee else Ws b N R Ee := by split <;> rfl
theorem wp_some {a : α} : Wp (ofO (some a) st) Q E = Q a st := rfl
theorem ws_then {m : Rs α} {k : α → Stt → Rf} : Ws (m.then env k) N R Ee = Wp m (fun a s => Ws (k a s) N R Ee) (fun c fs s => Ee c fs env s) := by cases m <;> rfl
theorem ws_nx : Ws (.ok .nx env st) N R Ee = N env st := rfl
theorem ws_rt {d : D} : Ws (.ok (.rt d) env st) N R Ee = R d st := rfl
theorem ws_exc {c : Str} {fs : List D} : Ws (.exc c fs env st) N R Ee = Ee c fs env st := rfl
theorem ws_mono {m : Rf} {N' : Env → Stt → Prop} {R' : D → Stt → Prop} {E' : Str → List D → Env → Stt → Prop} (h : Ws m N R Ee) (hn : ∀ e s, N e s → N' e s) (hr : ∀ d s, R d s → R' d s) (he : ∀ c fs e s, Ee c fs e s → E' c fs e s) : Ws m N' R' E' := by
  cases m with
  | ok f e s => cases f with
    | nx => exact hn _ _ h
    | rt d => exact hr _ _ h
    | bk => exact h
    | ct => exact h
  | exc c fs e s => exact he _ _ _ _ h
  | bad => exact h
theorem ws_nil : Ws (evSs G .nil env st) N R Ee = N env st := by simp only [evSs]; rfl
theorem ws_cons {s : Sx} {r : Ss} : Ws (evSs G (.cons s r) env st) N R Ee = Ws (evS G s env st) (fun e st => Ws (evSs G r e st) N R Ee) R Ee := by
  simp only [evSs]
  cases evS G s env st with
  | ok f e s => cases f <;> rfl
  | exc c fs e s => rfl
  | bad => rfl
theorem ws_asg {i : Nat} {x : Ex} : Ws (evS G (.asg (.nm i) x) env st) N R Ee = Wp (evA G env x st) (fun a s => Wp (allocA a s) (fun d s => i < env.length ∧ N (env.set i (some d)) s) (fun c fs s => Ee c fs env s)) (fun c fs s => Ee c fs env s) := by
  rw [evS_nm, ws_then]
  unfold evE
  rw [wp_bind]
  congr 1; funext a s; congr 1; funext d s
  simp only [asgD]
  by_cases h : i < env.length
  · simp only [h, if_true, ws_nx, true_and]
  · simp only [h, if_false, false_and]; rfl
theorem ws_ret {x : Ex} : Ws (evS G (.ret x) env st) N R Ee = Wp (evA G env x st) (fun a s => Wp (allocA a s) R (fun c fs s => Ee c fs env s)) (fun c fs s => Ee c fs env s) := by
  simp only [evS, ws_then, evE, wp_bind, ws_rt]
theorem ws_ret0 : Ws (evS G .ret0 env st) N R Ee = R .non st := by simp only [evS, ws_rt]
theorem ws_pass : Ws (evS G .pass env st) N R Ee = N env st := by simp only [evS, ws_nx]
theorem ws_ex {x : Ex} : Ws (evS G (.ex x) env st) N R Ee = Wp (evA G env x st) (fun a s => N env s) (fun c fs s => Ee c fs env s) := by
  simp only [evS, ws_then, ws_nx]
theorem ws_ife {t : Ex} {a b : Ss} : Ws (evS G (.ife t a b) env st) N R Ee = Wp (tst G env t st) (fun r s => if r = true then Ws (evSs G a env s) N R Ee else Ws (evSs G b env s) N R Ee) (fun c fs s => Ee c fs env s) := by
  simp only [evS, ws_then, ws_ite]
theorem ws_raise {c : Str} (h : G.xc c = true) : Ws (evS G (.raise c .nil) env st) N R Ee = Ee c [] env st := by
  rw [evS, if_pos (show raiB G c .nil = true from h)]
  simp only [evEs, Rs.then, raiK, ws_exc]
theorem ws_try {b h : Ss} {c : Str} {i : Nat} : Ws (evS G (.try b c i h) env st) N R Ee = Ws (evSs G b env st) N R (fun c' fs e' st' => match G.sub c' c with
    | some true => Ws (evSs G h (e'.set i (some (.exn c' fs))) st') (fun e2 s2 => N (e2.set i none) s2) R (fun _ _ _ _ => False)
    | some false => Ee c' fs e' st'
    | none => False) := by
  rw [evS]
  cases evSs G b env st with
  | bad => rfl
  | ok f e s => cases f <;> rfl
  | exc c' fs e' s' =>
    simp only [ws_exc]
    cases G.sub c' c with
    | none => rfl
    | some r =>
      cases r with
      | false => rfl
      | true =>
        simp only
        cases evSs G h (e'.set i (some (.exn c' fs))) s' with
        | bad => rfl
        | exc _ _ _ _ => rfl
        | ok f e s => cases f <;> rfl
theorem ws_un {ts : Tgs} {x : Ex} : Ws (evS G (.asg (.tup ts) x) env st) N R Ee = Wp (evA G env x st) (fun a s => ∃ xs e, seqOf s a = some xs ∧ asgDs ts xs env = some e ∧ N e s) (fun c fs s => Ee c fs env s) := by
  simp only [evS, ws_then]
  congr 1; funext a s
  simp only [asgA]
  cases seqOf s a with
  | none => simp only [reduceCtorEq, false_and, exists_false]; rfl
  | some xs =>
    simp only [Option.some.injEq, exists_and_left, exists_eq_left']
    cases q : asgDs ts xs env with
    | none => simp only [ofO, reduceCtorEq, false_and, exists_false]; rfl
    | some e => simp only [ofO, ws_nx, Option.some.injEq, exists_eq_left']
theorem ws_st {o i x : Ex} : Ws (evS G (.st o i x) env st) N R Ee = Wp (evA G env x st) (fun a s => Wp (allocA a s) (fun y s => Wp (evA G env o s) (fun a s => Wp (evA G env i s) (fun k s =>
    ∃ l kk, a = .d (.loc l) ∧ k = .d (.int kk) ∧ (match stLst s l with
      | some xs => ∃ j, ixN xs.length kk = some j ∧ N env (s.set l (.lst (xs.set j y)))
      | none => match dicOf s l with
        | some kvs => lenOk (kvs.length + 1) = true ∧ N env (s.set l (.dic (dput kvs (Sum.inl kk) y)))
        | none => False)) (fun c fs s => Ee c fs env s)) (fun c fs s => Ee c fs env s)) (fun c fs s => Ee c fs env s)) (fun c fs s => Ee c fs env s) := by
  simp only [evS, ws_then, evE, wp_bind]
  congr 1; funext a s; congr 1; funext y s; congr 1; funext a s; congr 1; funext k s
  apply propext
  constructor
  · intro h
    split at h
    · rename_i l kk
      refine ⟨l, kk, rfl, rfl, ?_⟩
      split at h
      · rename_i xs e1
        try rw [e1]
        split at h
        · rename_i j e2
          exact ⟨j, e2, h⟩
        · exact h.elim
      · rename_i e1
        try rw [e1]
        split at h
        · rename_i kvs e2
          try rw [e2]
          split at h
          · rename_i e3
            exact ⟨e3, h⟩
          · exact h.elim
        · exact h.elim
    · exact h.elim
  · rintro ⟨l, kk, rfl, rfl, h⟩
    cases e1 : stLst s l with
    | some xs =>
      try rw [e1] at h
      obtain ⟨j, e2, h⟩ := h
      try simp only [e1, e2]
      exact h
    | none =>
      try rw [e1] at h
      cases e2 : dicOf s l with
      | some kvs =>
        try rw [e2] at h
        try simp only [e1, e2, h.1, if_true]
        exact h.2
      | none =>
        try rw [e2] at h
        exact h.elim
theorem wp_evF {m n : Nat} {b : Ss} {xs : List D} {R : D → Stt → Prop} (h : xs.length = m) : Wp (evF G m n b xs st) R E = Ws (evSs G b (xs.map some ++ List.replicate (n - xs.length) none) st) (fun _ s => R .non s) R (fun c fs _ s => E c fs s) := by
  unfold evF
  rw [if_pos h]
  cases evSs G b (xs.map some ++ List.replicate (n - xs.length) none) st with
  | ok f e s => cases f <;> rfl
  | exc c fs e s => rfl
  | bad => rfl
theorem wp_tst {x : Ex} {Q : Bool → Stt → Prop} : Wp (tst G env x st) Q E = Wp (evA G env x st) (fun a s => Wp (truA a s) Q E) E := by
  simp only [tst, wp_bind]
end
section
variable {G : Gam} {R : D → Stt → Prop} {Ee : Str → List D → Env → Stt → Prop} {N : Env → Stt → Prop}
theorem ws_forGo {live : List (Nat × List D)} {tg : Tg} {body : Env → Stt → Rf} (I : Nat → Env → Stt → Prop) : ∀ (xs : List D) (k : Nat) (e : Env) (st : Stt), I k e st →
    (∀ i x e st, xs[i]? = some x → I (k + i) e st → liveOk st live = true ∧ ∃ e', asgD tg x e = some e' ∧ Ws (body e' st) (I (k + i + 1)) R Ee) → (∀ e st, I (k + xs.length) e st → liveOk st live = true ∧ N e st) → Ws (forGo live tg body xs e st) N R Ee
  | [], k, e, st, h0, hs, hf => by
    obtain ⟨h1, h2⟩ := hf e st h0
    simp only [forGo, h1, if_true, ws_nx]
    exact h2
  | x :: r, k, e, st, h0, hs, hf => by
    obtain ⟨h1, e', h2, h3⟩ := hs 0 x e st rfl h0
    simp only [forGo, h1, if_true, h2]
    have go := fun e st h => ws_forGo I r (k + 1) e st h (fun i y e st hx hi => by
      have := hs (i + 1) y e st (by simpa using hx) (by rw [show k + (i + 1) = k + 1 + i from by omega]; exact hi)
      rw [show k + (i + 1) + 1 = k + 1 + i + 1 from by omega] at this
      exact this) (fun e st h => hf e st (by rw [List.length_cons, show k + (r.length + 1) = k + 1 + r.length from by omega]; exact h))
    cases q : body e' st with
    | bad => rw [q] at h3; exact h3.elim
    | exc c fs e2 st2 => rw [q] at h3; exact h3
    | ok f e2 st2 =>
      rw [q] at h3
      cases f with
      | nx => exact go e2 st2 h3
      | rt d => exact h3
      | bk => exact h3.elim
      | ct => exact h3.elim
theorem whlN_mono {t : Env → Stt → Rs Bool} {body : Env → Stt → Rf} : ∀ {n : Nat} {e : Env} {st : Stt} {r : Rf}, whlN t body n e st = some r → whlN t body (n + 1) e st = some r
  | 0, e, st, r, h => by simp [whlN] at h
  | n + 1, e, st, r, h => by
    rw [whlN] at h ⊢
    cases q : t e st with
    | bad => rw [q] at h; exact h
    | exc c fs s => rw [q] at h; exact h
    | ok b s =>
      rw [q] at h
      cases b with
      | false => exact h
      | true =>
        simp only at h ⊢
        cases q2 : body e s with
        | bad => rw [q2] at h; exact h
        | exc c fs e2 s2 => rw [q2] at h; exact h
        | ok f e2 s2 =>
          rw [q2] at h
          cases f with
          | nx => exact whlN_mono h
          | ct => exact whlN_mono h
          | bk => exact h
          | rt d => exact h
theorem whlN_le {t : Env → Stt → Rs Bool} {body : Env → Stt → Rf} {n : Nat} {e : Env} {st : Stt} {r : Rf} (h : whlN t body n e st = some r) : ∀ k, whlN t body (n + k) e st = some r
  | 0 => h
  | k + 1 => whlN_mono (whlN_le h k)
theorem whl_eq {t : Env → Stt → Rs Bool} {body : Env → Stt → Rf} {n : Nat} {e : Env} {st : Stt} {r : Rf} (h : whlN t body n e st = some r) : whl t body e st = r := by
  have hx : ∃ n, (whlN t body n e st).isSome = true := ⟨n, by rw [h]; rfl⟩
  unfold whl
  rw [dif_pos hx]
  obtain ⟨r', hr⟩ := Option.isSome_iff_exists.mp (Classical.choose_spec hx)
  rw [hr]
  have a := whlN_le hr n
  have b := whlN_le h (Classical.choose hx)
  rw [show n + Classical.choose hx = Classical.choose hx + n from by omega, a] at b
  cases b; rfl
theorem ws_whlN {t : Env → Stt → Rs Bool} {body : Env → Stt → Rf} (I : Nat → Env → Stt → Prop) (hs : ∀ n e st, I n e st → Wp (t e st) (fun b s => if b = true then Ws (body e s) (fun e s => ∃ m, m < n ∧ I m e s) R Ee else N e s) (fun c fs s => Ee c fs e s)) :
    ∀ n e st, I n e st → ∃ m r, whlN t body m e st = some r ∧ Ws r N R Ee := by
  intro n
  induction n using Nat.strongRecOn with
  | _ n ih =>
    intro e st hi
    have h := hs n e st hi
    cases q : t e st with
    | bad => rw [q] at h; exact h.elim
    | exc c fs s => rw [q] at h; exact ⟨1, .exc c fs e s, by simp only [whlN, q], h⟩
    | ok b s =>
      rw [q, wp_ok] at h
      cases b with
      | false => rw [if_neg Bool.false_ne_true] at h; exact ⟨1, .ok .nx e s, by simp only [whlN, q], h⟩
      | true =>
        rw [if_pos rfl] at h
        cases q2 : body e s with
        | bad => rw [q2] at h; exact h.elim
        | exc c fs e2 s2 => rw [q2] at h; exact ⟨1, .exc c fs e2 s2, by simp only [whlN, q, q2], h⟩
        | ok f e2 s2 =>
          rw [q2] at h
          cases f with
          | nx =>
            obtain ⟨m, hm, h⟩ := h
            obtain ⟨k, r, hk, hr⟩ := ih m hm e2 s2 h
            exact ⟨k + 1, r, by simp only [whlN, q, q2]; exact hk, hr⟩
          | rt d => exact ⟨1, .ok (.rt d) e2 s2, by simp only [whlN, q, q2], h⟩
          | bk => exact h.elim
          | ct => exact h.elim
theorem ws_whl {t : Ex} {b : Ss} {e : Env} {st : Stt} (I : Nat → Env → Stt → Prop) (n : Nat) (h0 : I n e st) (hs : ∀ n e st, I n e st → Wp (tst G e t st) (fun r s => if r = true then Ws (evSs G b e s) (fun e s => ∃ m, m < n ∧ I m e s) R Ee else N e s) (fun c fs s => Ee c fs e s)) :
    Ws (evS G (.whl t b) e st) N R Ee := by
  obtain ⟨m, r, h1, h2⟩ := ws_whlN I hs n e st h0
  rw [evS, whl_eq h1]
  exact h2
end
noncomputable def isiT (t : String) (c : Str) : Option Bool := match tyName c with
  | some n => kitB t n
  | none => none
section
variable {G : Gam} {st : Stt} {c : Str} {a : A}
theorem isi_of {t : String} (h : tyA st a = some t) : isiA G st a [c] = isiT t c := by
  unfold isiA isiOne isiT
  rw [h]
  cases q : tyName c with
  | some n => simp only [q]
  | none =>
    simp only [q]
    split
    · cases h
    · rfl
theorem isi_non : isiA G st (.d .non) [c] = isiT "NoneType" c := isi_of rfl
theorem isi_bl {b : Bool} : isiA G st (.d (.bl b)) [c] = isiT "bool" c := isi_of rfl
theorem isi_int {i : Int} : isiA G st (.d (.int i)) [c] = isiT "int" c := isi_of rfl
theorem isi_str {x : Str} : isiA G st (.d (.str x)) [c] = isiT "str" c := isi_of rfl
theorem isi_tup {xs : List D} : isiA G st (.d (.tup xs)) [c] = isiT "tuple" c := isi_of rfl
theorem isi_rol {xs : List D} : isiA G st (.d (.rol xs)) [c] = isiT "list" c := isi_of rfl
theorem isi_l {xs : List D} : isiA G st (.l xs) [c] = isiT "list" c := isi_of rfl
theorem isi_loc {l : Nat} {xs : List D} (h : stLst st l = some xs) : isiA G st (.d (.loc l)) [c] = isiT "list" c := by
  refine isi_of ?_
  unfold stLst at h
  simp only [tyA]
  split at h
  · rename_i e; rw [e]
  · cases h
theorem isi_exn {e : Str} (h : tyName c = none) : isiA G st (.d (.exn e [])) [c] = G.ist e c := by
  simp only [isiA, isiOne, h]
theorem isi_dic {l : Nat} {kvs : List (Key × D)} (h : st[l]? = some (.dic kvs)) : isiA G st (.d (.loc l)) [c] = isiT "dict" c := by
  refine isi_of ?_
  simp only [tyA, h]
end
theorem isiT_list_int : isiT "list" "int" = some false := by decide +kernel
theorem isiT_list_bool : isiT "list" "bool" = some false := by decide +kernel
theorem isiT_list_str : isiT "list" "str" = some false := by decide +kernel
theorem isiT_list_tuple : isiT "list" "tuple" = some false := by decide +kernel
theorem isiT_list_list : isiT "list" "list" = some true := by decide +kernel
theorem isiT_NoneType_int : isiT "NoneType" "int" = some false := by decide +kernel
theorem isiT_NoneType_bool : isiT "NoneType" "bool" = some false := by decide +kernel
theorem isiT_NoneType_str : isiT "NoneType" "str" = some false := by decide +kernel
theorem isiT_NoneType_tuple : isiT "NoneType" "tuple" = some false := by decide +kernel
theorem isiT_NoneType_list : isiT "NoneType" "list" = some false := by decide +kernel
theorem isiT_bool_int : isiT "bool" "int" = some true := by decide +kernel
theorem isiT_bool_bool : isiT "bool" "bool" = some true := by decide +kernel
theorem isiT_bool_str : isiT "bool" "str" = some false := by decide +kernel
theorem isiT_bool_tuple : isiT "bool" "tuple" = some false := by decide +kernel
theorem isiT_bool_list : isiT "bool" "list" = some false := by decide +kernel
theorem isiT_int_int : isiT "int" "int" = some true := by decide +kernel
theorem isiT_int_bool : isiT "int" "bool" = some false := by decide +kernel
theorem isiT_int_str : isiT "int" "str" = some false := by decide +kernel
theorem isiT_int_tuple : isiT "int" "tuple" = some false := by decide +kernel
theorem isiT_int_list : isiT "int" "list" = some false := by decide +kernel
theorem isiT_str_int : isiT "str" "int" = some false := by decide +kernel
theorem isiT_str_bool : isiT "str" "bool" = some false := by decide +kernel
theorem isiT_str_str : isiT "str" "str" = some true := by decide +kernel
theorem isiT_str_tuple : isiT "str" "tuple" = some false := by decide +kernel
theorem isiT_str_list : isiT "str" "list" = some false := by decide +kernel
theorem isiT_tuple_int : isiT "tuple" "int" = some false := by decide +kernel
theorem isiT_tuple_bool : isiT "tuple" "bool" = some false := by decide +kernel
theorem isiT_tuple_str : isiT "tuple" "str" = some false := by decide +kernel
theorem isiT_tuple_tuple : isiT "tuple" "tuple" = some true := by decide +kernel
theorem isiT_tuple_list : isiT "tuple" "list" = some false := by decide +kernel
theorem isiT_dict_int : isiT "dict" "int" = some false := by decide +kernel
theorem isiT_dict_bool : isiT "dict" "bool" = some false := by decide +kernel
theorem isiT_dict_str : isiT "dict" "str" = some false := by decide +kernel
theorem isiT_dict_tuple : isiT "dict" "tuple" = some false := by decide +kernel
theorem isiT_dict_list : isiT "dict" "list" = some false := by decide +kernel
end Ev
namespace Ev
open PySem PySem.Spec PyProof.Rows L2
section
variable {α : Type} {G : Gam} {st s0 : Stt} {env : Ev.Env} {Q : α → Stt → Prop} {QA : A → Stt → Prop} {E : Str → List D → Stt → Prop} {i j : Int} {xs ys : List D} {x : D} {b c : Bool}
theorem eq_of_wp {m : Rs α} {a0 : α} (h : Wp m (fun a s => a = a0 ∧ s = s0) (fun _ _ _ => False)) : m = .ok a0 s0 := by
  cases m with
  | ok a s => obtain ⟨rfl, rfl⟩ := h; rfl
  | exc c fs s => exact h.elim
  | bad => exact h.elim
theorem ex_of_wp {m : Rs α} {P : α → Stt → Prop} (h : Wp m P (fun _ _ _ => False)) : ∃ a s, m = .ok a s ∧ P a s := by
  cases m with
  | ok a s => exact ⟨a, s, rfl, h⟩
  | exc c fs s => exact h.elim
  | bad => exact h.elim
theorem al_d : allocA (.d x) st = .ok x st := rfl
theorem al_l : allocA (.l xs) st = .ok (.loc st.length) (st ++ [.lst xs]) := rfl
theorem tr_bl : truA (.d (.bl b)) st = .ok b st := rfl
theorem tr_non : truA (.d .non) st = .ok false st := rfl
theorem tr_int : truA (.d (.int i)) st = .ok (i != 0) st := rfl
theorem tr_tup : truA (.d (.tup xs)) st = .ok (!xs.isEmpty) st := rfl
theorem tr_l : truA (.l xs) st = .ok (!xs.isEmpty) st := rfl
theorem bin_add : binA .Add (.d (.int i)) (.d (.int j)) st = .ok (.d (.int (i + j))) st := rfl
theorem bin_sub : binA .Sub (.d (.int i)) (.d (.int j)) st = .ok (.d (.int (i - j))) st := rfl
noncomputable def mulB (i j : Int) : Prop := i.natAbs.log2 + j.natAbs.log2 < 1000000
noncomputable def divB (j : Int) : Prop := j ≠ 0 ∧ j.natAbs.log2 < 9000
noncomputable def powB (i j : Int) : Prop := 0 ≤ j ∧ (Builtin.Int.intBits i : Int) * j ≤ 2 ^ 27
theorem wp_mul : Wp (binA .Mult (.d (.int i)) (.d (.int j)) st) QA E = (mulB i j ∧ QA (.d (.int (i * j))) st) := by
  simp only [binA, mulB]
  split <;> rename_i h <;> simp [h, Wp]
theorem wp_div : Wp (binA .FloorDiv (.d (.int i)) (.d (.int j)) st) QA E = (divB j ∧ QA (.d (.int (i.fdiv j))) st) := by
  simp only [binA, divB]
  split <;> rename_i h
  · simp only [h, Wp, not_false_eq_true, and_self, true_and, ne_eq]
  · simp only [h, Wp, false_and]
theorem wp_mod : Wp (binA .Mod (.d (.int i)) (.d (.int j)) st) QA E = (j ≠ 0 ∧ QA (.d (.int (i.fmod j))) st) := by
  simp only [binA]
  split <;> rename_i h <;> simp [h, Wp]
theorem wp_pow : Wp (binA .Pow (.d (.int i)) (.d (.int j)) st) QA E = (powB i j ∧ QA (.d (.int (i ^ j.toNat))) st) := by
  simp only [binA, powB]
  split <;> rename_i h
  · simp only [h, Wp, and_self, true_and]
  · simp only [h, Wp, false_and]
theorem bin_tup : Wp (binA .Add (.d (.tup xs)) (.d (.tup ys)) st) QA E = (lenOk (xs.length + ys.length) = true ∧ QA (.d (.tup (xs ++ ys))) st) := by
  simp only [binA]
  split <;> rename_i h <;> simp [h, Wp]
theorem bin_ll : Wp (binA .Add (.l xs) (.l ys) st) QA E = (lenOk (xs.length + ys.length) = true ∧ QA (.l (xs ++ ys)) st) := by
  simp only [binA, lstM]
  split <;> rename_i h <;> simp [h, Wp]
theorem bin_locl {l : Nat} (hl : stLst st l = some xs) : Wp (binA .Add (.d (.loc l)) (.l ys) st) QA E = (lenOk (xs.length + ys.length) = true ∧ QA (.l (xs ++ ys)) st) := by
  simp only [binA, lstM, hl]
  split <;> rename_i h <;> simp [h, Wp]
theorem mulB_of {a b : Nat} (h1 : i.natAbs < 2 ^ a) (h2 : j.natAbs < 2 ^ b) (h : a + b ≤ 999999) : mulB i j := by
  unfold mulB
  have k : ∀ {n a : Nat}, n < 2 ^ a → n.log2 ≤ a := fun {n a} h => by
    by_cases z : n = 0
    · subst z; simp
    · exact Nat.le_of_lt ((Nat.log2_lt z).mpr h)
  have := k h1; have := k h2; omega
theorem divB_of {b : Nat} (h0 : j ≠ 0) (h2 : j.natAbs < 2 ^ b) (h : b ≤ 8999) : divB j := by
  refine ⟨h0, ?_⟩
  have z : j.natAbs ≠ 0 := by omega
  have := (Nat.log2_lt z).mpr h2
  omega
theorem lt_i : cmpA .Lt (.d (.int i)) (.d (.int j)) st = some (decide (i < j)) := rfl
theorem le_i : cmpA .LtE (.d (.int i)) (.d (.int j)) st = some (decide (i ≤ j)) := rfl
theorem gt_i : cmpA .Gt (.d (.int i)) (.d (.int j)) st = some (decide (j < i)) := rfl
theorem ge_i : cmpA .GtE (.d (.int i)) (.d (.int j)) st = some (decide (j ≤ i)) := rfl
theorem is_nn : cmpA .Is (.d .non) (.d .non) st = some true := rfl
theorem isn_nn : cmpA .IsNot (.d .non) (.d .non) st = some false := rfl
theorem is_bb : cmpA .Is (.d (.bl b)) (.d (.bl c)) st = some (decide (b = c)) := rfl
theorem isn_bb : cmpA .IsNot (.d (.bl b)) (.d (.bl c)) st = some (!decide (b = c)) := rfl
theorem is_tn : cmpA .Is (.d (.tup xs)) (.d .non) st = some false := rfl
theorem is_in : cmpA .Is (.d (.int i)) (.d .non) st = some false := rfl
theorem isn_tn : cmpA .IsNot (.d (.tup xs)) (.d .non) st = some true := rfl
theorem isn_in : cmpA .IsNot (.d (.int i)) (.d .non) st = some true := rfl
theorem cmp_eq {a b : A} : cmpA .Eq a b st = eqB st a b := by cases a <;> rfl
theorem cmp_in {a b : A} : cmpA .In a b st = inA st a b := by cases a <;> rfl
theorem cmp_nin {a b : A} : cmpA .NotIn a b st = (inA st a b).map not := by cases a <;> rfl
theorem cmp_ne {a b : A} : cmpA .NotEq a b st = (eqB st a b).map not := by cases a <;> rfl
end
mutual
theorem toPy_up {st : Stt} : ∀ (n : Nat) (x : D) (d : PyData), toPy st n x = some d → toPy st (n + 1) x = some d
  | 0, _, _, h => by simp [toPy] at h
  | n + 1, x, d, h => by
    cases x with
    | tup xs =>
      simp only [toPy, Option.map_eq_some_iff] at h ⊢
      obtain ⟨ys, h1, h2⟩ := h
      exact ⟨ys, toPys_up n xs ys h1, h2⟩
    | rol xs =>
      simp only [toPy, Option.map_eq_some_iff] at h ⊢
      obtain ⟨ys, h1, h2⟩ := h
      exact ⟨ys, toPys_up n xs ys h1, h2⟩
    | loc l =>
      rw [toPy] at h ⊢
      cases q : stLst st l with
      | none => rw [q] at h; simp at h
      | some xs =>
        rw [q] at h
        simp only [Option.map_eq_some_iff] at h ⊢
        obtain ⟨ys, h1, h2⟩ := h
        exact ⟨ys, toPys_up n xs ys h1, h2⟩
    | _ => simp only [toPy] at h ⊢ <;> exact h
theorem toPys_up {st : Stt} : ∀ (n : Nat) (xs : List D) (ds : List PyData), toPys st n xs = some ds → toPys st (n + 1) xs = some ds
  | 0, _, _, h => by simp [toPys] at h
  | n + 1, [], ds, h => by simp only [toPys] at h ⊢; exact h
  | n + 1, x :: xs, ds, h => by
    rw [toPys] at h ⊢
    cases q1 : toPy st n x with
    | none => rw [q1] at h; simp at h
    | some a =>
      cases q2 : toPys st n xs with
      | none => rw [q1, q2] at h; simp at h
      | some b =>
        rw [q1, q2] at h
        rw [toPy_up n x a q1, toPys_up n xs b q2]
        exact h
end
theorem toPy_le {st : Stt} {n m : Nat} {x : D} {d : PyData} (h : toPy st n x = some d) (hm : n ≤ m) : toPy st m x = some d := by
  obtain ⟨k, rfl⟩ : ∃ k, m = n + k := ⟨m - n, by omega⟩
  clear hm
  induction k with
  | zero => exact h
  | succ k ih => exact toPy_up _ _ _ ih
theorem toPyX_of {st : Stt} {n : Nat} {x : D} {d : PyData} (h : toPy st n x = some d) : toPyX st x = some d := by
  unfold toPyX
  split
  · rename_i e
    have a := toPy_le e (Nat.le_max_left 1000 n)
    have b := toPy_le h (Nat.le_max_right 1000 n)
    rw [a] at b
    exact b
  · have hx : ∃ d n, toPy st n x = some d := ⟨d, n, h⟩
    rw [dif_pos hx]
    obtain ⟨m, e⟩ := Classical.choose_spec hx
    have a := toPy_le e (Nat.le_max_left m n)
    have b := toPy_le h (Nat.le_max_right m n)
    rw [a] at b
    exact b
section
variable {st : Stt} {i j : Int} {b c : Bool}
theorem eq_ii : eqB st (.d (.int i)) (.d (.int j)) = some (decide (i = j)) := by
  have h : eqB st (.d (.int i)) (.d (.int j)) = if SeqAt.shaped (.int i) = true ∧ SeqAt.shaped (.int j) = true then some (PyData.eqv (.int i) (.int j)) else none := rfl
  rw [h, if_pos ⟨rfl, rfl⟩]
  show some (i == j) = _
  by_cases e : i = j <;> simp [e]
theorem eq_bb : eqB st (.d (.bl b)) (.d (.bl c)) = some (decide (b = c)) := by
  have h : eqB st (.d (.bl b)) (.d (.bl c)) = if SeqAt.shaped (.bool b) = true ∧ SeqAt.shaped (.bool c) = true then some (PyData.eqv (.bool b) (.bool c)) else none := rfl
  rw [h]
  cases b <;> cases c <;> rfl
end
end Ev
namespace Ev
open PySem PySem.Spec PyProof.Rows L2
section
variable {st : Stt} {i j : Int} {xs : List D} {b : Bool}
theorem bi_len_tup : biA "len" [.d (.tup xs)] st = .ok (.d (.int xs.length)) st := rfl
theorem bi_len_l : biA "len" [.l xs] st = .ok (.d (.int xs.length)) st := rfl
theorem bi_all_l : biA "all" [.l xs] st = ofO ((boolsOf xs).map fun bs => A.d (.bl (bs.all id))) st := rfl
theorem bi_any_l : biA "any" [.l xs] st = ofO ((boolsOf xs).map fun bs => A.d (.bl (bs.any id))) st := rfl
theorem bi_sum_l : biA "sum" [.l xs] st = ofO ((intsOf xs).map fun bs => A.d (.int bs.sum)) st := rfl
theorem bi_abs : biA "abs" [.d (.int i)] st = .ok (.d (.int (if i < 0 then -i else i))) st := rfl
theorem bi_int_b : biA "int" [.d (.bl b)] st = .ok (.d (.int (if b = true then 1 else 0))) st := rfl
theorem bi_int_i : biA "int" [.d (.int i)] st = .ok (.d (.int i)) st := rfl
theorem bi_max : biA "max" [.d (.int i), .d (.int j)] st = .ok (.d (.int (if j > i then j else i))) st := rfl
theorem bi_min : biA "min" [.d (.int i), .d (.int j)] st = .ok (.d (.int (if j < i then j else i))) st := rfl
theorem bi_list_tup : biA "list" [.d (.tup xs)] st = .ok (.l xs) st := rfl
theorem bi_list_l : biA "list" [.l xs] st = .ok (.l xs) st := rfl
theorem bi_tuple_l : biA "tuple" [.l xs] st = .ok (.d (.tup xs)) st := rfl
theorem bi_str : biA "str" [.d (.int i)] st = ofO (if i.natAbs.log2 < 1920 then some (A.d (.str (toString i))) else none) st := rfl
theorem ix_tup : ixA (.d (.tup xs)) (.d (.int i)) st = (atI xs i).map .d := rfl
theorem ix_l : ixA (.l xs) (.d (.int i)) st = (atI xs i).map .d := rfl
theorem ix_loc {l : Nat} (h : stLst st l = some xs) : ixA (.d (.loc l)) (.d (.int i)) st = (atI xs i).map .d := by
  simp only [ixA, seqOf, tupOf, lstOf, h]
theorem atI_nat {α : Type} {xs : List α} {n : Nat} {x : α} (h : xs[n]? = some x) : atI xs (n : Int) = some x := by
  have hl := (List.getElem?_eq_some_iff.mp h).1
  unfold atI ixN
  rw [if_pos (by omega), if_pos (by omega)]
  simpa using h
theorem atI_mem {α : Type} {xs : List α} {i : Int} (h0 : 0 ≤ i) (h1 : i < xs.length) : ∃ x, atI xs i = some x ∧ x ∈ xs := by
  obtain ⟨n, rfl⟩ := Int.eq_ofNat_of_zero_le h0
  have hl : n < xs.length := by omega
  exact ⟨xs[n], atI_nat (List.getElem?_eq_getElem hl), List.getElem_mem hl⟩
end
end Ev
namespace Ev
open PySem
section
variable {G : Gam} {env : Ev.Env} {st : Stt} {a b c : Ex} {es r : Es} {i : Nat} {op : Operator} {o o2 : CmpOp} {f m : Str}
theorem ev_v : evA G env (.v i) st = match env[i]? with
    | some (some x) => .ok (.d x) st
    | _ => .bad := by rw [evA] <;> rfl
theorem ev_c {x : D} : evA G env (.c x) st = .ok (.d x) st := by simp only [evA]
theorem ev_bin : evA G env (.bin op a b) st = (evA G env a st).bind fun x st => (evA G env b st).bind fun y st => binA op x y st := by simp only [evA]
theorem ev_neg {j : Int} : evA G env (.neg (.c (.int j))) st = .ok (.d (.int (-j))) st := by simp only [evA, Rs.bind]
theorem ev_negg : evA G env (.neg a) st = (evA G env a st).bind fun x st => match x with
    | .d (.int i) => .ok (.d (.int (-i))) st
    | _ => .bad := by rw [evA] <;> rfl
theorem ev_nt : evA G env (.nt a) st = (evA G env a st).bind fun x st => (truA x st).bind fun b st => .ok (.d (.bl (!b))) st := by simp only [evA]
theorem ev_and : evA G env (.and es) st = evAnd G env es st := by simp only [evA]
theorem ev_or : evA G env (.or es) st = evOr G env es st := by simp only [evA]
theorem ev_and1 : evAnd G env (.cons a .nil) st = evA G env a st := by simp only [evAnd]
theorem ev_and2 : evAnd G env (.cons a (.cons b r)) st = (evA G env a st).bind fun x st => (truA x st).bind fun t st => if t = true then evAnd G env (.cons b r) st else .ok x st := by
  rw [evAnd]
theorem ev_or1 : evOr G env (.cons a .nil) st = evA G env a st := by simp only [evOr]
theorem ev_or2 : evOr G env (.cons a (.cons b r)) st = (evA G env a st).bind fun x st => (truA x st).bind fun t st => if t = true then .ok x st else evOr G env (.cons b r) st := by
  rw [evOr]
theorem ev_cmp : evA G env (.cmp a o b) st = (evA G env a st).bind fun x st => (evA G env b st).bind fun y st => ofO ((cmpA o x y st).map fun r => .d (.bl r)) st := by simp only [evA]
theorem ev_cmp3 {a b c d : Ex} {o o2 o3 : CmpOp} : evA G env (.cmp3 a o b o2 c o3 d) st = (evA G env a st).bind fun x st => (evA G env b st).bind fun y st => (ofO (cmpA o x y st) st).bind fun r st =>
    if r = true then (evA G env c st).bind fun z st => (ofO (cmpA o2 y z st) st).bind fun r st =>
      if r = true then (evA G env d st).bind fun u st => ofO ((cmpA o3 z u st).map fun r => .d (.bl r)) st else .ok (.d (.bl false)) st
    else .ok (.d (.bl false)) st := by simp only [evA]
theorem ev_nset {a : Ex} : evA G env (.nset a) st = (evA G env a st).bind fun x st => ofO ((seqOf st x).bind fun xs => (intsOf xs).bind fun is => if is.length ≤ 1000 then some (.d (.int (ndist is))) else none) st := by simp only [evA]
theorem ev_sset {a : Ex} : evA G env (.sset a) st = (evA G env a st).bind fun x st => ofO ((tupOf x).bind fun xs => (intsOf xs).bind fun is => if is.length < 64 then some (.l ((sortS is).map .int)) else none) st := by simp only [evA]
theorem ev_rglL {a : Ex} : evA G env (.rgl false a .no) st = (evA G env a st).bind fun x st => match x with
    | .d (.int i) => if rgOk 0 i = true then .ok (.l (rngI 0 i.toNat)) st else .bad
    | _ => .bad := by
  simp only [evA, evO, Rs.bind]
  rfl
theorem ev_rglT {a : Ex} : evA G env (.rgl true a .no) st = (evA G env a st).bind fun x st => match x with
    | .d (.int i) => if rgOk 0 i = true then .ok (.d (.tup (rngI 0 i.toNat))) st else .bad
    | _ => .bad := by
  simp only [evA, evO, Rs.bind]
  rfl
theorem ev_cmp2 : evA G env (.cmp2 a o b o2 c) st = (evA G env a st).bind fun x st => (evA G env b st).bind fun y st => (ofO (cmpA o x y st) st).bind fun r st =>
    if r = true then (evA G env c st).bind fun z st => ofO ((cmpA o2 y z st).map fun r => .d (.bl r)) st else .ok (.d (.bl false)) st := by simp only [evA]
theorem ev_call {F : List D → M D} (h : G.fn f = some F) : evA G env (.call f es) st = (evEs G env es st).bind fun xs st => (F xs st).bind fun y st => .ok (.d y) st := by simp only [evA, h]
theorem ev_callv {j : Nat} : evA G env (.callv j es) st = match env[j]? with
    | some (some (.obj f)) => match G.fn f with
      | some F => (evEs G env es st).bind fun xs st => (F xs st).bind fun y st => .ok (.d y) st
      | none => .bad
    | _ => .bad := by rw [evA] <;> rfl
theorem ev_bi : evA G env (.bi f es) st = (evAs G env es st).bind fun xs st => biA f xs st := by simp only [evA]
theorem ev_mt : evA G env (.mt m a es) st = (evA G env a st).bind fun x st => if rcv m x st = true then (evAs G env es st).bind fun ys st => mtA m x ys st else .bad := by simp only [evA]
theorem ev_isi {cs : List Str} : evA G env (.isi a cs) st = (evA G env a st).bind fun x st => ofO ((isiA G st x cs).map fun r => .d (.bl r)) st := by simp only [evA]
theorem ev_ix : evA G env (.ix a b) st = (evA G env a st).bind fun x st => (evA G env b st).bind fun y st => ofO (ixA x y st) st := by simp only [evA]
theorem ev_sl {lo hi : Eo} : evA G env (.sl a lo hi) st = (evA G env a st).bind fun x st => (evO G env lo st).bind fun l st => (evO G env hi st).bind fun h st => ofO (slA x l h st) st := by simp only [evA]
theorem ev_tup : evA G env (.tup es) st = (evEs G env es st).bind fun xs st => if lenOk xs.length = true then .ok (.d (.tup xs)) st else .bad := by simp only [evA]
theorem ev_lst : evA G env (.lst es) st = (evEs G env es st).bind fun xs st => if lenOk xs.length = true then .ok (.l xs) st else .bad := by simp only [evA]
theorem ev_rev : evA G env (.rev a) st = (evA G env a st).bind fun x st => match tupOf x with
    | some xs => .ok (.d (.tup xs.reverse)) st
    | none => match lstOf st x with
      | some xs => .ok (.l xs.reverse) st
      | none => .bad := by rw [evA] <;> rfl
theorem ev_dic1 {k : Int} {d : D} : evA G env (.dic1 k d) st = .ok (.d (.loc st.length)) (st ++ [.dic [(Sum.inl k, d)]]) := by simp only [evA]
theorem eq_te {xs : List D} : eqB st (.d (.tup xs)) (.d (.tup [])) = some (decide (xs.length = 0)) := by
  have h : eqB st (.d (.tup xs)) (.d (.tup [])) = match (if (xs.isEmpty || true) = true then some (decide (xs.length = 0)) else none) with
    | some r => some r
    | none => eqA st (.d (.tup xs)) (.d (.tup [])) := rfl
  rw [h, Bool.or_true, if_pos rfl]
theorem ev_dicE {k v : Ex} : evA G env (.dicE k v) st = (evA G env k st).bind fun x st => (evA G env v st).bind fun y st => (allocA y st).bind fun z st => match x with
    | .d (.int i) => .ok (.d (.loc st.length)) (st ++ [.dic [(Sum.inl i, z)]])
    | _ => .bad := by rw [evA] <;> rfl
theorem ev_dict0 : evA G env .dict0 st = .ok (.d (.loc st.length)) (st ++ [.dic []]) := by simp only [evA]
theorem ev_ife : evA G env (.ife a b c) st = (evA G env a st).bind fun x st => (truA x st).bind fun r st => if r = true then evA G env b st else evA G env c st := by simp only [evA]
theorem ev_es0 : evEs G env .nil st = .ok [] st := by simp only [evEs]
theorem ev_es1 : evEs G env (.cons a r) st = (evA G env a st).bind fun x st => (allocA x st).bind fun y st => (evEs G env r st).bind fun ys st => .ok (y :: ys) st := by simp only [evEs]
theorem ev_as0 : evAs G env .nil st = .ok [] st := by simp only [evAs]
theorem ev_as1 : evAs G env (.cons a r) st = (evA G env a st).bind fun x st => (evAs G env r st).bind fun ys st => .ok (x :: ys) st := by simp only [evAs]
theorem ev_no : evO G env .no st = .ok none st := by simp only [evO]
theorem ev_so : evO G env (.so a) st = (evA G env a st).bind fun x st => ofO (partA x) st := by simp only [evO]
theorem part_i {i : Int} : partA (.d (.int i)) = some (some i) := rfl
theorem ev_val : evIt G env (.val a) st = (evA G env a st).bind fun x st => ofO (srcA st x) st := by simp only [evIt]
theorem ev_rng : evIt G env (.rng a) st = (evA G env a st).bind fun x st => match x with
    | .d (.int n) => if rngOk n = true then .ok ⟨rngI 0 n.toNat, []⟩ st else .bad
    | _ => .bad := by rw [evIt] <;> rfl
theorem ev_rng2 : evIt G env (.rng2 a b) st = (evA G env a st).bind fun x st => (evA G env b st).bind fun y st => match x, y with
    | .d (.int i), .d (.int j) => if rngOk i = true ∧ rngOk j = true then .ok ⟨rngI i (j - i).toNat, []⟩ st else .bad
    | _, _ => .bad := by rw [evIt] <;> rfl
theorem src_t {xs : List D} : srcA st (.d (.tup xs)) = some ⟨xs, []⟩ := rfl
theorem src_l {xs : List D} : srcA st (.l xs) = some ⟨xs, []⟩ := rfl
end
end Ev
namespace Ev
open PySem
section
variable {G : Gam} {env : Ev.Env} {st : Stt} {e : Ev.Env}
theorem if_no : evIf G env .no st = .ok true st := rfl
theorem if_so {c : Ex} : evIf G env (.so c) st = (evA G env c st).bind truA := rfl
theorem asg_nm {i : Nat} {x : D} : asgD (.nm i) x e = if i < e.length then some (e.set i (some x)) else none := by rw [asgD]
theorem asg_tup {ts : Tgs} {xs : List D} : asgD (.tup ts) (.tup xs) e = asgDs ts xs e := by rw [asgD]
theorem asgs_nil : asgDs .nil [] e = some e := by rw [asgDs]
theorem asgs_cons {t : Tg} {r : Tgs} {x : D} {xs : List D} : asgDs (.cons t r) (x :: xs) e = (asgD t x e).bind (asgDs r xs) := by rw [asgDs]
theorem some_bindO {α β : Type} {x : α} {f : α → Option β} : (some x).bind f = f x := rfl
end
theorem pow_ok {i : Int} {b : Nat} {j : Int} (h : i.natAbs < 2 ^ b) (h0 : 0 ≤ j) (hb : (b : Int) * j ≤ 100000000) : powB i j := by
  refine ⟨h0, ?_⟩
  have : Builtin.Int.intBits i ≤ b := by
    unfold Builtin.Int.intBits
    by_cases z : i = 0
    · simp [z]
    · have hz : (i == 0) = false := by simpa using z
      rw [hz]
      have := (Nat.log2_lt (by omega : i.natAbs ≠ 0)).mpr h
      simp only [Bool.false_eq_true, if_false]
      omega
  have k : (Builtin.Int.intBits i : Int) * j ≤ (b : Int) * j := Int.mul_le_mul_of_nonneg_right (by omega) h0
  have : (100000000 : Int) ≤ 2 ^ 27 := by decide
  omega
end Ev
namespace Ev
open PySem
section
variable {st : Stt} {l k : Nat} {xs : List D} {o : Ob} {r : Stt}
theorem stLst_lt (h : stLst st l = some xs) : l < st.length := by
  unfold stLst at h
  split at h
  · rename_i e; exact (List.getElem?_eq_some_iff.mp e).1
  · cases h
theorem stLst_same (h : l < st.length) : stLst (st.set l (.lst xs)) l = some xs := by
  unfold stLst; rw [List.getElem?_set_self h]
theorem dicOf_ne (h : l ≠ k) : dicOf (st.set l o) k = dicOf st k := by
  unfold dicOf; rw [List.getElem?_set_ne h]
theorem stLst_ne (h : l ≠ k) : stLst (st.set l o) k = stLst st k := by
  unfold stLst; rw [List.getElem?_set_ne h]
theorem stLst_app (h : k < st.length) : stLst (st ++ r) k = stLst st k := by
  unfold stLst; rw [List.getElem?_append_left h]
theorem stLst_last : stLst (st ++ [.lst xs]) st.length = some xs := by
  unfold stLst; simp
theorem stLst_of (h : r[k]? = st[k]?) : stLst r k = stLst st k := by unfold stLst; rw [h]
/-- nothing that was there has changed but p -/
noncomputable def Keep (p : Nat) (st s : Stt) : Prop := st.length ≤ s.length ∧ ∀ l, l ≠ p → l < st.length → s[l]? = st[l]?
variable {p : Nat} {s s2 : Stt}
theorem Keep.refl : Keep p st st := ⟨Nat.le_refl _, fun _ _ _ => rfl⟩
theorem Keep.trans (h : Keep p st s) (g : Keep p s s2) : Keep p st s2 := ⟨Nat.le_trans h.1 g.1, fun l n q => (g.2 l n (Nat.lt_of_lt_of_le q h.1)).trans (h.2 l n q)⟩
theorem Keep.set : Keep p st (st.set p o) := ⟨by simp, fun l n _ => by rw [List.getElem?_set_ne (Ne.symm n)]⟩
theorem Keep.app : Keep p st (st ++ r) := ⟨by simp, fun l _ q => by rw [List.getElem?_append_left q]⟩
theorem Keep.lst (h : Keep p st s) (n : l ≠ p) (e : stLst st l = some xs) : stLst s l = some xs := by
  rw [stLst_of (h.2 l n (stLst_lt e))]; exact e
end
section
variable {α : Type} {a b c d e f g : α} {r : List α}
theorem at0 : L2.atI (a :: r) 0 = some a := atI_nat (n := 0) rfl
theorem at1 : L2.atI (a :: b :: r) 1 = some b := atI_nat (n := 1) rfl
theorem at2 : L2.atI (a :: b :: c :: r) 2 = some c := atI_nat (n := 2) rfl
theorem at3 : L2.atI (a :: b :: c :: d :: r) 3 = some d := atI_nat (n := 3) rfl
theorem at4 : L2.atI (a :: b :: c :: d :: e :: r) 4 = some e := atI_nat (n := 4) rfl
theorem at5 : L2.atI (a :: b :: c :: d :: e :: f :: r) 5 = some f := atI_nat (n := 5) rfl
theorem ix50 : L2.ixN 5 0 = some 0 := rfl
theorem ix51 : L2.ixN 5 1 = some 1 := rfl
theorem ix52 : L2.ixN 5 2 = some 2 := rfl
theorem ix53 : L2.ixN 5 3 = some 3 := rfl
theorem ix54 : L2.ixN 5 4 = some 4 := rfl
theorem ix20 : L2.ixN 2 0 = some 0 := rfl
theorem ix21 : L2.ixN 2 1 = some 1 := rfl
end
theorem A_inj {x y : D} : (A.d x = A.d y) = (x = y) := by simp
theorem loc_inj {x y : Nat} : (D.loc x = D.loc y) = (x = y) := by simp
theorem int_inj {x y : Int} : (D.int x = D.int y) = (x = y) := by simp
theorem mem_wp {xs : List D} {i : Int} {st : Stt} {Q : A → Stt → Prop} {E : Str → List D → Stt → Prop} (h0 : 0 ≤ i) (h1 : i < xs.length) (h : ∀ x ∈ xs, Q (.d x) st) : Wp (ofO ((L2.atI xs i).map .d) st) Q E := by
  obtain ⟨x, e, m⟩ := atI_mem h0 h1
  rw [e]
  exact h x m
end Ev
namespace Ev
open PySem
section
variable {st : Stt} {xs ys : List D} {i : Int} {QA : A → Stt → Prop} {E : Str → List D → Stt → Prop}
theorem bin_last : Wp (binA .Add (.d (.loc st.length)) (.l ys) (st ++ [.lst xs])) QA E = (lenOk (xs.length + ys.length) = true ∧ QA (.l (xs ++ ys)) (st ++ [.lst xs])) := bin_locl stLst_last
theorem ix_last : ixA (.d (.loc st.length)) (.d (.int i)) (st ++ [.lst xs]) = (L2.atI xs i).map .d := ix_loc stLst_last
theorem fm_pos {p : Int} (h : 0 < p) : 0 ≤ i.fmod p ∧ i.fmod p < p := ⟨Int.fmod_nonneg_of_pos i h, Int.fmod_lt_of_pos i h⟩
end
end Ev
namespace Ev
open PySem
section
variable {st : Stt} {l k : Nat} {xs : List D} {i : Int} {o : Ob}
theorem ix_set (h : l < st.length) : ixA (.d (.loc l)) (.d (.int i)) (st.set l (.lst xs)) = (L2.atI xs i).map .d := ix_loc (stLst_same h)
theorem ix_ne (h : l ≠ k) : ixA (.d (.loc k)) (.d (.int i)) (st.set l o) = ixA (.d (.loc k)) (.d (.int i)) st := by
  simp only [ixA, seqOf, tupOf, lstOf, stLst_ne h, dicOf_ne h]
end
end Ev
namespace Ev
open PySem
theorem bi_len_str {st : Stt} {x : Str} : biA "len" [.d (.str x)] st = ofO (if lenOk x.length = true then some (A.d (.int x.length)) else none) st := rfl
end Ev
namespace Ev
open PySem
end Ev
namespace Ev
open PySem
theorem eq_tt {st : Stt} {a b c d : Int} : eqB st (.d (.tup [.int a, .int b])) (.d (.tup [.int c, .int d])) = some (decide (a = c) && decide (b = d)) := by
  have h : eqB st (.d (.tup [.int a, .int b])) (.d (.tup [.int c, .int d])) = if SeqAt.shaped (.tuple [.int a, .int b]) = true ∧ SeqAt.shaped (.tuple [.int c, .int d]) = true then some (PyData.eqv (.tuple [.int a, .int b]) (.tuple [.int c, .int d])) else none := rfl
  rw [h, if_pos ⟨rfl, rfl⟩]
  show some ((a == c) && ((b == d) && true)) = _
  rw [Bool.and_true]
  by_cases e1 : a = c <;> by_cases e2 : b = d <;> simp [e1, e2]
end Ev
namespace Ev
open PySem PySem.Spec PyProof.Rows L2
section
variable {G : Gam} {R : D → Stt → Prop} {Ee : Str → List D → Env → Stt → Prop} {N : Env → Stt → Prop} {e : Env} {st : Stt}
theorem ws_for {tg : Tg} {it : It} {b : Ss} : Ws (evS G (.for tg it b) e st) N R Ee = Wp (evIt G e it st) (fun I s => Ws (forGo I.live tg (fun e st => evSs G b e st) I.xs e s) N R Ee) (fun c fs s => Ee c fs e s) := by
  simp only [evS, ws_then]
theorem for_I {tg : Tg} {body : Env → Stt → Rf} {xs : List D} (I : Nat → Env → Stt → Prop) (h0 : I 0 e st)
    (hs : ∀ i x e st, xs[i]? = some x → I i e st → ∃ e', asgD tg x e = some e' ∧ Ws (body e' st) (I (i + 1)) R Ee) (hf : ∀ e st, I xs.length e st → N e st) : Ws (forGo [] tg body xs e st) N R Ee := by
  refine ws_forGo I xs 0 e st h0 (fun i x e st hx h => ⟨rfl, ?_⟩) (fun e st h => ⟨rfl, ?_⟩)
  · rw [Nat.zero_add] at h ⊢; exact hs i x e st hx h
  · rw [Nat.zero_add] at h; exact hf e st h
theorem live_of {l : Nat} {xs : List D} (h : stLst st l = some xs) : liveOk st [(l, xs)] = true := by
  unfold liveOk
  simp only [List.all_cons, h, sames_refl, List.all_nil, Bool.and_self]
theorem for_L {tg : Tg} {body : Env → Stt → Rf} {l : Nat} {xs : List D} (I : Nat → Env → Stt → Prop) (h0 : I 0 e st) (hl : ∀ i e st, I i e st → stLst st l = some xs)
    (hs : ∀ i x e st, xs[i]? = some x → I i e st → ∃ e', asgD tg x e = some e' ∧ Ws (body e' st) (I (i + 1)) R Ee) (hf : ∀ e st, I xs.length e st → N e st) : Ws (forGo [(l, xs)] tg body xs e st) N R Ee := by
  refine ws_forGo I xs 0 e st h0 (fun i x e st hx h => ?_) (fun e st h => ?_)
  · rw [Nat.zero_add] at h ⊢; exact ⟨live_of (hl _ _ _ h), hs i x e st hx h⟩
  · rw [Nat.zero_add] at h; exact ⟨live_of (hl _ _ _ h), hf e st h⟩
theorem rngI_len {a : Int} {n : Nat} : (rngI a n).length = n := by simp [rngI]
theorem rngI_at {a : Int} {n i : Nat} {x : D} (h : (rngI a n)[i]? = some x) : i < n ∧ x = .int (a + i) := by
  simp only [rngI, List.getElem?_map, Option.map_eq_some_iff] at h
  obtain ⟨b, hb, rfl⟩ := h
  have hl := (List.getElem?_eq_some_iff.mp hb).1
  rw [List.length_range] at hl
  rw [List.getElem?_range hl] at hb
  cases hb
  exact ⟨hl, rfl⟩
theorem for_R {j : Nat} {body : Env → Stt → Rf} {a : Int} {n : Nat} (I : Nat → Env → Stt → Prop) (h0 : I 0 e st)
    (hs : ∀ i e st, i < n → I i e st → j < e.length ∧ Ws (body (e.set j (some (.int (a + (i : Int))))) st) (I (i + 1)) R Ee) (hf : ∀ e st, I n e st → N e st) : Ws (forGo [] (.nm j) body (rngI a n) e st) N R Ee := by
  refine for_I I h0 (fun i x e st hx h => ?_) (fun e st h => hf e st (by rw [rngI_len] at h; exact h))
  obtain ⟨hi, rfl⟩ := rngI_at hx
  obtain ⟨h1, h2⟩ := hs i e st hi h
  exact ⟨_, by simp only [asgD, h1, if_true], h2⟩
end
section
variable {st : Stt} {step : D → Stt → Rs (Option D)} {live : List (Nat × List D)} {Q : List D → Stt → Prop} {E : Str → List D → Stt → Prop}
/-- .. that change nothing, of whatever is walked -/
theorem lc_mapL {xs : List D} {f : D → D} (hl : liveOk st live = true) (h : ∀ x ∈ xs, step x st = .ok (some (f x)) st) : lcGo live step xs st = .ok (xs.map f) st := by
  induction xs with
  | nil => simp [lcGo, hl]
  | cons x r ih =>
    have h1 := h x (by simp)
    have h2 := ih fun y hy => h y (by simp [hy])
    simp only [lcGo, hl, if_true, h1, h2, List.map_cons]
theorem lc_mp {xs : List D} {f : D → D} (h : ∀ x ∈ xs, step x st = .ok (some (f x)) st) : lcGo [] step xs st = .ok (xs.map f) st := lc_mapL rfl h
theorem lc_mpf {xs : List D} {f : D → Option D} (hl : liveOk st live = true) (h : ∀ x ∈ xs, step x st = .ok (f x) st) : lcGo live step xs st = .ok (xs.filterMap f) st := by
  induction xs with
  | nil => simp [lcGo, hl]
  | cons x r ih =>
    have h1 := h x (by simp)
    have h2 := ih fun y hy => h y (by simp [hy])
    simp only [lcGo, hl, if_true, h1, h2]
    cases e : f x <;> simp [List.filterMap_cons, e]
theorem bools_map {α : Type} {xs : List α} {f : α → Bool} : boolsOf (xs.map fun x => .bl (f x)) = some (xs.map f) := by
  induction xs with
  | nil => rfl
  | cons x r ih => simp [boolsOf, ih]
theorem ints_map {α : Type} {ls : List α} {f : α → Int} : intsOf (ls.map fun x => .int (f x)) = some (ls.map f) := by
  induction ls with
  | nil => rfl
  | cons x r ih => simp [intsOf, ih]
end
section
variable {st s s2 : Stt} {p l k : Nat} {xs : List D} {o : Ob} {r : Stt}
theorem ixl {i : Int} : ixA (.d (.loc l)) (.d (.int i)) st = (match stLst st l with
    | some xs => (atI xs i).map .d
    | none => (dicOf st l).bind fun kvs => (dget kvs (.inl i)).map .d) := by
  simp only [ixA, seqOf, tupOf, lstOf]
  all_goals (first | rfl | (cases stLst st l <;> rfl))
theorem trl : truA (.d (.loc l)) st = match stLst st l with
    | some xs => .ok (!xs.isEmpty) st
    | none => .bad := by
  unfold truA
  simp only [lstOf]
  all_goals (first | rfl | (cases stLst st l <;> rfl))
theorem lenl : biA "len" [.d (.loc l)] st = ofO ((stLst st l).map fun xs => A.d (.int xs.length)) st := rfl
theorem tuplel : biA "tuple" [.d (.loc l)] st = ofO ((stLst st l).map fun xs => A.d (.tup xs)) st := rfl
theorem listl : biA "list" [.d (.loc l)] st = ofO ((stLst st l).map .l) st := rfl
theorem alll : biA "all" [.d (.loc l)] st = ofO ((stLst st l).bind fun xs => (boolsOf xs).map fun bs => A.d (.bl (bs.all id))) st := rfl
theorem suml : biA "sum" [.d (.loc l)] st = ofO ((stLst st l).bind fun xs => (intsOf xs).map fun bs => A.d (.int bs.sum)) st := rfl
theorem srcl : srcA st (.d (.loc l)) = (stLst st l).map fun xs => ⟨xs, [(l, xs)]⟩ := rfl
theorem seql : seqOf st (.d (.loc l)) = stLst st l := rfl
theorem slt {xs : List D} {lo hi : Option Int} : slA (.d (.tup xs)) lo hi st = some (.d (.tup (cutD xs lo hi))) := rfl
theorem sll {lo hi : Option Int} : slA (.d (.loc l)) lo hi st = (stLst st l).map fun xs => .l (cutD xs lo hi) := rfl
theorem slL {lo hi : Option Int} : slA (.l xs) lo hi st = some (.l (cutD xs lo hi)) := rfl
theorem mt_app {y : D} : mtA "append" (.d (.loc l)) [.d y] st = match stLst st l with
    | some xs => if lenOk xs.length then .ok (.d .non) (st.set l (.lst (xs ++ [y]))) else .bad
    | none => .bad := rfl
theorem rcv_app : rcv "append" (.d (.loc l)) st = (stLst st l).isSome := by
  have : mtab.lookup ("append" : Str) = some ("list", "list.append") := by decide +kernel
  simp only [rcv, this]
  rfl
end
noncomputable def Gam.gcs (G : Gam) (t : List (Str × Int)) : Gam := { G with gc := fun x => (t.lookup x).map D.int }
theorem GOk.gcs {P : Program} {w : World} {K : PySem.W.Frag} {mg : Str → Option Value} {base : Heap} {k : Nat} {G : Gam} (gx : GOk P w K mg base k G) {t : List (Str × Int)} (h : AllL (fun p => ∃ t', mg p.1 = some (.int p.2 t')) t) : GOk P w K mg base k (G.gcs t) where
  hf := gx.hf
  fn := gx.fn
  gc := fun x d q => by
    have q : (t.lookup x).map D.int = some d := q
    simp only [Option.map_eq_some_iff] at q
    obtain ⟨i, h1, rfl⟩ := q
    obtain ⟨t', h2⟩ := h.mem _ (PySem.mem_of_lookup h1)
    exact ⟨_, .int i, h2, ⟨_, rfl⟩, fun H ρ => .int i⟩
  bt := gx.bt
  xc := gx.xc
  xr := gx.xr
  ist := gx.ist
  cl := gx.cl
  sub := gx.sub
  sm := gx.sm
theorem ev_gc {G : Gam} {env : Env} {st : Stt} {x : Str} {d : D} (h : G.gc x = some d) : evA G env (.g x) st = .ok (.d d) st := by
  simp only [evA, h]
end Ev
namespace Ev
open PySem PySem.Spec PyProof.Rows L2
section
variable {G : Gam} {R : D → Stt → Prop} {Ee : Str → List D → Env → Stt → Prop} {N : Env → Stt → Prop} {e : Env} {st : Stt} {E : Str → List D → Stt → Prop}
/-- one statement; what stands behind it is K -/
theorem ws_next {s : Sx} {r : Ss} (h : ∀ K : Env → Stt → Prop, (∀ e s, Ws (evSs G r e s) N R Ee → K e s) → Ws (evS G s e st) K R Ee) : Ws (evSs G (.cons s r) e st) N R Ee := by
  rw [ws_cons]
  exact h _ fun _ _ h => h
theorem evF_i {m n : Nat} {b : Ss} {xs : List D} (h : xs.length = m) (hw : Ws (evSs G b (xs.map some ++ List.replicate (n - xs.length) none) st) (fun _ s => R .non s) R (fun c fs _ s => E c fs s)) : Wp (evF G m n b xs st) R E := by
  rw [wp_evF h]; exact hw
end
theorem powB10 {j : Int} (h0 : 0 ≤ j) (h1 : j ≤ 100000) : powB 10 j = True := eq_true (pow_ok (b := 64) (by decide) h0 (by omega))
theorem divB_lit {j : Int} (h0 : (j = 0) = False) (h1 : j < 2 ^ 250) (h2 : -(2 ^ 250) < j) : divB j = True := eq_true (divB_of (b := 250) (by intro h; rw [h0] at h; exact h) (by omega) (by decide))
theorem mulB_lit {i j : Int} (h1 : i < 2 ^ 250) (h2 : -(2 ^ 250) < i) (h3 : j < 2 ^ 250) (h4 : -(2 ^ 250) < j) : mulB i j = True := eq_true (mulB_of (a := 250) (b := 250) (by omega) (by omega) (by decide))
/-- nothing that was there has changed but the places T -/
noncomputable def Kp (T : List Nat) (st s : Stt) : Prop := st.length ≤ s.length ∧ ∀ l, l ∉ T → l < st.length → s[l]? = st[l]?
section
variable {T T' : List Nat} {st s s2 r : Stt} {l p : Nat} {o : Ob} {xs : List D}
theorem Kp.refl : Kp T st st := ⟨Nat.le_refl _, fun _ _ _ => rfl⟩
theorem Kp.trans (h : Kp T st s) (g : Kp T s s2) : Kp T st s2 := ⟨Nat.le_trans h.1 g.1, fun l n q => (g.2 l n (Nat.lt_of_lt_of_le q h.1)).trans (h.2 l n q)⟩
theorem Kp.set (h : l ∈ T) : Kp T st (st.set l o) := ⟨by simp, fun k n _ => by rw [List.getElem?_set_ne]; rintro rfl; exact n h⟩
theorem Kp.app : Kp T st (st ++ r) := ⟨by simp, fun l _ q => by rw [List.getElem?_append_left q]⟩
theorem Kp.lst (h : Kp T st s) (n : l ∉ T) (e : stLst st l = some xs) : stLst s l = some xs := by
  rw [stLst_of (h.2 l n (stLst_lt e))]; exact e
theorem Kp.mono (h : Kp T st s) (k : ∀ l ∈ T, l ∈ T' ∨ st.length ≤ l) : Kp T' st s := ⟨h.1, fun l n q => h.2 l (fun m => (k l m).elim n fun z => by omega) q⟩
theorem Keep.kp (h : Keep p st s) (m : p ∈ T) : Kp T st s := ⟨h.1, fun l n q => h.2 l (fun e => n (e ▸ m)) q⟩
theorem Keep.kp1 (h : Keep p st s) : Kp [p] st s := h.kp (by simp)
theorem Kp.len (h : Kp T st s) : st.length ≤ s.length := h.1
end
inductive Okd (T : List Nat) (m : Nat) (st : Stt) : D → Prop
  | non : Okd T m st .non
  | bl (b : Bool) : Okd T m st (.bl b)
  | int (i : Int) : Okd T m st (.int i)
  | str {x : Str} : x.length ≤ 1000000 → Okd T m st (.str x)
  | tup {xs : List D} : xs.length ≤ m → (∀ x ∈ xs, Okd T m st x) → Okd T m st (.tup xs)
  | loc {l : Nat} {xs : List D} : l ∉ T → stLst st l = some xs → Okd T m st (.loc l)
  | dic {l : Nat} {kvs : List (L2.Key × D)} : l ∉ T → st[l]? = some (.dic kvs) → Okd T m st (.loc l)
section
variable {p T' : List Nat} {m n : Nat} {st s : Stt} {d : D} {G : Gam}
theorem Okd.mono (h : Okd p m st d) (k : Kp p st s) : Okd p m s d := by
  induction h with
  | non => exact .non
  | bl b => exact .bl b
  | int i => exact .int i
  | str h => exact .str h
  | tup h1 _ ih => exact .tup h1 ih
  | loc h1 h2 => exact .loc h1 (k.lst h1 h2)
  | dic h1 h2 => exact .dic h1 ((k.2 _ h1 (List.getElem?_eq_some_iff.mp h2).1).trans h2)
theorem Okd.le (h : Okd p m st d) (k : m ≤ n) : Okd p n st d := by
  induction h with
  | non => exact .non
  | bl b => exact .bl b
  | int i => exact .int i
  | str h => exact .str h
  | tup h1 _ ih => exact .tup (Nat.le_trans h1 k) ih
  | loc h1 h2 => exact .loc h1 h2
  | dic h1 h2 => exact .dic h1 h2
noncomputable def isInt : D → Bool
  | .int _ => true
  | .bl _ => true
  | _ => false
noncomputable def isBl : D → Bool
  | .bl _ => true
  | _ => false
noncomputable def isTpD : D → Bool
  | .tup _ => true
  | _ => false
noncomputable def isStr : D → Bool
  | .str _ => true
  | _ => false
noncomputable def isWhole : D → Bool
  | .int _ => true
  | _ => false
theorem Okd.isi_int (h : Okd p m st d) : isiA G st (.d d) ["int"] = some (isInt d) := by
  cases h with
  | loc h1 h2 => rw [isi_loc h2]; exact isiT_list_int
  | dic h1 h2 => rw [isi_dic h2]; exact isiT_dict_int
  | non => rw [isi_non]; exact isiT_NoneType_int
  | bl b => rw [isi_bl]; exact isiT_bool_int
  | int i => rw [Ev.isi_int]; exact isiT_int_int
  | str h => rw [isi_str]; exact isiT_str_int
  | tup h1 h2 => rw [isi_tup]; exact isiT_tuple_int
theorem Okd.isi_bool (h : Okd p m st d) : isiA G st (.d d) ["bool"] = some (isBl d) := by
  cases h with
  | loc h1 h2 => rw [isi_loc h2]; exact isiT_list_bool
  | dic h1 h2 => rw [isi_dic h2]; exact isiT_dict_bool
  | non => rw [isi_non]; exact isiT_NoneType_bool
  | bl b => rw [isi_bl]; exact isiT_bool_bool
  | int i => rw [Ev.isi_int]; exact isiT_int_bool
  | str h => rw [isi_str]; exact isiT_str_bool
  | tup h1 h2 => rw [isi_tup]; exact isiT_tuple_bool
theorem Okd.isi_tuple (h : Okd p m st d) : isiA G st (.d d) ["tuple"] = some (isTpD d) := by
  cases h with
  | loc h1 h2 => rw [isi_loc h2]; exact isiT_list_tuple
  | dic h1 h2 => rw [isi_dic h2]; exact isiT_dict_tuple
  | non => rw [isi_non]; exact isiT_NoneType_tuple
  | bl b => rw [isi_bl]; exact isiT_bool_tuple
  | int i => rw [Ev.isi_int]; exact isiT_int_tuple
  | str h => rw [isi_str]; exact isiT_str_tuple
  | tup h1 h2 => rw [isi_tup]; exact isiT_tuple_tuple
theorem Okd.isi_str (h : Okd p m st d) : isiA G st (.d d) ["str"] = some (isStr d) := by
  cases h with
  | loc h1 h2 => rw [isi_loc h2]; exact isiT_list_str
  | dic h1 h2 => rw [isi_dic h2]; exact isiT_dict_str
  | non => rw [isi_non]; exact isiT_NoneType_str
  | bl b => rw [isi_bl]; exact isiT_bool_str
  | int i => rw [Ev.isi_int]; exact isiT_int_str
  | str h => rw [Ev.isi_str]; exact isiT_str_str
  | tup h1 h2 => rw [isi_tup]; exact isiT_tuple_str
theorem Okd.tup_in {xs : List D} (h : Okd p m st (.tup xs)) : xs.length ≤ m ∧ ∀ x ∈ xs, Okd p m st x := by
  cases h with
  | tup h1 h2 => exact ⟨h1, h2⟩
theorem isTpD_of (h : isTpD d = true) : ∃ xs, d = .tup xs := by
  cases d <;> simp [isTpD] at h
  exact ⟨_, rfl⟩
theorem isWhole_of (h : isWhole d = true) : ∃ i, d = .int i := by
  cases d <;> simp [isWhole] at h
  exact ⟨_, rfl⟩
theorem isWhole_eq : isWhole d = (isInt d && !isBl d) := by cases d <;> rfl
noncomputable def areWholes (d : D) (n : Int) : Bool := match d with
  | .tup xs => decide ((xs.length : Int) = n) && xs.all isWhole
  | _ => false
/-- whole numbers as data -/
theorem wholes_ints {xs : List D} (h : xs.all isWhole = true) : ∃ ns : List Int, xs = ns.map .int := by
  induction xs with
  | nil => exact ⟨[], rfl⟩
  | cons x r ih =>
    rw [List.all_cons, Bool.and_eq_true] at h
    obtain ⟨i, rfl⟩ := isWhole_of h.1
    obtain ⟨ns, rfl⟩ := ih h.2
    exact ⟨i :: ns, rfl⟩
theorem areWholes_of {d : D} {n : Nat} (h : areWholes d n = true) : ∃ ns : List Int, d = .tup (ns.map .int) ∧ ns.length = n := by
  unfold areWholes at h
  split at h
  · simp only [Bool.and_eq_true, decide_eq_true_eq] at h
    obtain ⟨ns, rfl⟩ := wholes_ints h.2
    refine ⟨ns, rfl, ?_⟩
    have := h.1
    rw [List.length_map] at this
    omega
  · cases h
end
section
variable {G : Gam} {env : Env} {st : Stt} {a b : Ex}
theorem ev_zip : evIt G env (.zip a b) st = (evA G env a st).bind fun x st => (evA G env b st).bind fun y st => match srcA st x, srcA st y with
    | some I, some J => .ok ⟨List.zipWith (fun u w => .tup [u, w]) I.xs J.xs, I.live ++ J.live⟩ st
    | _, _ => .bad := by rw [evIt] <;> rfl
theorem ev_enum : evIt G env (.enum a) st = (evA G env a st).bind fun x st => match srcA st x with
    | some I => .ok ⟨enumI 0 I.xs, I.live⟩ st
    | none => .bad := by rw [evIt] <;> rfl
theorem tupOf_t {xs : List D} : tupOf (.d (.tup xs)) = some xs := rfl
theorem tupOf_l {xs : List D} : tupOf (.l xs) = none := rfl
theorem tupOf_loc {l : Nat} : tupOf (.d (.loc l)) = none := rfl
end
section
variable {G : Gam} {env : Env} {st : Stt} {N : Env → Stt → Prop} {R : D → Stt → Prop} {Ee : Str → List D → Env → Stt → Prop}
theorem ws_raise2 {c : Str} : Ws (evS G (.raise c .nil) env st) N R Ee = (G.xc c = true ∧ Ee c [] env st) := by
  by_cases h : G.xc c = true
  · rw [ws_raise h]; simp [h]
  · rw [evS, if_neg (show ¬ raiB G c .nil = true from h)]
    simp [h, Ws]
theorem ws_raiseR {c : Str} {a : Ex} : Ws (evS G (.raise c (.cons a .nil)) env st) N R Ee = (if G.xr c = true then Wp (evEs G env (.cons a .nil) st) (fun xs s => match xs with | [y] => Ee c [y] env s | _ => False) (fun c' fs s => Ee c' fs env s) else False) := by
  rw [evS, show raiB G c (.cons a .nil) = G.xr c from rfl]
  by_cases h : G.xr c = true
  · rw [if_pos h, if_pos h]
    cases evEs G env (.cons a .nil) st with
    | bad => rfl
    | exc c' fs s => rfl
    | ok xs s =>
      match xs with
      | [] => rfl
      | [y] => rfl
      | _ :: _ :: _ => rfl
  · rw [if_neg h, if_neg h]; rfl
end
section
variable {st : Stt} {l : Nat} {i : Int} {y : D} {zs : List D}
theorem mt_extL : mtA "extend" (.d (.loc l)) [.l zs] st = match stLst st l with
    | some xs => if lenOk (xs.length + zs.length) then .ok (.d .non) (st.set l (.lst (xs ++ zs))) else .bad
    | none => .bad := by
  unfold mtA
  simp only [show ("extend" : Str) ≠ "append" by decide +kernel, show ("extend" : Str) ≠ "pop" by decide +kernel, if_false, if_true, lstM]
  all_goals (first | rfl | (cases stLst st l <;> rfl))
theorem mt_insD : mtA "insert" (.d (.loc l)) [.d (.int i), .d y] st = match stLst st l with
    | some xs => if lenOk xs.length ∧ 0 ≤ i ∧ i < 2 ^ 62 then .ok (.d .non) (st.set l (.lst (xs.take i.toNat ++ [y] ++ xs.drop i.toNat))) else .bad
    | none => .bad := by
  unfold mtA
  simp only [show ("insert" : Str) ≠ "append" by decide +kernel, show ("insert" : Str) ≠ "pop" by decide +kernel, show ("insert" : Str) ≠ "extend" by decide +kernel, if_false, if_true]
  all_goals (first | rfl | (cases stLst st l <;> rfl))
theorem mt_pop0 : mtA "pop" (.d (.loc l)) [] st = match stLst st l with
    | some xs => match xs[xs.length - 1]? with
      | some y => .ok (.d y) (st.set l (.lst xs.dropLast))
      | none => .bad
    | none => .bad := by
  unfold mtA
  simp only [show ("pop" : Str) ≠ "append" by decide +kernel, if_false, if_true]
  all_goals (first | rfl | (cases stLst st l <;> rfl))
theorem rcv_ext : rcv "extend" (.d (.loc l)) st = (stLst st l).isSome := by
  have : mtab.lookup ("extend" : Str) = some ("list", "list.extend") := by decide +kernel
  simp only [rcv, this]
  rfl
theorem rcv_ins : rcv "insert" (.d (.loc l)) st = (stLst st l).isSome := by
  have : mtab.lookup ("insert" : Str) = some ("list", "list.insert") := by decide +kernel
  simp only [rcv, this]
  rfl
theorem rcv_pop : rcv "pop" (.d (.loc l)) st = (stLst st l).isSome := by
  have : mtab.lookup ("pop" : Str) = some ("list", "list.pop") := by decide +kernel
  simp only [rcv, this]
  rfl
end
theorem bin_tm {st : Stt} {xs : List D} {k : Int} {QA : A → Stt → Prop} {E : Str → List D → Stt → Prop} : Wp (binA .Mult (.d (.tup xs)) (.d (.int k)) st) QA E = ((lenOk xs.length = true ∧ lenOk (xs.length * k.toNat) = true ∧ -(2 ^ 62) ≤ k ∧ k < 2 ^ 62) ∧ QA (.d (.tup (List.replicate k.toNat xs).flatten)) st) := by
  simp only [binA]
  split <;> rename_i h
  · simp only [Wp]; exact propext ⟨fun q => ⟨h, q⟩, fun q => q.2⟩
  · simp only [Wp]; exact propext ⟨fun q => q.elim, fun q => h q.1⟩
end Ev
namespace Ev
open PySem PySem.Spec PyProof.Rows L2
section
variable {G : Gam} {env : Env} {st : Stt} {QA : A → Stt → Prop} {E : Str → List D → Stt → Prop} {a : Ex}
theorem wp_rglL : Wp (evA G env (.rgl false a .no) st) QA E = Wp (evA G env a st) (fun x st => ∃ i, x = .d (.int i) ∧ rgOk 0 i = true ∧ QA (.l (rngI 0 i.toNat)) st) E := by
  rw [ev_rglL, wp_bind]
  congr 1
  funext x s
  apply propext
  constructor
  · intro h
    split at h
    · rename_i i
      split at h
      · rename_i c; exact ⟨i, rfl, c, h⟩
      · exact h.elim
    · exact h.elim
  · rintro ⟨i, rfl, c, h⟩
    simp only [c, if_true]
    exact h
theorem wp_rglT : Wp (evA G env (.rgl true a .no) st) QA E = Wp (evA G env a st) (fun x st => ∃ i, x = .d (.int i) ∧ rgOk 0 i = true ∧ QA (.d (.tup (rngI 0 i.toNat))) st) E := by
  rw [ev_rglT, wp_bind]
  congr 1
  funext x s
  apply propext
  constructor
  · intro h
    split at h
    · rename_i i
      split at h
      · rename_i c; exact ⟨i, rfl, c, h⟩
      · exact h.elim
    · exact h.elim
  · rintro ⟨i, rfl, c, h⟩
    simp only [c, if_true]
    exact h
end
end Ev
namespace Ev
open PySem PySem.Spec PyProof.Rows L2
section
variable {G : Gam} {env : Env} {st : Stt} {f : Str} {js : List Nat} {lb a : Ex} {es : Es} {cs : List D} {y : D}
theorem ev_ring : evA G env (.ring a) st = (evA G env a st).bind fun x st => ringK G x st := by rw [evA] <;> rfl
theorem ev_maxd {d : Int} : evA G env (.maxd a d) st = (evA G env a st).bind fun x st => ofO ((lstOf st x).bind fun xs => (intsOf xs).map fun is => .d (.int ((maxI is).getD d))) st := by rw [evA] <;> rfl
theorem ev_srtk {rg : Bool} : evA G env (.srtk rg js lb a) st = (evA G env a st).bind fun x st => match capsOf0 env js, srtI rg x st with
    | some cs, some xs => (keysGo (fun y st => keyI (evA G (some y :: cs.map some) lb st)) xs st).bind fun ks st => .ok (.l (srtBy ks xs)) st
    | _, _ => .bad := by
  rw [evA] <;> rfl
theorem keys_map {key : D → Stt → Rs Int} {f : D → Int} {st : Stt} : ∀ {xs : List D}, (∀ x ∈ xs, key x st = .ok (f x) st) → keysGo key xs st = .ok (xs.map f) st
  | [], _ => rfl
  | x :: r, h => by
    have ih := keys_map (f := f) fun y hy => h y (List.mem_cons_of_mem x hy)
    simp only [keysGo, h x (by simp), ih, List.map_cons]
theorem key_int {r : Rs A} {i : Int} {st : Stt} (h : r = .ok (.d (.int i)) st) : keyI r = .ok i st := by rw [h]; rfl
end
end Ev
namespace Ev
open PySem PySem.Spec PyProof.Rows L2
end Ev
open PySem Ev in
local macro_rules | `(tactic| walk_at $s:str) => do
  let ns := s.getString.splitOn " "
  let hd := ns.headD ""
  if hd != "ev" && hd != "nx" && hd != "e" && hd != "nxp" && hd != "ep" && hd != "oka" then Lean.Macro.throwUnsupported
  let star := ns.contains "*"
  let ids : Array (Lean.TSyntax `Lean.Parser.Tactic.simpLemma) ← ((ns.drop 1).filter (fun n => n != "*" && n != "")).toArray.mapM fun n => `(Lean.Parser.Tactic.simpLemma| $(Lean.mkIdent n.toName):ident)
  let b0 : Array Lean.Name := #[`Ev.ev_maxd, `Ev.ev_ring, `Ev.ws_raiseR, `Ev.bin_tm, `Ev.ev_rev, `Ev.ev_dic1, `Ev.eq_te, `Ev.mt_extL, `Ev.mt_insD, `Ev.mt_pop0, `Ev.rcv_ext, `Ev.rcv_ins, `Ev.rcv_pop, `Ev.ws_raise2, `Ev.ev_callv, `Ev.ev_zip, `Ev.ev_enum, `Ev.tupOf_t, `Ev.tupOf_l, `Ev.tupOf_loc, `List.append_nil, `Option.isSome_none, `Option.isNone_some, `Option.isNone_none, `Ev.powB10, `Ev.divB_lit, `Ev.mulB_lit, `Ev.ws_nil, `Ev.ws_asg, `Ev.ws_un, `Ev.ws_st, `Ev.ws_ret, `Ev.ws_ret0, `Ev.ws_ife, `Ev.ws_ex, `Ev.ws_pass, `Ev.wp_tst, `Ev.ev_v, `Ev.ev_c, `Ev.ev_bin, `Ev.ev_neg, `Ev.ev_negg, `Ev.ev_nt, `Ev.ev_and, `Ev.ev_or, `Ev.ev_and1, `Ev.ev_and2, `Ev.ev_or1, `Ev.ev_or2, `Ev.ev_cmp, `Ev.ev_cmp2,
`Ev.ev_cmp3,
`Ev.ev_nset,
`Ev.ev_sset,
`Ev.wp_rglL,
`Ev.wp_rglT,
`Ev.cmp_in,
`Ev.cmp_nin, `Ev.ev_bi, `Ev.ev_mt, `Ev.ev_isi, `Ev.ev_ix, `Ev.ev_sl, `Ev.ev_tup, `Ev.ev_lst, `Ev.ev_dict0, `Ev.ev_dicE, `Ev.ev_ife, `Ev.ev_es0, `Ev.ev_es1, `Ev.ev_as0, `Ev.ev_as1, `Ev.ev_no, `Ev.ev_so, `Ev.part_i, `Ev.evA_lc, `Ev.ev_val, `Ev.src_t, `Ev.src_l, `Ev.wipeE, `Ev.wp_bind, `Ev.wp_ok, `Ev.wp_some, `Ev.wp_ite, `Ev.ws_ite, `Ev.al_d, `Ev.al_l, `Ev.tr_bl, `Ev.tr_non, `Ev.tr_int, `Ev.tr_tup, `Ev.tr_l, `Ev.bin_add, `Ev.bin_sub, `Ev.wp_mul, `Ev.wp_div, `Ev.wp_mod, `Ev.wp_pow, `Ev.bin_tup, `Ev.bin_ll, `Ev.lt_i, `Ev.le_i, `Ev.gt_i, `Ev.ge_i, `Ev.is_nn, `Ev.isn_nn, `Ev.is_bb, `Ev.isn_bb, `Ev.is_tn, `Ev.is_in, `Ev.isn_tn, `Ev.isn_in, `Ev.cmp_eq, `Ev.cmp_ne, `Ev.eq_ii, `Ev.eq_bb, `List.map_cons, `List.map_nil, `List.cons_append, `List.nil_append, `List.length_cons, `List.length_nil, `List.replicate, `Nat.reduceAdd, `Nat.reduceSub, `Nat.reduceLT, `List.getElem?_cons_zero, `List.getElem?_cons_succ, `List.set_cons_zero, `List.set_cons_succ, `true_and, `and_true, `Ev.bi_len_tup, `Ev.bi_len_l, `Ev.bi_all_l, `Ev.bi_any_l, `Ev.bi_sum_l, `Ev.bi_abs, `Ev.bi_int_b, `Ev.bi_int_i, `Ev.bi_max, `Ev.bi_min, `Ev.bi_list_tup, `Ev.bi_tuple_l, `Ev.bi_list_l, `Ev.isi_non, `Ev.isi_bl, `Ev.isi_int, `Ev.isi_str, `Ev.isi_tup, `Ev.isi_l, `Ev.isi_rol, `Ev.isiT_list_int, `Ev.isiT_NoneType_int, `Ev.isiT_bool_int, `Ev.isiT_int_int, `Ev.isiT_str_int, `Ev.isiT_tuple_int, `Ev.isiT_dict_int, `Ev.isiT_list_bool, `Ev.isiT_NoneType_bool, `Ev.isiT_bool_bool, `Ev.isiT_int_bool, `Ev.isiT_str_bool, `Ev.isiT_tuple_bool, `Ev.isiT_dict_bool, `Ev.isiT_list_tuple, `Ev.isiT_NoneType_tuple, `Ev.isiT_bool_tuple, `Ev.isiT_int_tuple, `Ev.isiT_str_tuple, `Ev.isiT_tuple_tuple, `Ev.isiT_dict_tuple, `Ev.isiT_list_list, `Ev.isiT_NoneType_list, `Ev.isiT_bool_list, `Ev.isiT_int_list, `Ev.isiT_str_list, `Ev.isiT_tuple_list, `Ev.isiT_dict_list, `Ev.isiT_list_str, `Ev.isiT_NoneType_str, `Ev.isiT_bool_str, `Ev.isiT_int_str, `Ev.isiT_str_str, `Ev.isiT_tuple_str, `Ev.isiT_dict_str, `Option.map_some, `Bool.not_true, `Bool.not_false, `if_true, `if_false, `Bool.false_eq_true, `decide_eq_true_eq, `Bool.not_eq_true', `decide_eq_false_iff_not, `Ev.asg_nm, `Ev.asg_tup, `Ev.asgs_nil, `Ev.asgs_cons, `Ev.some_bindO, `Ev.if_no, `Ev.if_so, `Ev.lcStep, `Ev.evE, `Ev.wp_exc, `Ev.ws_exc, `Ev.eq_tt, `Ev.ws_try, `Ev.isi_exn, `Ev.bi_len_str, `Ev.bi_str, `Ev.ix_set, `Ev.ix_ne, `Ev.stLst_same, `List.set_set, `List.length_set, `Int.reduceEq, `Int.reduceLT, `Int.reduceLE, `Int.reduceMul, `Int.reduceAdd, `Int.reduceSub, `Int.reduceNeg, `Int.reduceToNat, `Int.reducePow, `Int.reduceFMod, `Int.reduceFDiv, `Ev.bin_last, `Ev.ix_last, `reduceCtorEq, `not_true_eq_false, `not_false_eq_true, `Int.cast_ofNat_Int, `Bool.true_eq_false, `Ev.at0, `Ev.at1, `Ev.at2, `Ev.at3, `Ev.at4, `Ev.at5, `Ev.ix50, `Ev.ix51, `Ev.ix52, `Ev.ix53, `Ev.ix54, `Ev.ix20, `Ev.ix21, `Ev.A_inj, `Ev.loc_inj, `Ev.int_inj, `Ev.lenOk, `Nat.reduceLeDiff, `decide_true, `Option.some.injEq, `exists_eq_left', `exists_eq_left, `exists_and_left, `ne_eq, `Ev.seqOf, `Ev.tupOf, `Ev.ix_tup, `Ev.ix_l, `Ev.ws_for, `Ev.ev_rng, `Ev.ev_rng2, `Ev.ixl, `Ev.trl, `Ev.lenl, `Ev.tuplel, `Ev.listl, `Ev.alll, `Ev.suml, `Ev.srcl, `Ev.seql, `Ev.slt, `Ev.sll, `Ev.slL, `Ev.mt_app, `Ev.rcv_app, `Option.isSome_some, `Option.bind_some, `Ev.stLst_last]
  let bs : Array (Lean.TSyntax `Lean.Parser.Tactic.simpLemma) ← (if hd == "ev" then b0.push `Ev.ws_cons else b0).mapM fun n => `(Lean.Parser.Tactic.simpLemma| $(Lean.mkIdent n):ident)
  let al := bs ++ ids
  let K := Lean.mkIdent `KK
  let h := Lean.mkIdent `hK
  if hd == "oka" then
    let o1 := Lean.mkIdent `Ev.oka_non
    let o2 := Lean.mkIdent `Ev.oka_bl
    let o3 := Lean.mkIdent `Ev.oka_nil
    let t1 := Lean.mkIdent `Ev.OkA.t1
    let t2 := Lean.mkIdent `Ev.OkA.t2
    let t3 := Lean.mkIdent `Ev.OkA.t3
    let t4 := Lean.mkIdent `Ev.OkA.t4
    let t5 := Lean.mkIdent `Ev.OkA.t5
    let t6 := Lean.mkIdent `Ev.OkA.t6
    let mut t ← `(tactic| first | assumption | exact $o1 | exact $o2 | exact $o3 | exact List.forall_mem_nil _ | refine List.forall_mem_cons.mpr (And.intro ?_ ?_) | refine $t1 (by decide) ?_ | refine $t2 (by decide) ?_ ?_ | refine $t3 (by decide) ?_ ?_ ?_ | refine $t4 (by decide) ?_ ?_ ?_ ?_ | refine $t5 (by decide) ?_ ?_ ?_ ?_ ?_ | refine $t6 (by decide) ?_ ?_ ?_ ?_ ?_ ?_)
    for n in (ns.drop 1).filter (fun n => n != "") do
      let i := Lean.mkIdent n.toName
      t ← `(tactic| first | exact $i _ _ | $t:tactic)
    `(tactic| repeat' ($t:tactic))
  else if hd == "ep" then
    `(tactic| ((try simp -implicitDefEqProofs only [$al,*]); (try refine $h:ident _ _ ?_)))
  else if hd == "nxp" then
    `(tactic| ((refine Ev.ws_next ?_); (intro $K:ident $h:ident); (try simp -implicitDefEqProofs only [$al,*]); (try refine $h:ident _ _ ?_)))
  else if hd == "ev" then
    if star then `(tactic| simp only [$al,*, *]) else `(tactic| simp only [$al,*])
  else if hd == "e" then
    if star then `(tactic| ((try simp only [$al,*, *]); (try refine $h:ident _ _ ?_))) else `(tactic| ((try simp only [$al,*]); (try refine $h:ident _ _ ?_)))
  else
    if star then `(tactic| ((refine Ev.ws_next ?_); (intro $K:ident $h:ident); (try simp only [$al,*, *]); (try refine $h:ident _ _ ?_))) else `(tactic| ((refine Ev.ws_next ?_); (intro $K:ident $h:ident); (try simp only [$al,*]); (try refine $h:ident _ _ ?_)))
namespace K74
open PySem Ev
noncomputable def G0 : Gam := Gam.gcs {} [("MOST_NUMBER", 1000000), ("MOST_HOUSES", 8), ("MOST_TIES", 20)]
noncomputable def l_law_take_0at2 : Ss := .cons (.ret (.v 2)) .nil
noncomputable def l_law_take_0at1 : Ss := .cons (.st (.v 0) (.c (.int (0))) (.bin .FloorDiv (.ix (.v 0) (.c (.int (0)))) (.v 1))) l_law_take_0at2
noncomputable def l_law_take_0a : Ss := .cons (.asg (.nm 2) (.bin .Mod (.ix (.v 0) (.c (.int (0)))) (.v 1))) l_law_take_0at1
noncomputable def r_law_take_4 : Ss := .cons (.ret (.bin .Mod (.bin .Add (.bin .FloorDiv (.v 3) (.c (.int (4)))) (.bin .Mult (.c (.int (536870909))) (.bin .FloorDiv (.v 4) (.c (.int (4)))))) (.v 1))) .nil
noncomputable def r_law_take_3 : Ss := .cons (.asg (.nm 4) (.bin .Mod (.bin .Pow (.bin .Add (.bin .Add (.bin .FloorDiv (.v 3) (.c (.int (8)))) (.bin .Mult (.bin .Mult (.c (.int (7919))) (.ix (.v 0) (.c (.int (2))))) (.ix (.v 0) (.c (.int (2)))))) (.c (.int (3)))) (.c (.int (3)))) (.c (.int (2147483587))))) r_law_take_4
noncomputable def r_law_take_2 : Ss := .cons (.asg (.nm 3) (.bin .Mod (.bin .Pow (.bin .Add (.bin .Add (.ix (.v 0) (.c (.int (1)))) (.bin .Mult (.c (.int (104729))) (.ix (.v 0) (.c (.int (2)))))) (.c (.int (11)))) (.c (.int (5)))) (.c (.int (2147483647))))) r_law_take_3
noncomputable def r_law_take_1 : Ss := .cons (.st (.v 0) (.c (.int (2))) (.bin .Add (.ix (.v 0) (.c (.int (2)))) (.c (.int (1))))) r_law_take_2
noncomputable def b_law_take : Ss := .cons (.ife (.cmp (.ix (.v 0) (.c (.int (0)))) .Gt (.c (.int (0)))) l_law_take_0a .nil) r_law_take_1
noncomputable def F_law_take : List D → M D := evF G0 2 5 b_law_take
noncomputable def G1 : Gam := G0.add "_law_take" F_law_take
noncomputable def r_law_line_2 : Ss := .cons (.ret (.tup (.cons (.v 2) (.cons (.v 3) .nil)))) .nil
noncomputable def r_law_line_1 : Ss := .cons (.asg (.nm 3) (.ix (.lst (.cons (.bin .Add (.c (.int (1))) (.call "_law_take" (.cons (.v 0) (.cons (.c (.int (4))) .nil)))) (.cons (.c (.int (1))) (.cons (.bin .Add (.c (.int (1))) (.call "_law_take" (.cons (.v 0) (.cons (.c (.int (20))) .nil)))) (.cons (.bin .Sub (.c (.int (1000000))) (.call "_law_take" (.cons (.v 0) (.cons (.c (.int (3))) .nil)))) .nil))))) (.call "_law_take" (.cons (.v 0) (.cons (.c (.int (4))) .nil))))) r_law_line_2
noncomputable def b_law_line : Ss := .cons (.asg (.nm 2) (.ix (.lst (.cons (.bin .Sub (.call "_law_take" (.cons (.v 0) (.cons (.c (.int (7))) .nil))) (.c (.int (3)))) (.cons (.c (.int (5))) (.cons (.bin .Sub (.call "_law_take" (.cons (.v 0) (.cons (.c (.int (41))) .nil))) (.c (.int (20)))) (.cons (.bin .Sub (.call "_law_take" (.cons (.v 0) (.cons (.c (.int (2000001))) .nil))) (.c (.int (1000000)))) .nil))))) (.v 1))) r_law_line_1
noncomputable def F_law_line : List D → M D := evF G1 2 4 b_law_line
noncomputable def G2 : Gam := G1.add "_law_line" F_law_line
theorem g1_law_take : G1.fn "_law_take" = some F_law_take := by kernel_rfl!
theorem c1_law_take {env : Ev.Env} {es : Es} {st : Stt} : evA G1 env (.call "_law_take" es) st = (evEs G1 env es st).bind fun xs st => (F_law_take xs st).bind fun y st => .ok (.d y) st := ev_call g1_law_take
noncomputable def l_law_net_4t5 : Ss := .cons (.ife (.and (.cons (.cmp (.call "_law_take" (.cons (.v 0) (.cons (.c (.int (8))) .nil))) .Eq (.c (.int (0)))) (.cons (.cmp (.v 7) .Gt (.c (.int (0)))) .nil))) (.cons (.st (.v 6) (.neg (.c (.int (1)))) (.ix (.v 6) (.call "_law_take" (.cons (.v 0) (.cons (.v 7) .nil))))) .nil) .nil) .nil
noncomputable def l_law_net_4t4 : Ss := .cons (.ex (.mt "append" (.v 6) (.cons (.bin .Add (.tup (.cons (.bi "min" (.cons (.v 8) (.cons (.v 9) .nil))) (.cons (.bi "max" (.cons (.v 8) (.cons (.v 9) .nil))) .nil))) (.call "_law_line" (.cons (.v 0) (.cons (.v 4) .nil)))) .nil))) l_law_net_4t5
noncomputable def l_law_net_4t3 : Ss := .cons (.ife (.cmp (.v 3) .Eq (.c (.int (2)))) (.cons (.asg (.tup (.cons (.nm 8) (.cons (.nm 9) .nil))) (.tup (.cons (.c (.int (0))) (.cons (.bin .Add (.c (.int (1))) (.bin .Mod (.v 7) (.bin .Sub (.v 5) (.c (.int (1)))))) .nil)))) .nil) .nil) l_law_net_4t4
noncomputable def l_law_net_4t2 : Ss := .cons (.ife (.and (.cons (.cmp (.v 3) .Eq (.c (.int (1)))) (.cons (.cmp (.v 7) .Lt (.bin .Sub (.v 5) (.c (.int (1))))) .nil))) (.cons (.asg (.tup (.cons (.nm 8) (.cons (.nm 9) .nil))) (.tup (.cons (.v 7) (.cons (.bin .Add (.v 7) (.c (.int (1)))) .nil)))) .nil) .nil) l_law_net_4t3
noncomputable def l_law_net_4t1 : Ss := .cons (.asg (.nm 9) (.bin .Mod (.bin .Add (.bin .Add (.v 8) (.c (.int (1)))) (.call "_law_take" (.cons (.v 0) (.cons (.bin .Sub (.v 5) (.c (.int (1)))) .nil)))) (.v 5))) l_law_net_4t2
noncomputable def l_law_net_4 : Ss := .cons (.asg (.nm 8) (.call "_law_take" (.cons (.v 0) (.cons (.v 5) .nil)))) l_law_net_4t1
noncomputable def r_law_net_5 : Ss := .cons (.ret (.tup (.cons (.v 5) (.cons (.bi "tuple" (.cons (.v 6) .nil)) .nil)))) .nil
noncomputable def r_law_net_4 : Ss := .cons (.for (.nm 7) (.rng (.bin .Mult (.ix (.lst (.cons (.call "_law_take" (.cons (.v 0) (.cons (.bin .Add (.v 2) (.c (.int (1)))) .nil))) (.cons (.v 2) .nil))) (.call "_law_take" (.cons (.v 0) (.cons (.c (.int (2))) .nil)))) (.bi "int" (.cons (.cmp (.v 5) .Gt (.c (.int (1)))) .nil)))) l_law_net_4) r_law_net_5
noncomputable def r_law_net_3 : Ss := .cons (.asg (.nm 6) (.lst .nil)) r_law_net_4
noncomputable def r_law_net_2 : Ss := .cons (.asg (.nm 5) (.ix (.lst (.cons (.bin .Add (.c (.int (1))) (.call "_law_take" (.cons (.v 0) (.cons (.v 1) .nil)))) (.cons (.v 1) .nil))) (.call "_law_take" (.cons (.v 0) (.cons (.c (.int (2))) .nil))))) r_law_net_3
noncomputable def r_law_net_1 : Ss := .cons (.asg (.nm 4) (.call "_law_take" (.cons (.v 0) (.cons (.c (.int (4))) .nil)))) r_law_net_2
noncomputable def b_law_net : Ss := .cons (.asg (.nm 3) (.call "_law_take" (.cons (.v 0) (.cons (.c (.int (4))) .nil)))) r_law_net_1
noncomputable def F_law_net : List D → M D := evF G2 3 10 b_law_net
noncomputable def G3 : Gam := G2.add "_law_net" F_law_net
theorem g2_law_take : G2.fn "_law_take" = some F_law_take := by kernel_rfl!
theorem c2_law_take {env : Ev.Env} {es : Es} {st : Stt} : evA G2 env (.call "_law_take" es) st = (evEs G2 env es st).bind fun xs st => (F_law_take xs st).bind fun y st => .ok (.d y) st := ev_call g2_law_take
theorem g2_law_line : G2.fn "_law_line" = some F_law_line := by kernel_rfl!
theorem c2_law_line {env : Ev.Env} {es : Es} {st : Stt} : evA G2 env (.call "_law_line" es) st = (evEs G2 env es st).bind fun xs st => (F_law_line xs st).bind fun y st => .ok (.d y) st := ev_call g2_law_line
noncomputable def r_law_pot_2 : Ss := .cons (.ret (.lst (.cons (.bi "max" (.cons (.c (.int (0))) (.cons (.bin .Sub (.v 2) (.bin .Pow (.c (.int (10))) (.c (.int (18))))) .nil))) (.cons (.bin .Add (.bin .Mod (.v 2) (.c (.int (2147483629)))) (.bin .Mult (.c (.int (9973))) (.v 1))) (.cons (.c (.int (0))) .nil))))) .nil
noncomputable def r_law_pot_1 : Ss := .cons (.ife (.cmp (.v 1) .Lt (.bi "len" (.cons (.v 0) .nil))) (.cons (.asg (.nm 2) (.ix (.v 0) (.v 1))) .nil) .nil) r_law_pot_2
noncomputable def b_law_pot : Ss := .cons (.asg (.nm 2) (.bin .Add (.bin .Mult (.c (.int (7919))) (.v 1)) (.c (.int (31))))) r_law_pot_1
noncomputable def F_law_pot : List D → M D := evF G3 2 3 b_law_pot
noncomputable def G4 : Gam := G3.add "_law_pot" F_law_pot
noncomputable def b_is_whole : Ss := .cons (.ret (.and (.cons (.isi (.v 0) ["int"]) (.cons (.nt (.isi (.v 0) ["bool"])) .nil)))) .nil
noncomputable def F_is_whole : List D → M D := evF G4 1 1 b_is_whole
noncomputable def G5 : Gam := G4.add "is_whole" F_is_whole
noncomputable def r_are_wholes_1 : Ss := .cons (.ret (.bi "all" (.cons (.lc (.call "is_whole" (.cons (.v 3) .nil)) (.nm 3) (.val (.v 0)) .no [2, 3]) .nil))) .nil
noncomputable def b_are_wholes : Ss := .cons (.ife (.or (.cons (.nt (.isi (.v 0) ["tuple"])) (.cons (.cmp (.bi "len" (.cons (.v 0) .nil)) .NotEq (.v 1)) .nil))) (.cons (.ret (.c (.bl false))) .nil) .nil) r_are_wholes_1
noncomputable def F_are_wholes : List D → M D := evF G5 2 4 b_are_wholes
noncomputable def G6 : Gam := G5.add "are_wholes" F_are_wholes
theorem g5_is_whole : G5.fn "is_whole" = some F_is_whole := by kernel_rfl!
theorem c5_is_whole {env : Ev.Env} {es : Es} {st : Stt} : evA G5 env (.call "is_whole" es) st = (evEs G5 env es st).bind fun xs st => (F_is_whole xs st).bind fun y st => .ok (.d y) st := ev_call g5_is_whole
noncomputable def r_is_both_ways_1 : Ss := .cons (.ret (.and (.cons (.cmp (.bi "abs" (.cons (.ix (.v 1) (.c (.int (2)))) .nil)) .LtE (.g "MOST_NUMBER")) (.cons (.cmp (.bi "abs" (.cons (.ix (.v 1) (.c (.int (3)))) .nil)) .LtE (.g "MOST_NUMBER")) .nil)))) .nil
noncomputable def b_is_both_ways : Ss := .cons (.ife (.or (.cons (.nt (.call "are_wholes" (.cons (.v 1) (.cons (.c (.int (4))) .nil)))) (.cons (.nt (.cmp3 (.c (.int (0))) .LtE (.ix (.v 1) (.c (.int (0)))) .Lt (.ix (.v 1) (.c (.int (1)))) .Lt (.v 0))) .nil))) (.cons (.ret (.c (.bl false))) .nil) .nil) r_is_both_ways_1
noncomputable def F_is_both_ways : List D → M D := evF G6 2 2 b_is_both_ways
noncomputable def G7 : Gam := G6.add "is_both_ways" F_is_both_ways
theorem g6_are_wholes : G6.fn "are_wholes" = some F_are_wholes := by kernel_rfl!
theorem c6_are_wholes {env : Ev.Env} {es : Es} {st : Stt} : evA G6 env (.call "are_wholes" es) st = (evEs G6 env es st).bind fun xs st => (F_are_wholes xs st).bind fun y st => .ok (.d y) st := ev_call g6_are_wholes
theorem v6_MOST_NUMBER {env : Ev.Env} {st : Stt} : evA G6 env (.g "MOST_NUMBER") st = .ok (.d (.int (1000000))) st := ev_gc (by kernel_rfl!)
noncomputable def r_is_net_3 : Ss := .cons (.ret (.bi "all" (.cons (.lc (.call "is_both_ways" (.cons (.v 1) (.cons (.v 4) .nil))) (.nm 4) (.val (.v 2)) .no [3, 4]) .nil))) .nil
noncomputable def r_is_net_2 : Ss := .cons (.ife (.or (.cons (.nt (.cmp2 (.c (.int (1))) .LtE (.v 1) .LtE (.g "MOST_HOUSES"))) (.cons (.nt (.isi (.v 2) ["tuple"])) (.cons (.cmp (.bi "len" (.cons (.v 2) .nil)) .Gt (.g "MOST_TIES")) .nil)))) (.cons (.ret (.c (.bl false))) .nil) .nil) r_is_net_3
noncomputable def r_is_net_1 : Ss := .cons (.asg (.tup (.cons (.nm 1) (.cons (.nm 2) .nil))) (.v 0)) r_is_net_2
noncomputable def b_is_net : Ss := .cons (.ife (.or (.cons (.nt (.isi (.v 0) ["tuple"])) (.cons (.cmp (.bi "len" (.cons (.v 0) .nil)) .NotEq (.c (.int (2)))) (.cons (.nt (.call "is_whole" (.cons (.ix (.v 0) (.c (.int (0)))) .nil))) .nil)))) (.cons (.ret (.c (.bl false))) .nil) .nil) r_is_net_1
noncomputable def F_is_net : List D → M D := evF G7 1 5 b_is_net
noncomputable def G8 : Gam := G7.add "is_net" F_is_net
theorem g7_is_whole : G7.fn "is_whole" = some F_is_whole := by kernel_rfl!
theorem c7_is_whole {env : Ev.Env} {es : Es} {st : Stt} : evA G7 env (.call "is_whole" es) st = (evEs G7 env es st).bind fun xs st => (F_is_whole xs st).bind fun y st => .ok (.d y) st := ev_call g7_is_whole
theorem g7_is_both_ways : G7.fn "is_both_ways" = some F_is_both_ways := by kernel_rfl!
theorem c7_is_both_ways {env : Ev.Env} {es : Es} {st : Stt} : evA G7 env (.call "is_both_ways" es) st = (evEs G7 env es st).bind fun xs st => (F_is_both_ways xs st).bind fun y st => .ok (.d y) st := ev_call g7_is_both_ways
theorem v7_MOST_HOUSES {env : Ev.Env} {st : Stt} : evA G7 env (.g "MOST_HOUSES") st = .ok (.d (.int (8))) st := ev_gc (by kernel_rfl!)
theorem v7_MOST_TIES {env : Ev.Env} {st : Stt} : evA G7 env (.g "MOST_TIES") st = .ok (.d (.int (20))) st := ev_gc (by kernel_rfl!)
noncomputable def b_need_net : Ss := .cons (.ife (.nt (.call "is_net" (.cons (.v 0) .nil))) (.cons (.raise "NoNet" .nil) .nil) .nil) .nil
noncomputable def F_need_net : List D → M D := evF G8 1 1 b_need_net
noncomputable def G9 : Gam := G8.add "need_net" F_need_net
theorem g8_is_net : G8.fn "is_net" = some F_is_net := by kernel_rfl!
theorem c8_is_net {env : Ev.Env} {es : Es} {st : Stt} : evA G8 env (.call "is_net" es) st = (evEs G8 env es st).bind fun xs st => (F_is_net xs st).bind fun y st => .ok (.d y) st := ev_call g8_is_net
noncomputable def b_need_shares : Ss := .cons (.ife (.cmp (.lc (.v 3) (.tup (.cons (.nm 2) (.cons (.nm 3) .nil))) (.val (.v 0)) (.so (.cmp (.v 3) .Lt (.c (.int (1))))) [1, 2, 3]) .NotEq (.lst .nil)) (.cons (.raise "NoShare" .nil) .nil) .nil) .nil
noncomputable def F_need_shares : List D → M D := evF G9 1 4 b_need_shares
noncomputable def G10 : Gam := G9.add "need_shares" F_need_shares
noncomputable def b_tie_lines : Ss := .cons (.ret (.lc (.sl (.v 2) (.so (.c (.int (2)))) .no) (.nm 2) (.val (.v 0)) .no [1, 2])) .nil
noncomputable def F_tie_lines : List D → M D := evF G10 1 3 b_tie_lines
noncomputable def G11 : Gam := G10.add "tie_lines" F_tie_lines
noncomputable def l_divisor_of_0 : Ss := .cons (.asg (.tup (.cons (.nm 0) (.cons (.nm 1) .nil))) (.tup (.cons (.v 1) (.cons (.bin .Mod (.v 0) (.v 1)) .nil)))) .nil
noncomputable def r_divisor_of_1 : Ss := .cons (.ret (.bi "abs" (.cons (.v 0) .nil))) .nil
noncomputable def b_divisor_of : Ss := .cons (.whl (.cmp (.v 1) .NotEq (.c (.int (0)))) l_divisor_of_0) r_divisor_of_1
noncomputable def F_divisor_of : List D → M D := evF G11 2 2 b_divisor_of
noncomputable def G12 : Gam := G11.add "divisor_of" F_divisor_of
noncomputable def b_is_fraction : Ss := .cons (.ret (.and (.cons (.call "are_wholes" (.cons (.v 0) (.cons (.c (.int (2))) .nil))) (.cons (.cmp (.ix (.v 0) (.c (.int (1)))) .Gt (.c (.int (0)))) (.cons (.cmp (.call "divisor_of" (.cons (.ix (.v 0) (.c (.int (0)))) (.cons (.ix (.v 0) (.c (.int (1)))) .nil))) .Eq (.c (.int (1)))) .nil))))) .nil
noncomputable def F_is_fraction : List D → M D := evF G12 1 1 b_is_fraction
noncomputable def G13 : Gam := G12.add "is_fraction" F_is_fraction
theorem g12_are_wholes : G12.fn "are_wholes" = some F_are_wholes := by kernel_rfl!
theorem c12_are_wholes {env : Ev.Env} {es : Es} {st : Stt} : evA G12 env (.call "are_wholes" es) st = (evEs G12 env es st).bind fun xs st => (F_are_wholes xs st).bind fun y st => .ok (.d y) st := ev_call g12_are_wholes
theorem g12_divisor_of : G12.fn "divisor_of" = some F_divisor_of := by kernel_rfl!
theorem c12_divisor_of {env : Ev.Env} {es : Es} {st : Stt} : evA G12 env (.call "divisor_of" es) st = (evEs G12 env es st).bind fun xs st => (F_divisor_of xs st).bind fun y st => .ok (.d y) st := ev_call g12_divisor_of
noncomputable def b_need_price : Ss := .cons (.ife (.nt (.call "is_fraction" (.cons (.v 0) .nil))) (.cons (.raise "NoPrice" .nil) .nil) .nil) .nil
noncomputable def F_need_price : List D → M D := evF G13 1 1 b_need_price
noncomputable def G14 : Gam := G13.add "need_price" F_need_price
theorem g13_is_fraction : G13.fn "is_fraction" = some F_is_fraction := by kernel_rfl!
theorem c13_is_fraction {env : Ev.Env} {es : Es} {st : Stt} : evA G13 env (.call "is_fraction" es) st = (evEs G13 env es st).bind fun xs st => (F_is_fraction xs st).bind fun y st => .ok (.d y) st := ev_call g13_is_fraction
noncomputable def l_grown_2x1at1 : Ss := .cons (.asg (.nm 2) (.lc (.ife (.cmp (.v 8) .Eq (.v 6)) (.v 5) (.v 8)) (.nm 8) (.val (.v 2)) .no [7, 8])) .nil
noncomputable def l_grown_2x1a : Ss := .cons (.ex (.mt "append" (.v 3) (.cons (.v 4) .nil))) l_grown_2x1at1
noncomputable def l_grown_2t1 : Ss := .cons (.ife (.cmp (.v 5) .NotEq (.v 6)) l_grown_2x1a .nil) .nil
noncomputable def l_grown_2 : Ss := .cons (.asg (.tup (.cons (.nm 5) (.cons (.nm 6) .nil))) (.tup (.cons (.ix (.v 2) (.ix (.ix (.ix (.v 0) (.c (.int (1)))) (.v 4)) (.c (.int (0))))) (.cons (.ix (.v 2) (.ix (.ix (.ix (.v 0) (.c (.int (1)))) (.v 4)) (.c (.int (1))))) .nil)))) l_grown_2t1
noncomputable def r_grown_3 : Ss := .cons (.ret (.bi "tuple" (.cons (.bi "sorted" (.cons (.v 3) .nil)) .nil))) .nil
noncomputable def r_grown_2 : Ss := .cons (.for (.nm 4) (.val (.v 1)) l_grown_2) r_grown_3
noncomputable def r_grown_1 : Ss := .cons (.asg (.nm 3) (.lst .nil)) r_grown_2
noncomputable def b_grown : Ss := .cons (.asg (.nm 2) (.rgl false (.ix (.v 0) (.c (.int (0)))) .no)) r_grown_1
noncomputable def F_grown : List D → M D := evF G14 2 9 b_grown
noncomputable def G15 : Gam := G14.add "grown" F_grown
noncomputable def b_cheapest : Ss := .cons (.ret (.call "grown" (.cons (.v 0) (.cons (.srtk true [1] (.ix (.v 1) (.v 0)) (.bi "len" (.cons (.v 1) .nil))) .nil)))) .nil
noncomputable def F_cheapest : List D → M D := evF G15 2 2 b_cheapest
noncomputable def G16 : Gam := G15.add "cheapest" F_cheapest
theorem g15_grown : G15.fn "grown" = some F_grown := by kernel_rfl!
theorem c15_grown {env : Ev.Env} {es : Es} {st : Stt} : evA G15 env (.call "grown" es) st = (evEs G15 env es st).bind fun xs st => (F_grown xs st).bind fun y st => .ok (.d y) st := ev_call g15_grown
noncomputable def b_weight : Ss := .cons (.ret (.bin .Add (.bin .Mult (.ix (.v 0) (.c (.int (0)))) (.ix (.v 1) (.c (.int (1))))) (.bin .Mult (.ix (.v 0) (.c (.int (1)))) (.ix (.v 1) (.c (.int (0))))))) .nil
noncomputable def F_weight : List D → M D := evF G16 2 2 b_weight
noncomputable def G17 : Gam := G16.add "weight" F_weight
noncomputable def b_worths_at : Ss := .cons (.ret (.lc (.call "weight" (.cons (.sl (.v 3) (.so (.c (.int (2)))) .no) (.cons (.v 1) .nil))) (.nm 3) (.val (.ix (.v 0) (.c (.int (1))))) .no [2, 3])) .nil
noncomputable def F_worths_at : List D → M D := evF G17 2 4 b_worths_at
noncomputable def G18 : Gam := G17.add "worths_at" F_worths_at
theorem g17_weight : G17.fn "weight" = some F_weight := by kernel_rfl!
theorem c17_weight {env : Ev.Env} {es : Es} {st : Stt} : evA G17 env (.call "weight" es) st = (evEs G17 env es st).bind fun xs st => (F_weight xs st).bind fun y st => .ok (.d y) st := ev_call g17_weight
noncomputable def r_least_forest_2 : Ss := .cons (.ret (.call "cheapest" (.cons (.v 0) (.cons (.call "worths_at" (.cons (.v 0) (.cons (.v 1) .nil))) .nil)))) .nil
noncomputable def r_least_forest_1 : Ss := .cons (.ex (.call "need_price" (.cons (.v 1) .nil))) r_least_forest_2
noncomputable def b_least_forest : Ss := .cons (.ex (.call "need_net" (.cons (.v 0) .nil))) r_least_forest_1
noncomputable def F_least_forest : List D → M D := evF G18 2 2 b_least_forest
noncomputable def G19 : Gam := G18.add "least_forest" F_least_forest
theorem g18_need_net : G18.fn "need_net" = some F_need_net := by kernel_rfl!
theorem c18_need_net {env : Ev.Env} {es : Es} {st : Stt} : evA G18 env (.call "need_net" es) st = (evEs G18 env es st).bind fun xs st => (F_need_net xs st).bind fun y st => .ok (.d y) st := ev_call g18_need_net
theorem g18_need_price : G18.fn "need_price" = some F_need_price := by kernel_rfl!
theorem c18_need_price {env : Ev.Env} {es : Es} {st : Stt} : evA G18 env (.call "need_price" es) st = (evEs G18 env es st).bind fun xs st => (F_need_price xs st).bind fun y st => .ok (.d y) st := ev_call g18_need_price
theorem g18_cheapest : G18.fn "cheapest" = some F_cheapest := by kernel_rfl!
theorem c18_cheapest {env : Ev.Env} {es : Es} {st : Stt} : evA G18 env (.call "cheapest" es) st = (evEs G18 env es st).bind fun xs st => (F_cheapest xs st).bind fun y st => .ok (.d y) st := ev_call g18_cheapest
theorem g18_worths_at : G18.fn "worths_at" = some F_worths_at := by kernel_rfl!
theorem c18_worths_at {env : Ev.Env} {es : Es} {st : Stt} : evA G18 env (.call "worths_at" es) st = (evEs G18 env es st).bind fun xs st => (F_worths_at xs st).bind fun y st => .ok (.d y) st := ev_call g18_worths_at
noncomputable def r_lowest_2 : Ss := .cons (.ret (.tup (.cons (.bin .FloorDiv (.v 0) (.v 2)) (.cons (.bin .FloorDiv (.v 1) (.v 2)) .nil)))) .nil
noncomputable def r_lowest_1 : Ss := .cons (.ife (.cmp (.v 1) .Lt (.c (.int (0)))) (.cons (.asg (.nm 2) (.neg (.v 2))) .nil) .nil) r_lowest_2
noncomputable def b_lowest : Ss := .cons (.asg (.nm 2) (.call "divisor_of" (.cons (.v 0) (.cons (.v 1) .nil)))) r_lowest_1
noncomputable def F_lowest : List D → M D := evF G19 2 3 b_lowest
noncomputable def G20 : Gam := G19.add "lowest" F_lowest
theorem g19_divisor_of : G19.fn "divisor_of" = some F_divisor_of := by kernel_rfl!
theorem c19_divisor_of {env : Ev.Env} {es : Es} {st : Stt} : evA G19 env (.call "divisor_of" es) st = (evEs G19 env es st).bind fun xs st => (F_divisor_of xs st).bind fun y st => .ok (.d y) st := ev_call g19_divisor_of
noncomputable def r_fraction_of_1 : Ss := .cons (.ret (.call "lowest" (.cons (.v 0) (.cons (.v 1) .nil)))) .nil
noncomputable def b_fraction_of : Ss := .cons (.ife (.cmp (.v 1) .Eq (.c (.int (0)))) (.cons (.raise "NoPrice" .nil) .nil) .nil) r_fraction_of_1
noncomputable def F_fraction_of : List D → M D := evF G20 2 2 b_fraction_of
noncomputable def G21 : Gam := G20.add "fraction_of" F_fraction_of
theorem g20_lowest : G20.fn "lowest" = some F_lowest := by kernel_rfl!
theorem c20_lowest {env : Ev.Env} {es : Es} {st : Stt} : evA G20 env (.call "lowest" es) st = (evEs G20 env es st).bind fun xs st => (F_lowest xs st).bind fun y st => .ok (.d y) st := ev_call g20_lowest
noncomputable def b_share_of : Ss := .cons (.ret (.call "fraction_of" (.cons (.ix (.v 0) (.c (.int (0)))) (.cons (.ix (.v 0) (.c (.int (1)))) .nil)))) .nil
noncomputable def F_share_of : List D → M D := evF G21 1 1 b_share_of
noncomputable def G22 : Gam := G21.add "share_of" F_share_of
theorem g21_fraction_of : G21.fn "fraction_of" = some F_fraction_of := by kernel_rfl!
theorem c21_fraction_of {env : Ev.Env} {es : Es} {st : Stt} : evA G21 env (.call "fraction_of" es) st = (evEs G21 env es st).bind fun xs st => (F_fraction_of xs st).bind fun y st => .ok (.d y) st := ev_call g21_fraction_of
noncomputable def b_is_tie_of : Ss := .cons (.ret (.and (.cons (.call "is_whole" (.cons (.v 1) .nil)) (.cons (.cmp2 (.c (.int (0))) .LtE (.v 1) .Lt (.bi "len" (.cons (.ix (.v 0) (.c (.int (1)))) .nil))) .nil)))) .nil
noncomputable def F_is_tie_of : List D → M D := evF G22 2 2 b_is_tie_of
noncomputable def G23 : Gam := G22.add "is_tie_of" F_is_tie_of
theorem g22_is_whole : G22.fn "is_whole" = some F_is_whole := by kernel_rfl!
theorem c22_is_whole {env : Ev.Env} {es : Es} {st : Stt} : evA G22 env (.call "is_whole" es) st = (evEs G22 env es st).bind fun xs st => (F_is_whole xs st).bind fun y st => .ok (.d y) st := ev_call g22_is_whole
noncomputable def r_are_ties_of_1 : Ss := .cons (.ret (.bi "all" (.cons (.lc (.cmp (.v 4) .Lt (.v 5)) (.tup (.cons (.nm 4) (.cons (.nm 5) .nil))) (.zip (.v 1) (.sl (.v 1) (.so (.c (.int (1)))) .no)) .no [2, 4, 5]) .nil))) .nil
noncomputable def b_are_ties_of : Ss := .cons (.ife (.or (.cons (.nt (.isi (.v 1) ["tuple"])) (.cons (.nt (.bi "all" (.cons (.lc (.call "is_tie_of" (.cons (.v 0) (.cons (.v 3) .nil))) (.nm 3) (.val (.v 1)) .no [2, 3]) .nil))) .nil))) (.cons (.ret (.c (.bl false))) .nil) .nil) r_are_ties_of_1
noncomputable def F_are_ties_of : List D → M D := evF G23 2 6 b_are_ties_of
noncomputable def G24 : Gam := G23.add "are_ties_of" F_are_ties_of
theorem g23_is_tie_of : G23.fn "is_tie_of" = some F_is_tie_of := by kernel_rfl!
theorem c23_is_tie_of {env : Ev.Env} {es : Es} {st : Stt} : evA G23 env (.call "is_tie_of" es) st = (evEs G23 env es st).bind fun xs st => (F_is_tie_of xs st).bind fun y st => .ok (.d y) st := ev_call g23_is_tie_of
noncomputable def b_is_forest_of : Ss := .cons (.ret (.and (.cons (.call "are_ties_of" (.cons (.v 0) (.cons (.v 1) .nil))) (.cons (.cmp (.call "grown" (.cons (.v 0) (.cons (.bin .Add (.bi "list" (.cons (.v 1) .nil)) (.rgl false (.bi "len" (.cons (.ix (.v 0) (.c (.int (1)))) .nil)) .no)) .nil))) .Eq (.v 1)) .nil)))) .nil
noncomputable def F_is_forest_of : List D → M D := evF G24 2 2 b_is_forest_of
noncomputable def G25 : Gam := G24.add "is_forest_of" F_is_forest_of
theorem g24_are_ties_of : G24.fn "are_ties_of" = some F_are_ties_of := by kernel_rfl!
theorem c24_are_ties_of {env : Ev.Env} {es : Es} {st : Stt} : evA G24 env (.call "are_ties_of" es) st = (evEs G24 env es st).bind fun xs st => (F_are_ties_of xs st).bind fun y st => .ok (.d y) st := ev_call g24_are_ties_of
theorem g24_grown : G24.fn "grown" = some F_grown := by kernel_rfl!
theorem c24_grown {env : Ev.Env} {es : Es} {st : Stt} : evA G24 env (.call "grown" es) st = (evEs G24 env es st).bind fun xs st => (F_grown xs st).bind fun y st => .ok (.d y) st := ev_call g24_grown
noncomputable def r_need_forest_1 : Ss := .cons (.ife (.nt (.call "is_forest_of" (.cons (.v 0) (.cons (.v 1) .nil)))) (.cons (.raise "NoForest" .nil) .nil) .nil) .nil
noncomputable def b_need_forest : Ss := .cons (.ex (.call "need_net" (.cons (.v 0) .nil))) r_need_forest_1
noncomputable def F_need_forest : List D → M D := evF G25 2 2 b_need_forest
noncomputable def G26 : Gam := G25.add "need_forest" F_need_forest
theorem g25_need_net : G25.fn "need_net" = some F_need_net := by kernel_rfl!
theorem c25_need_net {env : Ev.Env} {es : Es} {st : Stt} : evA G25 env (.call "need_net" es) st = (evEs G25 env es st).bind fun xs st => (F_need_net xs st).bind fun y st => .ok (.d y) st := ev_call g25_need_net
theorem g25_is_forest_of : G25.fn "is_forest_of" = some F_is_forest_of := by kernel_rfl!
theorem c25_is_forest_of {env : Ev.Env} {es : Es} {st : Stt} : evA G25 env (.call "is_forest_of" es) st = (evEs G25 env es st).bind fun xs st => (F_is_forest_of xs st).bind fun y st => .ok (.d y) st := ev_call g25_is_forest_of
noncomputable def b_sum_of : Ss := .cons (.ret (.tup (.cons (.bi "sum" (.cons (.lc (.ix (.v 2) (.c (.int (0)))) (.nm 2) (.val (.v 0)) .no [1, 2]) .nil)) (.cons (.bi "sum" (.cons (.lc (.ix (.v 2) (.c (.int (1)))) (.nm 2) (.val (.v 0)) .no [1, 2]) .nil)) .nil)))) .nil
noncomputable def F_sum_of : List D → M D := evF G26 1 3 b_sum_of
noncomputable def G27 : Gam := G26.add "sum_of" F_sum_of
noncomputable def b_line_of_forest : Ss := .cons (.ret (.call "sum_of" (.cons (.lc (.sl (.ix (.ix (.v 0) (.c (.int (1)))) (.v 3)) (.so (.c (.int (2)))) .no) (.nm 3) (.val (.v 1)) .no [2, 3]) .nil))) .nil
noncomputable def F_line_of_forest : List D → M D := evF G27 2 4 b_line_of_forest
noncomputable def G28 : Gam := G27.add "line_of_forest" F_line_of_forest
theorem g27_sum_of : G27.fn "sum_of" = some F_sum_of := by kernel_rfl!
theorem c27_sum_of {env : Ev.Env} {es : Es} {st : Stt} : evA G27 env (.call "sum_of" es) st = (evEs G27 env es st).bind fun xs st => (F_sum_of xs st).bind fun y st => .ok (.d y) st := ev_call g27_sum_of
noncomputable def r_forest_line_1 : Ss := .cons (.ret (.call "line_of_forest" (.cons (.v 0) (.cons (.v 1) .nil)))) .nil
noncomputable def b_forest_line : Ss := .cons (.ex (.call "need_forest" (.cons (.v 0) (.cons (.v 1) .nil)))) r_forest_line_1
noncomputable def F_forest_line : List D → M D := evF G28 2 2 b_forest_line
noncomputable def G29 : Gam := G28.add "forest_line" F_forest_line
theorem g28_need_forest : G28.fn "need_forest" = some F_need_forest := by kernel_rfl!
theorem c28_need_forest {env : Ev.Env} {es : Es} {st : Stt} : evA G28 env (.call "need_forest" es) st = (evEs G28 env es st).bind fun xs st => (F_need_forest xs st).bind fun y st => .ok (.d y) st := ev_call g28_need_forest
theorem g28_line_of_forest : G28.fn "line_of_forest" = some F_line_of_forest := by kernel_rfl!
theorem c28_line_of_forest {env : Ev.Env} {es : Es} {st : Stt} : evA G28 env (.call "line_of_forest" es) st = (evEs G28 env es st).bind fun xs st => (F_line_of_forest xs st).bind fun y st => .ok (.d y) st := ev_call g28_line_of_forest
noncomputable def b_price_of : Ss := .cons (.ret (.tup (.cons (.bin .Sub (.c (.int (0))) (.ix (.v 0) (.c (.int (0))))) (.cons (.ix (.v 0) (.c (.int (1)))) .nil)))) .nil
noncomputable def F_price_of : List D → M D := evF G29 1 1 b_price_of
noncomputable def G30 : Gam := G29.add "price_of" F_price_of
noncomputable def r_worth_1 : Ss := .cons (.ret (.call "weight" (.cons (.v 0) (.cons (.v 1) .nil)))) .nil
noncomputable def b_worth : Ss := .cons (.ex (.call "need_price" (.cons (.v 1) .nil))) r_worth_1
noncomputable def F_worth : List D → M D := evF G30 2 2 b_worth
noncomputable def G31 : Gam := G30.add "worth" F_worth
theorem g30_need_price : G30.fn "need_price" = some F_need_price := by kernel_rfl!
theorem c30_need_price {env : Ev.Env} {es : Es} {st : Stt} : evA G30 env (.call "need_price" es) st = (evEs G30 env es st).bind fun xs st => (F_need_price xs st).bind fun y st => .ok (.d y) st := ev_call g30_need_price
theorem g30_weight : G30.fn "weight" = some F_weight := by kernel_rfl!
theorem c30_weight {env : Ev.Env} {es : Es} {st : Stt} : evA G30 env (.call "weight" es) st = (evEs G30 env es st).bind fun xs st => (F_weight xs st).bind fun y st => .ok (.d y) st := ev_call g30_weight
noncomputable def l_least_forest_share_4t3 : Ss := .cons (.asg (.nm 1) (.v 3)) .nil
noncomputable def l_least_forest_share_4t2 : Ss := .cons (.ife (.cmp (.call "worth" (.cons (.call "forest_line" (.cons (.v 0) (.cons (.v 3) .nil))) (.cons (.call "price_of" (.cons (.v 2) .nil)) .nil))) .Eq (.c (.int (0)))) (.cons (.ret (.tup (.cons (.v 2) (.cons (.v 3) .nil)))) .nil) .nil) l_least_forest_share_4t3
noncomputable def l_least_forest_share_4t1 : Ss := .cons (.asg (.nm 3) (.call "least_forest" (.cons (.v 0) (.cons (.call "price_of" (.cons (.v 2) .nil)) .nil)))) l_least_forest_share_4t2
noncomputable def l_least_forest_share_4 : Ss := .cons (.asg (.nm 2) (.call "share_of" (.cons (.call "forest_line" (.cons (.v 0) (.cons (.v 1) .nil))) .nil))) l_least_forest_share_4t1
noncomputable def r_least_forest_share_4 : Ss := .cons (.whl (.c (.bl true)) l_least_forest_share_4) .nil
noncomputable def r_least_forest_share_3 : Ss := .cons (.asg (.nm 1) (.call "least_forest" (.cons (.v 0) (.cons (.tup (.cons (.c (.int (0))) (.cons (.c (.int (1))) .nil))) .nil)))) r_least_forest_share_4
noncomputable def r_least_forest_share_2 : Ss := .cons (.ife (.cmp (.ix (.v 0) (.c (.int (1)))) .Eq (.tup .nil)) (.cons (.ret (.c .non)) .nil) .nil) r_least_forest_share_3
noncomputable def r_least_forest_share_1 : Ss := .cons (.ex (.call "need_shares" (.cons (.call "tie_lines" (.cons (.ix (.v 0) (.c (.int (1)))) .nil)) .nil))) r_least_forest_share_2
noncomputable def b_least_forest_share : Ss := .cons (.ex (.call "need_net" (.cons (.v 0) .nil))) r_least_forest_share_1
noncomputable def F_least_forest_share : List D → M D := evF G31 1 4 b_least_forest_share
noncomputable def G32 : Gam := G31.add "least_forest_share" F_least_forest_share
theorem g31_need_net : G31.fn "need_net" = some F_need_net := by kernel_rfl!
theorem c31_need_net {env : Ev.Env} {es : Es} {st : Stt} : evA G31 env (.call "need_net" es) st = (evEs G31 env es st).bind fun xs st => (F_need_net xs st).bind fun y st => .ok (.d y) st := ev_call g31_need_net
theorem g31_need_shares : G31.fn "need_shares" = some F_need_shares := by kernel_rfl!
theorem c31_need_shares {env : Ev.Env} {es : Es} {st : Stt} : evA G31 env (.call "need_shares" es) st = (evEs G31 env es st).bind fun xs st => (F_need_shares xs st).bind fun y st => .ok (.d y) st := ev_call g31_need_shares
theorem g31_tie_lines : G31.fn "tie_lines" = some F_tie_lines := by kernel_rfl!
theorem c31_tie_lines {env : Ev.Env} {es : Es} {st : Stt} : evA G31 env (.call "tie_lines" es) st = (evEs G31 env es st).bind fun xs st => (F_tie_lines xs st).bind fun y st => .ok (.d y) st := ev_call g31_tie_lines
theorem g31_least_forest : G31.fn "least_forest" = some F_least_forest := by kernel_rfl!
theorem c31_least_forest {env : Ev.Env} {es : Es} {st : Stt} : evA G31 env (.call "least_forest" es) st = (evEs G31 env es st).bind fun xs st => (F_least_forest xs st).bind fun y st => .ok (.d y) st := ev_call g31_least_forest
theorem g31_share_of : G31.fn "share_of" = some F_share_of := by kernel_rfl!
theorem c31_share_of {env : Ev.Env} {es : Es} {st : Stt} : evA G31 env (.call "share_of" es) st = (evEs G31 env es st).bind fun xs st => (F_share_of xs st).bind fun y st => .ok (.d y) st := ev_call g31_share_of
theorem g31_forest_line : G31.fn "forest_line" = some F_forest_line := by kernel_rfl!
theorem c31_forest_line {env : Ev.Env} {es : Es} {st : Stt} : evA G31 env (.call "forest_line" es) st = (evEs G31 env es st).bind fun xs st => (F_forest_line xs st).bind fun y st => .ok (.d y) st := ev_call g31_forest_line
theorem g31_price_of : G31.fn "price_of" = some F_price_of := by kernel_rfl!
theorem c31_price_of {env : Ev.Env} {es : Es} {st : Stt} : evA G31 env (.call "price_of" es) st = (evEs G31 env es st).bind fun xs st => (F_price_of xs st).bind fun y st => .ok (.d y) st := ev_call g31_price_of
theorem g31_worth : G31.fn "worth" = some F_worth := by kernel_rfl!
theorem c31_worth {env : Ev.Env} {es : Es} {st : Stt} : evA G31 env (.call "worth" es) st = (evEs G31 env es st).bind fun xs st => (F_worth xs st).bind fun y st => .ok (.d y) st := ev_call g31_worth
noncomputable def l_law_lots_1t1 : Ss := .cons (.asg (.nm 2) (.lc (.ife (.cmp (.v 8) .Eq (.v 5)) (.v 4) (.v 8)) (.nm 8) (.val (.v 2)) .no [6, 8])) .nil
noncomputable def l_law_lots_1 : Ss := .cons (.asg (.tup (.cons (.nm 4) (.cons (.nm 5) .nil))) (.bi "sorted" (.cons (.lc (.ix (.v 2) (.v 7)) (.nm 7) (.val (.sl (.ix (.ix (.v 0) (.c (.int (1)))) (.v 3)) .no (.so (.c (.int (2)))))) .no [6, 7]) .nil))) l_law_lots_1t1
noncomputable def r_law_lots_2 : Ss := .cons (.ret (.v 2)) .nil
noncomputable def r_law_lots_1 : Ss := .cons (.for (.nm 3) (.val (.v 1)) l_law_lots_1) r_law_lots_2
noncomputable def b_law_lots : Ss := .cons (.asg (.nm 2) (.rgl false (.ix (.v 0) (.c (.int (0)))) .no)) r_law_lots_1
noncomputable def F_law_lots : List D → M D := evF G32 2 9 b_law_lots
noncomputable def G33 : Gam := G32.add "_law_lots" F_law_lots
noncomputable def l_law_is_forest_1t3 : Ss := .cons (.ife (.cmp (.ix (.v 4) (.ix (.ix (.ix (.v 0) (.c (.int (1)))) (.v 3)) (.c (.int (0))))) .Eq (.ix (.v 4) (.ix (.ix (.ix (.v 0) (.c (.int (1)))) (.v 3)) (.c (.int (1)))))) (.cons (.ret (.c (.bl false))) .nil) .nil) .nil
noncomputable def l_law_is_forest_1t2 : Ss := .cons (.asg (.nm 4) (.call "_law_lots" (.cons (.v 0) (.cons (.sl (.v 1) .no (.so (.v 2))) .nil)))) l_law_is_forest_1t3
noncomputable def l_law_is_forest_1t1 : Ss := .cons (.ife (.and (.cons (.cmp (.v 2) .Gt (.c (.int (0)))) (.cons (.cmp (.ix (.v 1) (.bin .Sub (.v 2) (.c (.int (1))))) .GtE (.v 3)) .nil))) (.cons (.ret (.c (.bl false))) .nil) .nil) l_law_is_forest_1t2
noncomputable def l_law_is_forest_1 : Ss := .cons (.ife (.or (.cons (.nt (.isi (.v 3) ["int"])) (.cons (.isi (.v 3) ["bool"]) (.cons (.nt (.cmp2 (.c (.int (0))) .LtE (.v 3) .Lt (.bi "len" (.cons (.ix (.v 0) (.c (.int (1)))) .nil)))) .nil)))) (.cons (.ret (.c (.bl false))) .nil) .nil) l_law_is_forest_1t1
noncomputable def r_law_is_forest_2 : Ss := .cons (.ret (.cmp (.call "_law_lots" (.cons (.v 0) (.cons (.v 1) .nil))) .Eq (.call "_law_lots" (.cons (.v 0) (.cons (.rgl false (.bi "len" (.cons (.ix (.v 0) (.c (.int (1)))) .nil)) .no) .nil))))) .nil
noncomputable def r_law_is_forest_1 : Ss := .cons (.for (.tup (.cons (.nm 2) (.cons (.nm 3) .nil))) (.enum (.v 1)) l_law_is_forest_1) r_law_is_forest_2
noncomputable def b_law_is_forest : Ss := .cons (.ife (.nt (.isi (.v 1) ["tuple"])) (.cons (.ret (.c (.bl false))) .nil) .nil) r_law_is_forest_1
noncomputable def F_law_is_forest : List D → M D := evF G33 2 5 b_law_is_forest
noncomputable def G34 : Gam := G33.add "_law_is_forest" F_law_is_forest
theorem g33_law_lots : G33.fn "_law_lots" = some F_law_lots := by kernel_rfl!
theorem c33_law_lots {env : Ev.Env} {es : Es} {st : Stt} : evA G33 env (.call "_law_lots" es) st = (evEs G33 env es st).bind fun xs st => (F_law_lots xs st).bind fun y st => .ok (.d y) st := ev_call g33_law_lots
noncomputable def b_law_sum : Ss := .cons (.ret (.tup (.cons (.bi "sum" (.cons (.lc (.ix (.ix (.v 0) (.v 3)) (.c (.int (2)))) (.nm 3) (.val (.v 1)) .no [2, 3]) .nil)) (.cons (.bi "sum" (.cons (.lc (.ix (.ix (.v 0) (.v 3)) (.c (.int (3)))) (.nm 3) (.val (.v 1)) .no [2, 3]) .nil)) .nil)))) .nil
noncomputable def F_law_sum : List D → M D := evF G34 2 4 b_law_sum
noncomputable def G35 : Gam := G34.add "_law_sum" F_law_sum
noncomputable def l_law_common_1 : Ss := .cons (.asg (.tup (.cons (.nm 0) (.cons (.nm 1) .nil))) (.tup (.cons (.v 1) (.cons (.bin .Mod (.v 0) (.v 1)) .nil)))) .nil
noncomputable def r_law_common_2 : Ss := .cons (.ret (.v 0)) .nil
noncomputable def r_law_common_1 : Ss := .cons (.whl (.cmp (.v 1) .Gt (.c (.int (0)))) l_law_common_1) r_law_common_2
noncomputable def b_law_common : Ss := .cons (.asg (.tup (.cons (.nm 0) (.cons (.nm 1) .nil))) (.tup (.cons (.bi "abs" (.cons (.v 0) .nil)) (.cons (.bi "abs" (.cons (.v 1) .nil)) .nil)))) r_law_common_1
noncomputable def F_law_common : List D → M D := evF G35 2 2 b_law_common
noncomputable def G36 : Gam := G35.add "_law_common" F_law_common
noncomputable def r_law_fraction_1 : Ss := .cons (.ret (.tup (.cons (.bin .FloorDiv (.v 0) (.v 2)) (.cons (.bin .FloorDiv (.v 1) (.v 2)) .nil)))) .nil
noncomputable def b_law_fraction : Ss := .cons (.asg (.nm 2) (.bin .Mult (.call "_law_common" (.cons (.v 0) (.cons (.v 1) .nil))) (.ix (.lst (.cons (.c (.int (1))) (.cons (.neg (.c (.int (1)))) .nil))) (.bi "int" (.cons (.cmp (.v 1) .Lt (.c (.int (0)))) .nil))))) r_law_fraction_1
noncomputable def F_law_fraction : List D → M D := evF G36 2 3 b_law_fraction
noncomputable def G37 : Gam := G36.add "_law_fraction" F_law_fraction
theorem g36_law_common : G36.fn "_law_common" = some F_law_common := by kernel_rfl!
theorem c36_law_common {env : Ev.Env} {es : Es} {st : Stt} : evA G36 env (.call "_law_common" es) st = (evEs G36 env es st).bind fun xs st => (F_law_common xs st).bind fun y st => .ok (.d y) st := ev_call g36_law_common
noncomputable def l_law_least_forest_0x2t1 : Ss := .cons (.ife (.cmp (.bin .Add (.bin .Mult (.ix (.v 11) (.c (.int (0)))) (.ix (.v 1) (.c (.int (1))))) (.bin .Mult (.ix (.v 11) (.c (.int (1)))) (.ix (.v 1) (.c (.int (0)))))) .LtE (.v 8)) (.cons (.ex (.mt "append" (.v 9) (.cons (.v 10) .nil))) .nil) .nil) .nil
noncomputable def l_law_least_forest_0x2 : Ss := .cons (.asg (.nm 11) (.sl (.ix (.ix (.v 0) (.c (.int (1)))) (.v 10)) (.so (.c (.int (2)))) .no)) l_law_least_forest_0x2t1
noncomputable def l_law_least_forest_0t4 : Ss := .cons (.ife (.cmp (.ix (.v 12) (.v 4)) .NotEq (.ix (.v 12) (.v 5))) (.cons (.ret (.c (.bl false))) .nil) .nil) .nil
noncomputable def l_law_least_forest_0t3 : Ss := .cons (.asg (.nm 12) (.call "_law_lots" (.cons (.v 0) (.cons (.v 9) .nil)))) l_law_least_forest_0t4
noncomputable def l_law_least_forest_0t2 : Ss := .cons (.for (.nm 10) (.val (.v 2)) l_law_least_forest_0x2) l_law_least_forest_0t3
noncomputable def l_law_least_forest_0t1 : Ss := .cons (.asg (.nm 9) (.lst .nil)) l_law_least_forest_0t2
noncomputable def l_law_least_forest_0 : Ss := .cons (.asg (.nm 8) (.bin .Add (.bin .Mult (.v 6) (.ix (.v 1) (.c (.int (1))))) (.bin .Mult (.v 7) (.ix (.v 1) (.c (.int (0))))))) l_law_least_forest_0t1
noncomputable def r_law_least_forest_1 : Ss := .cons (.ret (.c (.bl true))) .nil
noncomputable def b_law_least_forest : Ss := .cons (.for (.tup (.cons (.nm 3) (.cons (.tup (.cons (.nm 4) (.cons (.nm 5) (.cons (.nm 6) (.cons (.nm 7) .nil))))) .nil))) (.enum (.ix (.v 0) (.c (.int (1))))) l_law_least_forest_0) r_law_least_forest_1
noncomputable def F_law_least_forest : List D → M D := evF G37 3 13 b_law_least_forest
noncomputable def G38 : Gam := G37.add "_law_least_forest" F_law_least_forest
theorem g37_law_lots : G37.fn "_law_lots" = some F_law_lots := by kernel_rfl!
theorem c37_law_lots {env : Ev.Env} {es : Es} {st : Stt} : evA G37 env (.call "_law_lots" es) st = (evEs G37 env es st).bind fun xs st => (F_law_lots xs st).bind fun y st => .ok (.d y) st := ev_call g37_law_lots
noncomputable def r_law_forest_share_3 : Ss := .cons (.ret (.and (.cons (.cmp (.bi "repr" (.cons (.ix (.v 1) (.c (.int (0)))) .nil)) .Eq (.bi "repr" (.cons (.tup (.cons (.v 4) (.cons (.v 5) .nil))) .nil))) (.cons (.call "_law_least_forest" (.cons (.v 0) (.cons (.tup (.cons (.bin .Sub (.c (.int (0))) (.v 4)) (.cons (.v 5) .nil))) (.cons (.ix (.v 1) (.c (.int (1)))) .nil)))) .nil)))) .nil
noncomputable def r_law_forest_share_2 : Ss := .cons (.asg (.tup (.cons (.nm 4) (.cons (.nm 5) .nil))) (.call "_law_fraction" (.cons (.v 2) (.cons (.v 3) .nil)))) r_law_forest_share_3
noncomputable def r_law_forest_share_1 : Ss := .cons (.asg (.tup (.cons (.nm 2) (.cons (.nm 3) .nil))) (.call "_law_sum" (.cons (.ix (.v 0) (.c (.int (1)))) (.cons (.ix (.v 1) (.c (.int (1)))) .nil)))) r_law_forest_share_2
noncomputable def b_law_forest_share : Ss := .cons (.ife (.or (.cons (.cmp (.ix (.v 0) (.c (.int (1)))) .Eq (.tup .nil)) (.cons (.nt (.isi (.v 1) ["tuple"])) (.cons (.cmp (.bi "len" (.cons (.v 1) .nil)) .NotEq (.c (.int (2)))) (.cons (.nt (.call "_law_is_forest" (.cons (.v 0) (.cons (.ix (.v 1) (.c (.int (1)))) .nil)))) .nil))))) (.cons (.ret (.c (.bl false))) .nil) .nil) r_law_forest_share_1
noncomputable def F_law_forest_share : List D → M D := evF G38 2 6 b_law_forest_share
noncomputable def G39 : Gam := G38.add "_law_forest_share" F_law_forest_share
theorem g38_law_is_forest : G38.fn "_law_is_forest" = some F_law_is_forest := by kernel_rfl!
theorem c38_law_is_forest {env : Ev.Env} {es : Es} {st : Stt} : evA G38 env (.call "_law_is_forest" es) st = (evEs G38 env es st).bind fun xs st => (F_law_is_forest xs st).bind fun y st => .ok (.d y) st := ev_call g38_law_is_forest
theorem g38_law_sum : G38.fn "_law_sum" = some F_law_sum := by kernel_rfl!
theorem c38_law_sum {env : Ev.Env} {es : Es} {st : Stt} : evA G38 env (.call "_law_sum" es) st = (evEs G38 env es st).bind fun xs st => (F_law_sum xs st).bind fun y st => .ok (.d y) st := ev_call g38_law_sum
theorem g38_law_fraction : G38.fn "_law_fraction" = some F_law_fraction := by kernel_rfl!
theorem c38_law_fraction {env : Ev.Env} {es : Es} {st : Stt} : evA G38 env (.call "_law_fraction" es) st = (evEs G38 env es st).bind fun xs st => (F_law_fraction xs st).bind fun y st => .ok (.d y) st := ev_call g38_law_fraction
theorem g38_law_least_forest : G38.fn "_law_least_forest" = some F_law_least_forest := by kernel_rfl!
theorem c38_law_least_forest {env : Ev.Env} {es : Es} {st : Stt} : evA G38 env (.call "_law_least_forest" es) st = (evEs G38 env es st).bind fun xs st => (F_law_least_forest xs st).bind fun y st => .ok (.d y) st := ev_call g38_law_least_forest
noncomputable def l_law_0t2 : Ss := .cons (.ife (.cmp (.ix (.v 2) (.c (.int (1)))) .Eq (.tup .nil)) (.cons (.ife (.cmp (.v 3) .IsNot (.c .non)) (.cons (.ret (.c (.bl false))) .nil) .nil) .nil) (.cons (.ife (.nt (.call "_law_forest_share" (.cons (.v 2) (.cons (.v 3) .nil)))) (.cons (.ret (.c (.bl false))) .nil) .nil) .nil)) .nil
noncomputable def l_law_0t1 : Ss := .cons (.asg (.nm 3) (.call "least_forest_share" (.cons (.v 2) .nil))) l_law_0t2
noncomputable def l_law_0 : Ss := .cons (.asg (.nm 2) (.call "_law_net" (.cons (.call "_law_pot" (.cons (.v 0) (.cons (.v 1) .nil))) (.cons (.c (.int (8))) (.cons (.c (.int (20))) .nil))))) l_law_0t1
noncomputable def r_law_1 : Ss := .cons (.ret (.cmp (.call "least_forest_share" (.cons (.tup (.cons (.c (.int (4))) (.cons (.tup .nil) .nil))) .nil)) .Is (.c .non))) .nil
noncomputable def b_law : Ss := .cons (.for (.nm 1) (.rng (.bin .Add (.bi "min" (.cons (.bi "len" (.cons (.v 0) .nil)) (.cons (.c (.int (12))) .nil))) (.c (.int (1))))) l_law_0) r_law_1
noncomputable def F_law : List D → M D := evF G39 1 4 b_law
noncomputable def G40 : Gam := G39.add "law" F_law
theorem g39_law_net : G39.fn "_law_net" = some F_law_net := by kernel_rfl!
theorem c39_law_net {env : Ev.Env} {es : Es} {st : Stt} : evA G39 env (.call "_law_net" es) st = (evEs G39 env es st).bind fun xs st => (F_law_net xs st).bind fun y st => .ok (.d y) st := ev_call g39_law_net
theorem g39_law_pot : G39.fn "_law_pot" = some F_law_pot := by kernel_rfl!
theorem c39_law_pot {env : Ev.Env} {es : Es} {st : Stt} : evA G39 env (.call "_law_pot" es) st = (evEs G39 env es st).bind fun xs st => (F_law_pot xs st).bind fun y st => .ok (.d y) st := ev_call g39_law_pot
theorem g39_least_forest_share : G39.fn "least_forest_share" = some F_least_forest_share := by kernel_rfl!
theorem c39_least_forest_share {env : Ev.Env} {es : Es} {st : Stt} : evA G39 env (.call "least_forest_share" es) st = (evEs G39 env es st).bind fun xs st => (F_least_forest_share xs st).bind fun y st => .ok (.d y) st := ev_call g39_least_forest_share
theorem g39_law_forest_share : G39.fn "_law_forest_share" = some F_law_forest_share := by kernel_rfl!
theorem c39_law_forest_share {env : Ev.Env} {es : Es} {st : Stt} : evA G39 env (.call "_law_forest_share" es) st = (evEs G39 env es st).bind fun xs st => (F_law_forest_share xs st).bind fun y st => .ok (.d y) st := ev_call g39_law_forest_share
end K74
namespace Ev
open PySem
theorem gcd_step (a b : Int) : Int.gcd b (a.fmod b) = Int.gcd a b := by
  rw [Int.gcd_comm a b]
  conv => rhs; rw [← Int.mul_fdiv_add_fmod a b]
  rw [Int.add_comm, Int.gcd_add_mul_left_right]
theorem fmod_abs (a b : Int) (h : b ≠ 0) : (a.fmod b).natAbs < b.natAbs := by
  rcases Int.lt_or_gt_of_ne h with q | q
  · have h1 := Int.fmod_nonneg_of_pos (-a) (show 0 < -b by omega)
    have h2 := Int.fmod_lt_of_pos (-a) (show 0 < -b by omega)
    rw [Int.neg_fmod_neg] at h1 h2
    omega
  · have h1 := Int.fmod_nonneg_of_pos a q
    have h2 := Int.fmod_lt_of_pos a q
    omega
theorem abs_if (a : Int) : (if a < 0 then -a else a) = (a.natAbs : Int) := by split <;> omega
noncomputable def fq (p q : Int) : Int := if q < 0 then -(Int.gcd p q : Int) else (Int.gcd p q : Int)
theorem fq_abs (p q : Int) : (fq p q).natAbs = Int.gcd p q := by unfold fq; split <;> omega
theorem frac_core {p q g : Int} (hq : q ≠ 0) (e : g.natAbs = Int.gcd p q) (sg : if q < 0 then g < 0 else 0 < g) : g ≠ 0 ∧ 1 ≤ q.fdiv g ∧ Int.gcd (p.fdiv g) (q.fdiv g) = 1 ∧ p.fdiv g * q = p * q.fdiv g ∧ (p.fdiv g).natAbs ≤ p.natAbs ∧ (q.fdiv g).natAbs ≤ q.natAbs ∧ g.natAbs ≤ q.natAbs := by
  have hg : Int.gcd p q ≠ 0 := by
    intro h
    rw [Int.gcd_eq_zero_iff] at h
    exact hq h.2
  have h0 : g ≠ 0 := by omega
  have da : g ∣ p := by rw [← Int.natAbs_dvd_natAbs, e]; exact Int.gcd_dvd_natAbs_left p q
  have db : g ∣ q := by rw [← Int.natAbs_dvd_natAbs, e]; exact Int.gcd_dvd_natAbs_right p q
  obtain ⟨x, rfl⟩ := da
  obtain ⟨y, rfl⟩ := db
  have ex : (g * x).fdiv g = x := Int.mul_fdiv_cancel_left x h0
  have ey : (g * y).fdiv g = y := Int.mul_fdiv_cancel_left y h0
  rw [Int.gcd_mul_left] at e
  have e1 : Int.gcd x y = 1 := by
    have h1 : 0 < g.natAbs := by omega
    have : g.natAbs * Int.gcd x y = g.natAbs * 1 := by omega
    exact Nat.eq_of_mul_eq_mul_left h1 this
  have y0 : y ≠ 0 := by rintro rfl; simp at hq
  rw [ex, ey]
  refine ⟨h0, ?_, e1, ?_, ?_, ?_, ?_⟩
  · split at sg
    · rename_i h
      have : 0 < y := by
        rcases Int.lt_or_gt_of_ne y0 with z | z
        · have := Int.mul_pos_of_neg_of_neg sg z
          omega
        · exact z
      omega
    · rename_i h
      have : 0 < y := by
        rcases Int.lt_or_gt_of_ne y0 with z | z
        · have := Int.mul_neg_of_pos_of_neg sg z
          omega
        · exact z
      omega
  · rw [← Int.mul_assoc, Int.mul_comm x g]
  · rw [Int.natAbs_mul]
    exact Nat.le_mul_of_pos_left _ (by omega)
  · rw [Int.natAbs_mul]
    exact Nat.le_mul_of_pos_left _ (by omega)
  · rw [Int.natAbs_mul]
    exact Nat.le_mul_of_pos_right _ (by omega)
theorem frac_facts {p q : Int} (hq : q ≠ 0) : fq p q ≠ 0 ∧ 1 ≤ q.fdiv (fq p q) ∧ Int.gcd (p.fdiv (fq p q)) (q.fdiv (fq p q)) = 1 ∧ p.fdiv (fq p q) * q = p * q.fdiv (fq p q) ∧ (p.fdiv (fq p q)).natAbs ≤ p.natAbs ∧ (q.fdiv (fq p q)).natAbs ≤ q.natAbs ∧ (fq p q).natAbs ≤ q.natAbs := by
  have hg : Int.gcd p q ≠ 0 := by
    intro h
    rw [Int.gcd_eq_zero_iff] at h
    exact hq h.2
  refine frac_core hq (fq_abs p q) ?_
  unfold fq
  split <;> omega
end Ev
namespace Ev
open PySem
noncomputable def isFr (d : D) : Bool := match d with
  | .tup [.int a, .int b] => decide (0 < b) && decide (Int.gcd a b = 1)
  | _ => false
theorem isFr_no {d : D} (h : areWholes d 2 = false) : isFr d = false := by
  unfold isFr
  split
  · simp [areWholes, isWhole] at h
  · rfl
theorem isFr_yes {a b : Int} (h1 : 0 < b) (h2 : Int.gcd a b = 1) : isFr (.tup [.int a, .int b]) = true := by simp [isFr, h1, h2]
noncomputable def frD (p : Int × Int) : D := .tup [.int p.1, .int p.2]
theorem okd_fr {a b : Int} {p : List Nat} {m : Nat} {st : Stt} (hm : 2 ≤ m) : Okd p m st (.tup [.int a, .int b]) := .tup (by simpa using hm) (by simp; exact ⟨.int _, .int _⟩)
/-- the fraction told of two whole numbers -/
noncomputable def lowF (p q : Int) : D := .tup [.int (p.fdiv (fq p q)), .int (q.fdiv (fq p q))]
end Ev
namespace Ev
open PySem
end Ev
namespace Ev
open PySem
/-- all whole numbers in it are less than 2^b -/
inductive Ib (b : Nat) : D → Prop
  | non : Ib b .non
  | bl (x : Bool) : Ib b (.bl x)
  | int {i : Int} : i.natAbs < 2 ^ b → Ib b (.int i)
  | str (x : Str) : Ib b (.str x)
  | loc (l : Nat) : Ib b (.loc l)
  | tup {xs : List D} : (∀ x ∈ xs, Ib b x) → Ib b (.tup xs)
theorem Ib.le {a b : Nat} {d : D} (h : Ib a d) (k : a ≤ b) : Ib b d := by
  induction h with
  | non => exact .non
  | bl x => exact .bl x
  | int h => exact .int (Nat.lt_of_lt_of_le h (Nat.pow_le_pow_right (by decide) k))
  | str x => exact .str x
  | loc l => exact .loc l
  | tup _ ih => exact .tup ih
theorem Ib.tup_in {b : Nat} {xs : List D} (h : Ib b (.tup xs)) : ∀ x ∈ xs, Ib b x := by
  cases h; assumption
noncomputable abbrev Fr := Int × Int
noncomputable abbrev Pc := Fr × Fr × Fr
noncomputable def srB (a b : Fr) : Bool := decide (0 < a.2) && decide (Int.gcd a.1 a.2 = 1) && (decide (0 < b.2) && decide (Int.gcd b.1 b.2 = 1)) && decide (a.1 * b.2 < b.1 * a.2)
theorem srB_iff {a b : Fr} : srB a b = true ↔ (0 < a.2 ∧ Int.gcd a.1 a.2 = 1) ∧ (0 < b.2 ∧ Int.gcd b.1 b.2 = 1) ∧ a.1 * b.2 < b.1 * a.2 := by
  simp [srB, and_assoc]
end Ev
namespace Ev
open PySem
/-- a thing to ask of: fine, and its whole numbers not great -/
noncomputable def Thg (T : List Nat) (m b : Nat) (st : Stt) (d : D) : Prop := Okd T m st d ∧ Ib b d
section
variable {T : List Nat} {m n b c : Nat} {st s : Stt} {d : D} {xs ys : List D}
theorem Thg.mono (h : Thg T m b st d) (k : Kp T st s) : Thg T m b s d := ⟨h.1.mono k, h.2⟩
theorem Thg.kp {p : Nat} (h : Thg T m b st d) (k : Keep p st s) (hp : p ∈ T) : Thg T m b s d := h.mono (k.kp hp)
theorem Thg.le (h : Thg T m b st d) (k : m ≤ n) (l : b ≤ c) : Thg T n c st d := ⟨h.1.le k, h.2.le l⟩
theorem Thg.tup (hl : xs.length ≤ m) (h : ∀ x ∈ xs, Thg T m b st x) : Thg T m b st (.tup xs) := ⟨.tup hl fun x hx => (h x hx).1, .tup fun x hx => (h x hx).2⟩
theorem Thg.tup_in (h : Thg T m b st (.tup xs)) : xs.length ≤ m ∧ ∀ x ∈ xs, Thg T m b st x := ⟨h.1.tup_in.1, fun x hx => ⟨h.1.tup_in.2 x hx, h.2.tup_in x hx⟩⟩
theorem Thg.int {i : Int} (h : i.natAbs < 2 ^ b) : Thg T m b st (.int i) := ⟨.int i, .int h⟩
theorem Thg.non : Thg T m b st .non := ⟨.non, .non⟩
theorem Thg.bl {x : Bool} : Thg T m b st (.bl x) := ⟨.bl x, .bl x⟩
theorem Thg.str {x : Str} (h : x.length ≤ 1000000) : Thg T m b st (.str x) := ⟨.str h, .str x⟩
theorem Thg.loc {l : Nat} (h : l ∉ T) (k : stLst st l = some xs) : Thg T m b st (.loc l) := ⟨.loc h k, .loc l⟩
theorem Thg.dic {l : Nat} {kvs : List (L2.Key × D)} (h : l ∉ T) (k : st[l]? = some (.dic kvs)) : Thg T m b st (.loc l) := ⟨.dic h k, .loc l⟩
theorem Thg.nil : Thg T m b st (.tup []) := .tup (by simp) (by simp)
theorem Thg.app (h : Thg T m b st (.tup xs)) (k : Thg T n b st (.tup ys)) : Thg T (m + n) b st (.tup (xs ++ ys)) := .tup (by rw [List.length_append]; have := h.tup_in.1; have := k.tup_in.1; omega) fun x hx => by
  rcases List.mem_append.mp hx with hx | hx
  · exact (h.tup_in.2 x hx).le (by omega) (Nat.le_refl _)
  · exact (k.tup_in.2 x hx).le (by omega) (Nat.le_refl _)
theorem Thg.rev (h : Thg T m b st (.tup xs)) : Thg T m b st (.tup xs.reverse) := .tup (by rw [List.length_reverse]; exact h.tup_in.1) fun x hx => h.tup_in.2 x (List.mem_reverse.mp hx)
end
/-- the fraction told -/
noncomputable def lowP (p q : Int) : Fr := (p.fdiv (fq p q), q.fdiv (fq p q))
theorem lowF_eq {p q : Int} : lowF p q = frD (lowP p q) := rfl
theorem lowP_facts {p q : Int} (hq : 0 < q) : 0 < (lowP p q).2 ∧ Int.gcd (lowP p q).1 (lowP p q).2 = 1 ∧ (lowP p q).1 * q = p * (lowP p q).2 ∧ (lowP p q).1.natAbs ≤ p.natAbs ∧ (lowP p q).2.natAbs ≤ q.natAbs := by
  obtain ⟨_, h1, h2, h3, h4, h5, _⟩ := frac_facts (p := p) (show q ≠ 0 by omega)
  exact ⟨h1, h2, h3, h4, h5⟩
end Ev
namespace Ev
open PySem
/-- what holds of things by their parts -/
class Cl (A : D → Prop) : Prop where
  tin : ∀ {xs : List D}, A (.tup xs) → ∀ x ∈ xs, A x
  tup : ∀ {xs : List D}, (∀ x ∈ xs, A x) → A (.tup xs)
  loc : ∀ l : Nat, A (.loc l)
instance : Cl (fun _ => True) := ⟨fun _ _ _ => trivial, fun _ => trivial, fun _ => trivial⟩
/-- fine, and so all its parts -/
noncomputable def OkA (A : D → Prop) (T : List Nat) (m : Nat) (st : Stt) (d : D) : Prop := Okd T m st d ∧ A d
section
variable {A : D → Prop} [Cl A] {T : List Nat} {m n : Nat} {st s : Stt} {d : D} {xs ys : List D}
theorem OkA.mono (h : OkA A T m st d) (k : Kp T st s) : OkA A T m s d := ⟨h.1.mono k, h.2⟩
theorem OkA.le (h : OkA A T m st d) (k : m ≤ n) : OkA A T n st d := ⟨h.1.le k, h.2⟩
theorem OkA.isi_tuple {G : Gam} (h : OkA A T m st d) : isiA G st (.d d) ["tuple"] = some (isTpD d) := h.1.isi_tuple
theorem OkA.tup_in (h : OkA A T m st (.tup xs)) : xs.length ≤ m ∧ ∀ x ∈ xs, OkA A T m st x := ⟨h.1.tup_in.1, fun x hx => ⟨h.1.tup_in.2 x hx, Cl.tin h.2 x hx⟩⟩
theorem OkA.tup (hl : xs.length ≤ m) (h : ∀ x ∈ xs, OkA A T m st x) : OkA A T m st (.tup xs) := ⟨.tup hl fun x hx => (h x hx).1, Cl.tup fun x hx => (h x hx).2⟩
theorem OkA.loc {l : Nat} (h : l ∉ T) (k : stLst st l = some xs) : OkA A T m st (.loc l) := ⟨.loc h k, Cl.loc l⟩
theorem OkA.t2 {x y : D} (hm : 2 ≤ m) (hx : OkA A T m st x) (hy : OkA A T m st y) : OkA A T m st (.tup [x, y]) := .tup (by simpa using hm) (by simp; exact ⟨hx, hy⟩)
theorem OkA.t1 {x : D} (hm : 1 ≤ m) (hx : OkA A T m st x) : OkA A T m st (.tup [x]) := .tup (by simpa using hm) (by simpa using hx)
theorem OkA.t3 {a b c : D} (hm : 3 ≤ m) (h1 : OkA A T m st a) (h2 : OkA A T m st b) (h3 : OkA A T m st c) : OkA A T m st (.tup [a, b, c]) := .tup (by simpa using hm) (by simp; exact ⟨h1, h2, h3⟩)
theorem OkA.t4 {a b c d : D} (hm : 4 ≤ m) (h1 : OkA A T m st a) (h2 : OkA A T m st b) (h3 : OkA A T m st c) (h4 : OkA A T m st d) : OkA A T m st (.tup [a, b, c, d]) := .tup (by simpa using hm) (by simp; exact ⟨h1, h2, h3, h4⟩)
theorem OkA.t6 {a b c d e f : D} (hm : 6 ≤ m) (h1 : OkA A T m st a) (h2 : OkA A T m st b) (h3 : OkA A T m st c) (h4 : OkA A T m st d) (h5 : OkA A T m st e) (h6 : OkA A T m st f) : OkA A T m st (.tup [a, b, c, d, e, f]) := .tup (by simpa using hm) (by simp; exact ⟨h1, h2, h3, h4, h5, h6⟩)
theorem OkA.t5 {a b c d e : D} (hm : 5 ≤ m) (h1 : OkA A T m st a) (h2 : OkA A T m st b) (h3 : OkA A T m st c) (h4 : OkA A T m st d) (h5 : OkA A T m st e) : OkA A T m st (.tup [a, b, c, d, e]) := .tup (by simpa using hm) (by simp; exact ⟨h1, h2, h3, h4, h5⟩)
end
/-- numbers not great, texts well made -/
inductive Nb (b : Nat) : D → Prop
  | non : Nb b .non
  | bl (x : Bool) : Nb b (.bl x)
  | int {i : Int} : i.natAbs < 2 ^ b → Nb b (.int i)
  | str {x : Str} : PyData.strOk x = true → Nb b (.str x)
  | loc (l : Nat) : Nb b (.loc l)
  | tup {xs : List D} : (∀ x ∈ xs, Nb b x) → Nb b (.tup xs)
instance {b : Nat} : Cl (Nb b) := ⟨fun h => by cases h; assumption, .tup, .loc⟩
section
variable {b : Nat} {T : List Nat} {m : Nat} {st : Stt}
theorem oka_non : OkA (Nb b) T m st .non := ⟨.non, .non⟩
theorem oka_bl {x : Bool} : OkA (Nb b) T m st (.bl x) := ⟨.bl x, .bl x⟩
theorem oka_nil : OkA (Nb b) T m st (.tup []) := .tup (by simp) (by simp)
end
end Ev
namespace Ev
open PySem
/-- the store has grown -/
noncomputable def Sub (st s : Stt) : Prop := st.length ≤ s.length ∧ ∀ l, l < st.length → s[l]? = st[l]?
section
variable {st s s2 r : Stt} {p : Nat} {T : List Nat}
theorem Sub.refl : Sub st st := ⟨Nat.le_refl _, fun _ _ => rfl⟩
theorem Sub.trans (h : Sub st s) (g : Sub s s2) : Sub st s2 := ⟨Nat.le_trans h.1 g.1, fun l q => (g.2 l (Nat.lt_of_lt_of_le q h.1)).trans (h.2 l q)⟩
theorem Sub.app : Sub st (st ++ r) := ⟨by simp, fun l q => by rw [List.getElem?_append_left q]⟩
theorem Sub.kp (h : Sub st s) (g : Kp T s s2) (n : ∀ t ∈ T, st.length ≤ t) : Sub st s2 := ⟨Nat.le_trans h.1 g.1, fun l q => (g.2 l (fun m => by have := n _ m; omega) (Nat.lt_of_lt_of_le q h.1)).trans (h.2 l q)⟩
theorem Sub.lst {d : D} {xs : List D} (h : Sub st s) (e : lstOf st (.d d) = some xs) : lstOf s (.d d) = some xs := by
  cases d with
  | loc l =>
    have e : stLst st l = some xs := e
    show stLst s l = some xs
    rw [stLst_of (h.2 l (stLst_lt e))]; exact e
  | rol ys => exact e
  | _ => cases e
theorem scr_tup {d : D} {xs : List D} (e : lstOf st (.d d) = some xs) : tupOf (.d d) = none := by
  cases d <;> first | rfl | cases e
theorem scr_len {d : D} {xs : List D} (e : lstOf st (.d d) = some xs) : biA "len" [.d d] st = .ok (.d (.int xs.length)) st := by
  have h := scr_tup e
  have : biA "len" [.d d] st = ofO ((seqOf st (.d d)).map fun xs => A.d (.int xs.length)) st := by
    cases d <;> first | rfl | cases e
  rw [this]
  unfold seqOf
  rw [h]
  simp only [e]
  rfl
theorem scr_ix {d : D} {xs : List D} {i : Int} (e : lstOf st (.d d) = some xs) : ixA (.d d) (.d (.int i)) st = (L2.atI xs i).map .d := by
  have h := scr_tup e
  simp only [ixA, seqOf, h, e]
theorem at_map2 {ns : List Int} {i : Int} (h0 : 0 ≤ i) (h1 : i < ns.length) : ∃ x, L2.atI (ns.map D.int) i = some (.int x) := by
  obtain ⟨d, e, m⟩ := atI_mem (xs := ns.map D.int) h0 (by simpa using h1)
  obtain ⟨x, _, rfl⟩ := List.mem_map.mp m
  exact ⟨x, e⟩
end
noncomputable def Pot2 (st : Stt) (p : Nat) : Prop := ∃ a b : Int, stLst st p = some [.int a, .int b] ∧ 0 ≤ a ∧ 0 ≤ b ∧ b < 2147483647
section
variable {st s r : Stt} {p l : Nat} {o : Ob} {T : List Nat}
theorem Pot2.lt (P : Pot2 st p) : p < st.length := by
  obtain ⟨a, b, h, _⟩ := P
  exact stLst_lt h
theorem Pot2.app (P : Pot2 st p) : Pot2 (st ++ r) p := by
  obtain ⟨a, b, h, q⟩ := P
  exact ⟨a, b, by rw [stLst_app (stLst_lt h)]; exact h, q⟩
theorem Pot2.set (P : Pot2 st p) (n : l ≠ p) : Pot2 (st.set l o) p := by
  obtain ⟨a, b, h, q⟩ := P
  exact ⟨a, b, by rw [stLst_ne n]; exact h, q⟩
end
end Ev
namespace Ev
end Ev
namespace Ev
open PySem
theorem str_len2 {i : Int} (h : i.natAbs < 10 ^ 40) : (Str.ofString (toString i)).length ≤ 41 := by
  have q : ∀ {i : Int}, 0 ≤ i → i < 10 ^ 40 → (Str.ofString (toString i)).length ≤ 40 := fun h0 h => Nat.le_trans (PyProof.Rows.toString_length_le h0 (k := 40) (by decide) h) (by decide)
  by_cases z : 0 ≤ i
  · have := q z (by omega)
    omega
  · have h2 := PyProof.Rows.len_text_neg (n := i) (by omega)
    have := q (i := 0 - i) (by omega) (by omega)
    omega
/-- what repr shows: rows of at most m, depth n, text at most k -/
inductive Rp (T : List Nat) (st : Stt) (b m : Nat) : Nat → Nat → D → Prop
  | non {n k : Nat} : b ≤ k → Rp T st b m n k .non
  | bl {n k : Nat} (x : Bool) : b ≤ k → Rp T st b m n k (.bl x)
  | int {n k : Nat} {i : Int} : i.natAbs < 10 ^ 40 → b ≤ k → Rp T st b m n k (.int i)
  | str {n k : Nat} {x : Str} : x.length ≤ 1000000 → (reprText x).length ≤ k → b ≤ k → Rp T st b m n k (.str x)
  | tup {n k k' : Nat} {xs : List D} : xs.length ≤ m → (∀ x ∈ xs, Rp T st b m n k x) → b ≤ k → (xs.length + 1) * (k + 2) + 10 ≤ k' → Rp T st b m (n + 1) k' (.tup xs)
  | loc {n k k' : Nat} {l : Nat} {xs : List D} : l ∉ T → stLst st l = some xs → xs.length ≤ m → (∀ x ∈ xs, Rp T st b m n k x) → b ≤ k → (xs.length + 1) * (k + 2) + 10 ≤ k' → Rp T st b m (n + 1) k' (.loc l)
  | dic {n k : Nat} {l : Nat} : l ∉ T → st[l]? = some (.dic []) → b ≤ k → Rp T st b m (n + 1) k (.loc l)
section
variable {T T' : List Nat} {st s : Stt} {b b' m m' n n' k k' : Nat} {d : D} {xs ys : List D}
theorem Rp.mono (h : Rp T st b m n k d) (K : Kp T st s) : Rp T s b m n k d := by
  induction h with
  | non h => exact .non h
  | bl x h => exact .bl x h
  | int h h2 => exact .int h h2
  | str h h2 h3 => exact .str h h2 h3
  | tup h _ hb h2 ih => exact .tup h ih hb h2
  | loc h1 h2 h3 _ hb h5 ih => exact .loc h1 (K.lst h1 h2) h3 ih hb h5
  | dic h1 h2 h3 => exact .dic h1 ((K.2 _ h1 (by
      have := List.getElem?_eq_some_iff.mp h2
      exact this.1)).trans h2) h3
theorem Rp.le (h : Rp T st b m n k d) : ∀ {b' m' n' k' : Nat}, b' ≤ b → m ≤ m' → n ≤ n' → k ≤ k' → Rp T st b' m' n' k' d := by
  induction h with
  | non h => exact fun _ _ _ q => .non (by omega)
  | bl x h => exact fun _ _ _ q => .bl x (by omega)
  | int h h2 => exact fun _ _ _ q => .int h (by omega)
  | str h h2 h3 => exact fun q _ _ q2 => .str h (by omega) (by omega)
  | @tup n k k0 xs h _ hb h2 ih =>
    intro b' m' n' k' q0 q1 q2 q3
    obtain ⟨j, rfl⟩ : ∃ j, n' = j + 1 := ⟨n' - 1, by omega⟩
    exact .tup (by omega) (fun x hx => ih x hx q0 q1 (by omega) (Nat.le_refl _)) (by omega) (by omega)
  | @loc n k k0 l xs h1 h2 h3 _ hb h5 ih =>
    intro b' m' n' k' q0 q1 q2 q3
    obtain ⟨j, rfl⟩ : ∃ j, n' = j + 1 := ⟨n' - 1, by omega⟩
    exact .loc h1 h2 (by omega) (fun x hx => ih x hx q0 q1 (by omega) (Nat.le_refl _)) (by omega) (by omega)
  | dic h1 h2 h3 =>
    intro b' m' n' k' q0 q1 q2 q3
    obtain ⟨j, rfl⟩ : ∃ j, n' = j + 1 := ⟨n' - 1, by omega⟩
    exact .dic h1 h2 (by omega)
theorem Rp.tup_in (h : Rp T st b m n k (.tup xs)) : ∃ n' k', n = n' + 1 ∧ (xs.length + 1) * (k' + 2) + 10 ≤ k ∧ xs.length ≤ m ∧ b ≤ k' ∧ ∀ x ∈ xs, Rp T st b m n' k' x := by
  cases h with
  | tup h1 h2 hb h3 => exact ⟨_, _, rfl, h3, h1, hb, h2⟩
end
theorem all_text {n k : Nat} : ∀ {ps : List PyData}, (∀ p ∈ ps, PyData.showable p = true ∧ p.depth ≤ n ∧ p.shown.length ≤ k) → PyData.showableAll ps = true ∧ PyData.depthAll ps ≤ n ∧ piled (PyData.shownAll ps) ≤ ps.length * (k + 2) ∧ (PyData.shownAll ps).length = ps.length
  | [], _ => ⟨rfl, Nat.zero_le _, by simp [PyData.shownAll, piled], rfl⟩
  | p :: r, h => by
    obtain ⟨h1, h2, h3⟩ := h p (by simp)
    obtain ⟨a, b, c, d⟩ := all_text (ps := r) (fun x hx => h x (List.mem_cons_of_mem _ hx))
    refine ⟨by simp [PyData.showableAll, h1, a], by simp only [PyData.depthAll]; omega, ?_, by simp [PyData.shownAll, d]⟩
    simp only [PyData.shownAll, piled_cons, List.length_cons]
    rw [Nat.add_mul]
    omega
theorem join_le (ts : List Str) : (Str.join ", " ts).length ≤ piled ts := by
  by_cases h : ts = []
  · subst h; decide +kernel
  · have := join_length_add ts h
    omega
theorem tup_text {ts : List Str} : (tupleText ts).length ≤ piled ts + 10 := by
  unfold tupleText
  rw [strLen_append, strLen_append]
  have h1 : (("(" : Str)).length = 1 := rfl
  have h2 : ((if ts.length == 1 then ",)" else ")" : String) : Str).length ≤ 2 := by split <;> decide +kernel
  have := join_le ts
  omega
theorem lst_text {ts : List Str} : (listText ts).length ≤ piled ts + 10 := by
  rw [listText_eq_join, strLen_append, strLen_append]
  have h1 : (("[" : Str)).length = 1 := rfl
  have h2 : (("]" : Str)).length = 1 := rfl
  have := join_le ts
  omega
theorem row_pyr {st : Stt} {n k F : Nat} : ∀ {xs : List D}, (∀ x ∈ xs, ∀ f, F ≤ f → ∃ p, toPyR st f x = some p ∧ PyData.showable p = true ∧ p.depth ≤ n ∧ p.shown.length ≤ k) → ∀ f, F + xs.length + 1 ≤ f → ∃ ps, toPysR st f xs = some ps ∧ ps.length = xs.length ∧ ∀ p ∈ ps, PyData.showable p = true ∧ p.depth ≤ n ∧ p.shown.length ≤ k
  | [], _, f, hf => by
    obtain ⟨g, rfl⟩ : ∃ g, f = g + 1 := ⟨f - 1, by omega⟩
    exact ⟨[], rfl, rfl, by simp⟩
  | x :: xs, h, f, hf => by
    obtain ⟨g, rfl⟩ : ∃ g, f = g + 1 := ⟨f - 1, by omega⟩
    simp only [List.length_cons] at hf
    obtain ⟨p, h1, h2⟩ := h x (by simp) g (by omega)
    obtain ⟨ps, h3, h4, h5⟩ := row_pyr (xs := xs) (fun y hy => h y (List.mem_cons_of_mem _ hy)) g (by omega)
    refine ⟨p :: ps, by simp [toPysR, h1, h3], by simp [h4], fun q hq => ?_⟩
    rcases List.mem_cons.mp hq with rfl | hq
    · exact h2
    · exact h5 q hq
theorem Rp.py {T : List Nat} {st : Stt} {b m n k : Nat} {d : D} (h : Rp T st b m n k d) (b0 : 50 ≤ b) : ∀ f, n * (m + 3) + 1 ≤ f → ∃ p, toPyR st f d = some p ∧ PyData.showable p = true ∧ p.depth ≤ n ∧ p.shown.length ≤ k := by
  induction h with
  | non h =>
    intro f hf
    obtain ⟨g, rfl⟩ : ∃ g, f = g + 1 := ⟨f - 1, by omega⟩
    exact ⟨.none, rfl, rfl, Nat.zero_le _, Nat.le_trans (by decide +kernel : (PyData.shown .none).length ≤ 50) (by omega)⟩
  | bl x h =>
    intro f hf
    obtain ⟨g, rfl⟩ : ∃ g, f = g + 1 := ⟨f - 1, by omega⟩
    exact ⟨.bool x, rfl, rfl, Nat.zero_le _, Nat.le_trans (by cases x <;> decide +kernel : (PyData.shown (.bool x)).length ≤ 50) (by omega)⟩
  | @int n k i h h2 =>
    intro f hf
    obtain ⟨g, rfl⟩ : ∃ g, f = g + 1 := ⟨f - 1, by omega⟩
    refine ⟨.int i, rfl, ?_, Nat.zero_le _, ?_⟩
    · refine decide_eq_true ?_
      by_cases z : i.natAbs = 0
      · rw [z]; decide
      · exact (Nat.log2_lt z).mpr (Nat.lt_of_lt_of_le h (by decide +kernel))
    · have := str_len2 h
      show (Str.ofString (toString i)).length ≤ k
      omega
  | @str n k x h h2 h3 =>
    intro f hf
    obtain ⟨g, rfl⟩ : ∃ g, f = g + 1 := ⟨f - 1, by omega⟩
    exact ⟨.str x, rfl, rfl, Nat.zero_le _, h2⟩
  | @tup n k k0 xs h _ hb h2 ih =>
    intro f hf
    obtain ⟨g, rfl⟩ : ∃ g, f = g + 1 := ⟨f - 1, by omega⟩
    obtain ⟨ps, a, b, c⟩ := row_pyr ih g (by rw [Nat.add_mul] at hf; omega)
    obtain ⟨d1, d2, d3, d4⟩ := all_text c
    have := tup_text (ts := PyData.shownAll ps)
    refine ⟨.tuple ps, by simp [toPyR, a], d1, by simp only [PyData.depth]; omega, ?_⟩
    simp only [PyData.shown]
    rw [b] at d3
    rw [Nat.add_mul] at h2
    omega
  | @loc n k k0 l xs h1 h2 h3 _ hb h5 ih =>
    intro f hf
    obtain ⟨g, rfl⟩ : ∃ g, f = g + 1 := ⟨f - 1, by omega⟩
    obtain ⟨ps, a, b, c⟩ := row_pyr ih g (by rw [Nat.add_mul] at hf; omega)
    obtain ⟨d1, d2, d3, d4⟩ := all_text c
    have := lst_text (ts := PyData.shownAll ps)
    have e : st[l]? = some (.lst xs) := by
      unfold stLst at h2
      split at h2
      · rename_i q; cases h2; exact q
      · cases h2
    refine ⟨.list ps, by simp [toPyR, e, a], d1, by simp only [PyData.depth]; omega, ?_⟩
    simp only [PyData.shown]
    rw [b] at d3
    rw [Nat.add_mul] at h5
    omega
  | @dic n k l h1 h2 h3 =>
    intro f hf
    obtain ⟨g, rfl⟩ : ∃ g, f = g + 1 := ⟨f - 1, by omega⟩
    exact ⟨.dict [], by simp [toPyR, h2], rfl, by simp [PyData.depth, PyData.depthKv], Nat.le_trans (by decide +kernel : (PyData.shown (.dict [])).length ≤ 50) (by omega)⟩
theorem bi_repr {st : Stt} {d : D} {P : PyData} (e1 : toPyR st 1000 d = some P) (e2 : PyData.showable P = true) (e3 : P.depth ≤ 20) (e4 : P.shown.length ≤ 1000000) : biA "repr" [.d d] st = .ok (.d (.str P.shown)) st := by
  have e : biA "repr" [.d d] st = ofO ((toPyRX st d).bind fun p => if PyData.showable p = true ∧ p.depth ≤ 20 ∧ p.shown.length ≤ 1000000 then some (.d (.str p.shown)) else none) st := rfl
  have e1 : toPyRX st d = some P := by unfold toPyRX; rw [e1]
  rw [e, e1]
  simp [e2, e3, e4, ofO]
theorem eq_ss2 {s : Stt} {x y : Str} : eqB s (.d (.str x)) (.d (.str y)) = some (decide (x = y)) := by
  have e : emp2 s (.d (.str x)) (.d (.str y)) = none := rfl
  have e1 : toPyA s (.d (.str x)) = some (.str x) := rfl
  have e2 : toPyA s (.d (.str y)) = some (.str y) := rfl
  have e3 : strs2 (.d (.str x)) (.d (.str y)) = some (decide (x = y)) := rfl
  unfold eqB
  rw [e]
  unfold eqA
  simp only [e1, e2]
  split
  · show some (x == y) = _
    by_cases h : x = y
    · subst h; simp
    · simp [h]
  · exact e3
end Ev
namespace Ev
open PySem
/-- the stock of a law on nets: a great number's rest, a small one, how many were taken -/
noncomputable def Stk (st : Stt) (p c : Nat) : Prop := ∃ a b t : Int, stLst st p = some [.int a, .int b, .int t] ∧ 0 ≤ a ∧ 0 ≤ b ∧ b < 2147483629 ∧ 0 ≤ t ∧ t ≤ (c : Nat)
section
variable {st s r : Stt} {p l c d : Nat} {o : Ob}
theorem Stk.lt (P : Stk st p c) : p < st.length := by
  obtain ⟨a, b, t, h, _⟩ := P
  exact stLst_lt h
theorem Stk.app (P : Stk st p c) : Stk (st ++ r) p c := by
  obtain ⟨a, b, t, h, q⟩ := P
  exact ⟨a, b, t, by rw [stLst_app (stLst_lt h)]; exact h, q⟩
theorem Stk.set (P : Stk st p c) (n : l ≠ p) : Stk (st.set l o) p c := by
  obtain ⟨a, b, t, h, q⟩ := P
  exact ⟨a, b, t, by rw [stLst_ne n]; exact h, q⟩
theorem Stk.mono (P : Stk st p c) (h : c ≤ d) : Stk st p d := by
  obtain ⟨a, b, t, h1, h2, h3, h4, h5, h6⟩ := P
  exact ⟨a, b, t, h1, h2, h3, h4, h5, by omega⟩
end
end Ev
namespace Ev
open PySem
noncomputable abbrev Tie := Int × Int × Int × Int
noncomputable def tieD (t : Tie) : D := .tup [.int t.1, .int t.2.1, .int t.2.2.1, .int t.2.2.2]
noncomputable def webD (n : Int) (ts : List Tie) : D := .tup [.int n, .tup (ts.map tieD)]
noncomputable def isNum (d : D) (n : Int) : Bool := match d with
  | .int i => decide (0 ≤ i) && decide (i < n)
  | _ => false
theorem two_of {xs : List D} (h : (xs.length : Int) = 2) : ∃ a b, xs = [a, b] := by
  match xs, h with
  | [a, b], _ => exact ⟨a, b, rfl⟩
  | [], h => simp at h
  | [_], h => simp at h
  | _ :: _ :: _ :: _, h => simp at h; omega
theorem mod_near {x m : Int} (h0 : 0 ≤ x) (h1 : x < 2 * m) : x.fmod m = if x < m then x else x - m := by
  rw [Int.fmod_eq_emod_of_nonneg _ (by omega)]
  by_cases h : x < m
  · rw [if_pos h]; exact Int.emod_eq_of_lt h0 h
  · rw [if_neg h]
    have : x % m = (x - m) % m := by rw [Int.sub_emod_right]
    rw [this]; exact Int.emod_eq_of_lt (by omega) (by omega)
end Ev
namespace Ev
open PySem
theorem okd_tie {T : List Nat} {m : Nat} {st : Stt} {t : Tie} (hm : 4 ≤ m) : Okd T m st (tieD t) := .tup (by simpa using hm) (by simp; exact ⟨.int _, .int _, .int _, .int _⟩)
theorem okd_ties {T : List Nat} {m : Nat} {st : Stt} {ts : List Tie} (hm : 4 ≤ m) (h : ts.length ≤ m) : Okd T m st (.tup (ts.map tieD)) := .tup (by simpa using h) (by intro x hx; obtain ⟨t, _, rfl⟩ := List.mem_map.mp hx; exact okd_tie hm)
theorem okd_web {T : List Nat} {m : Nat} {st : Stt} {n : Int} {ts : List Tie} (hm : 4 ≤ m) (h : ts.length ≤ m) : Okd T m st (webD n ts) := .tup (by simp; omega) (by simp; exact ⟨.int _, okd_ties hm h⟩)
end Ev
namespace Ev
open PySem
/-- a tie of a net: the lesser house first -/
noncomputable def BothOk (n : Int) (t : Tie) : Prop := 0 ≤ t.1 ∧ t.1 < t.2.1 ∧ t.2.1 < n ∧ -1000000 ≤ t.2.2.1 ∧ t.2.2.1 ≤ 1000000 ∧ -1000000 ≤ t.2.2.2 ∧ t.2.2.2 ≤ 1000000
structure NetOk (n : Int) (ts : List Tie) : Prop where
  lo : 1 ≤ n
  hi : n ≤ 8
  len : ts.length ≤ 20
  ok : ∀ t ∈ ts, BothOk n t
noncomputable def isBothD (n : Int) (d : D) : Bool := match d with
  | .tup [.int a, .int b, .int c, .int e] => decide (0 ≤ a ∧ a < b ∧ b < n ∧ c.natAbs ≤ 1000000 ∧ e.natAbs ≤ 1000000)
  | _ => false
noncomputable def isNetD (d : D) : Bool := match d with
  | .tup [.int n, .tup ts] => decide (1 ≤ n ∧ n ≤ 8 ∧ ts.length ≤ 20) && ts.all (isBothD n)
  | _ => false
theorem isNet_web {n : Int} {ts : List Tie} (w : NetOk n ts) : isNetD (webD n ts) = true := by
  have h1 := w.lo
  have h2 := w.hi
  have h3 := w.len
  have h4 : (ts.map tieD).all (isBothD n) = true := by
    rw [List.all_eq_true]
    intro x hx
    obtain ⟨t, ht, rfl⟩ := List.mem_map.mp hx
    obtain ⟨a, b, c, d, e, f, g⟩ := w.ok t ht
    have q1 : t.2.2.1.natAbs ≤ 1000000 := by omega
    have q2 : t.2.2.2.natAbs ≤ 1000000 := by omega
    simp [isBothD, tieD, a, b, c, q1, q2]
  simp [isNetD, webD, h1, h2, h3, h4]
theorem abs_of (x : Int) : (if x < 0 then -x else x) = (x.natAbs : Int) := by split <;> omega
end Ev
namespace Ev
open PySem
/-- one mark put for another one -/
noncomputable def relab (a b : Int) (m : List Int) : List Int := m.map fun x => if x = b then a else x
/-- one tie taken up -/
noncomputable def growS (ts : List Tie) (s : List Int × List Nat) (i : Nat) : List Int × List Nat :=
  match ts[i]? with
  | none => s
  | some t => if s.1.getD t.1.toNat 0 = s.1.getD t.2.1.toNat 0 then s else (relab (s.1.getD t.1.toNat 0) (s.1.getD t.2.1.toNat 0) s.1, s.2 ++ [i])
noncomputable def growL (ts : List Tie) (s : List Int × List Nat) (os : List Nat) : List Int × List Nat := os.foldl (growS ts) s
noncomputable def mk0 (n : Nat) : List Int := (List.range n).map fun k => ((k : Nat) : Int)
noncomputable def sortN (l : List Nat) : List Nat := l.mergeSort (fun a b => decide (a ≤ b))
/-- the forest that takes up ties in an order -/
noncomputable def grownF (n : Nat) (ts : List Tie) (os : List Nat) : List Nat := sortN (growL ts (mk0 n, []) os).2
theorem relab_len {a b : Int} {m : List Int} : (relab a b m).length = m.length := List.length_map _
theorem relab_getD {a b : Int} {m : List Int} {i : Nat} (h : i < m.length) : (relab a b m).getD i 0 = if m.getD i 0 = b then a else m.getD i 0 := by
  simp only [relab, List.getD_eq_getElem?_getD, List.getElem?_map, List.getElem?_eq_getElem h, Option.map_some, Option.getD_some]
theorem mem_relab {a b x : Int} {m : List Int} : x ∈ relab a b m ↔ (x ∈ m ∧ x ≠ b) ∨ (x = a ∧ b ∈ m) := by
  simp only [relab, List.mem_map]
  constructor
  · rintro ⟨y, hy, rfl⟩
    by_cases c : y = b
    · subst c; simp [hy]
    · simp [c, hy]
  · rintro (⟨h1, h2⟩ | ⟨rfl, h⟩)
    · exact ⟨x, h1, by simp [h2]⟩
    · exact ⟨b, h, by simp⟩
/-- one lot fewer -/
theorem ndist_relab {a b : Int} (ne : a ≠ b) : ∀ {m : List Int}, ndist (relab a b m) + (if a ∈ m ∧ b ∈ m then 1 else 0) = ndist m
  | [] => by simp [relab, ndist]
  | x :: m => by
    have ih := ndist_relab ne (m := m)
    have e : relab a b (x :: m) = (if x = b then a else x) :: relab a b m := rfl
    have me : ∀ y, y ∈ relab a b m ↔ (y ∈ m ∧ y ≠ b) ∨ (y = a ∧ b ∈ m) := fun y => mem_relab
    rw [e]
    simp only [ndist, me, List.mem_cons]
    by_cases hb : x = b
    · subst hb
      by_cases p : a ∈ m <;> by_cases q : x ∈ m <;> simp [p, q, ne] at ih ⊢ <;> omega
    · by_cases ha : x = a
      · subst ha
        have ne' : ¬ b = x := fun h => ne h.symm
        by_cases p : x ∈ m <;> by_cases q : b ∈ m <;> simp [p, q, ne, ne'] at ih ⊢ <;> omega
      · have ha' : ¬ a = x := fun h => ha h.symm
        have hb' : ¬ b = x := fun h => hb h.symm
        by_cases p : a ∈ m <;> by_cases q : b ∈ m <;> by_cases r : x ∈ m <;> simp [p, q, r, ha, hb, ha', hb'] at ih ⊢ <;> omega
/-- as many lots as the kernel tells -/
theorem ndist_ker : ∀ {l m : List Int}, l.length = m.length → (∀ i j, i < l.length → j < l.length → (l.getD i 0 = l.getD j 0 ↔ m.getD i 0 = m.getD j 0)) → ndist l = ndist m
  | [], [], _, _ => rfl
  | [], _ :: _, h, _ => by simp at h
  | _ :: _, [], h, _ => by simp at h
  | x :: l, y :: m, h, k => by
    have hl : l.length = m.length := by simpa using h
    have ih := ndist_ker hl fun i j hi hj => by
      have := k (i + 1) (j + 1) (by simpa using hi) (by simpa using hj)
      simpa using this
    have me : x ∈ l ↔ y ∈ m := by
      simp only [List.mem_iff_getElem]
      constructor
      · rintro ⟨i, hi, rfl⟩
        have := k 0 (i + 1) (by simp) (by simpa using hi)
        simp only [List.getD_cons_zero, List.getD_cons_succ] at this
        refine ⟨i, hl ▸ hi, ?_⟩
        have := this.mp (by rw [List.getD_eq_getElem?_getD, List.getElem?_eq_getElem hi]; rfl)
        rw [this, List.getD_eq_getElem?_getD, List.getElem?_eq_getElem (hl ▸ hi)]; rfl
      · rintro ⟨i, hi, rfl⟩
        have hi2 : i < l.length := hl ▸ hi
        have := k 0 (i + 1) (by simp) (by simpa using hi2)
        simp only [List.getD_cons_zero, List.getD_cons_succ] at this
        refine ⟨i, hi2, ?_⟩
        have := this.mpr (by rw [List.getD_eq_getElem?_getD, List.getElem?_eq_getElem hi]; rfl)
        rw [this, List.getD_eq_getElem?_getD, List.getElem?_eq_getElem hi2]; rfl
    simp only [ndist, me, ih]
/-- hang together by some ties -/
inductive Conn (ts : List Tie) (S : Nat → Prop) : Nat → Nat → Prop
  | rfl (u : Nat) : Conn ts S u u
  | tie {u v w : Nat} {i : Nat} {t : Tie} : S i → ts[i]? = some t → ((t.1.toNat = u ∧ t.2.1.toNat = v) ∨ (t.1.toNat = v ∧ t.2.1.toNat = u)) → Conn ts S v w → Conn ts S u w
theorem Conn.mono {ts : List Tie} {S R : Nat → Prop} {u v : Nat} (h : Conn ts S u v) (k : ∀ i, S i → R i) : Conn ts R u v := by
  induction h with
  | rfl u => exact .rfl u
  | tie a b c _ ih => exact .tie (k _ a) b c ih
theorem Conn.trans {ts : List Tie} {S : Nat → Prop} {u v w : Nat} (h : Conn ts S u v) (g : Conn ts S v w) : Conn ts S u w := by
  induction h with
  | rfl u => exact g
  | tie a b c _ ih => exact .tie a b c (ih g)
theorem Conn.symm {ts : List Tie} {S : Nat → Prop} {u v : Nat} (h : Conn ts S u v) : Conn ts S v u := by
  induction h with
  | rfl u => exact .rfl u
  | tie a b c _ ih => exact ih.trans (.tie a b (c.elim (fun c => .inr c) (fun c => .inl c)) (.rfl _))
theorem Conn.one {ts : List Tie} {S : Nat → Prop} {i : Nat} {t : Tie} (h : S i) (e : ts[i]? = some t) : Conn ts S t.1.toNat t.2.1.toNat := .tie h e (.inl ⟨Eq.refl _, Eq.refl _⟩) (.rfl _)
/-- ties' ends are houses -/
noncomputable def TsOk (n : Nat) (ts : List Tie) : Prop := ∀ t ∈ ts, t.1.toNat < n ∧ t.2.1.toNat < n
/-- the marks tell what hangs together -/
structure Mk (n : Nat) (ts : List Tie) (S : Nat → Prop) (m : List Int) : Prop where
  len : m.length = n
  ker : ∀ u v, u < n → v < n → (m.getD u 0 = m.getD v 0 ↔ Conn ts S u v)
section
variable {n : Nat} {ts : List Tie} {S R : Nat → Prop} {m m' : List Int}
theorem mk0_len : (mk0 n).length = n := by simp [mk0]
theorem mk0_getD {u : Nat} (h : u < n) : (mk0 n).getD u 0 = (u : Int) := by
  simp [mk0, List.getD_eq_getElem?_getD, h]
theorem mk_0 (hS : ∀ i, ¬ S i) : Mk n ts S (mk0 n) := ⟨mk0_len, fun u v hu hv => by
  rw [mk0_getD hu, mk0_getD hv]
  constructor
  · intro h
    have : u = v := by omega
    subst this
    exact .rfl u
  · intro h
    cases h with
    | rfl => rfl
    | tie a => exact absurd a (hS _)⟩
theorem Mk.ext (h : Mk n ts S m) (e : ∀ i, S i ↔ R i) : Mk n ts R m := ⟨h.len, fun u v hu hv => (h.ker u v hu hv).trans ⟨fun c => c.mono fun i => (e i).mp, fun c => c.mono fun i => (e i).mpr⟩⟩
theorem Mk.dist (h : Mk n ts S m) (g : Mk n ts S m') : ndist m = ndist m' := ndist_ker (by rw [h.len, g.len]) fun i j hi hj => by
  rw [h.len] at hi hj
  rw [h.ker i j hi hj, g.ker i j hi hj]
/-- a tie more, that closes no ring -/
theorem Mk.join (ok : TsOk n ts) (h : Mk n ts S m) {i : Nat} {t : Tie} (e : ts[i]? = some t) (hR : ∀ j, R j ↔ S j ∨ j = i) : Mk n ts R (relab (m.getD t.1.toNat 0) (m.getD t.2.1.toNat 0) m) := by
  obtain ⟨o1, o2⟩ := ok t (List.mem_of_getElem? e)
  refine ⟨by rw [relab_len, h.len], fun u v hu hv => ?_⟩
  rw [relab_getD (by rw [h.len]; exact hu), relab_getD (by rw [h.len]; exact hv)]
  have up : ∀ {x y}, Conn ts S x y → Conn ts R x y := fun c => c.mono fun j hj => (hR j).mpr (.inl hj)
  have ti : Conn ts R t.1.toNat t.2.1.toNat := .one ((hR i).mpr (.inr rfl)) e
  have kk : ∀ {x y}, x < n → y < n → m.getD x 0 = m.getD y 0 → Conn ts R x y := fun hx hy q => up ((h.ker _ _ hx hy).mp q)
  constructor
  · intro q
    split at q <;> split at q
    · rename_i a b
      exact (kk hu o2 a).trans (kk o2 hv b.symm)
    · rename_i a b
      exact ((kk hu o2 a).trans ti.symm).trans (kk o1 hv q)
    · rename_i a b
      exact ((kk hu o1 q).trans ti).trans (kk o2 hv b.symm)
    · exact kk hu hv q
  · intro c
    clear up ti kk
    have lt : ∀ {x y}, Conn ts R x y → y < n → x < n := by
      intro x y c hy
      cases c with
      | rfl => exact hy
      | tie a b d _ =>
        have := ok _ (List.mem_of_getElem? b)
        rcases d with ⟨rfl, _⟩ | ⟨_, rfl⟩
        · exact this.1
        · exact this.2
    induction c with
    | rfl => rfl
    | tie a b d c ih =>
      have hw := lt c hv
      rw [← ih hw hv]
      rcases (hR _).mp a with a | rfl
      · have : Conn ts S _ _ := .tie a b d (.rfl _)
        rw [(h.ker _ _ hu hw).mpr this]
      · rw [e] at b
        cases b
        rcases d with ⟨rfl, rfl⟩ | ⟨rfl, rfl⟩
        · by_cases q : m.getD t.1.toNat 0 = m.getD t.2.1.toNat 0 <;> simp
        · by_cases q : m.getD t.1.toNat 0 = m.getD t.2.1.toNat 0 <;> simp
/-- .. that closes one -/
theorem Mk.same (ok : TsOk n ts) (h : Mk n ts S m) {i : Nat} {t : Tie} (e : ts[i]? = some t) (q : m.getD t.1.toNat 0 = m.getD t.2.1.toNat 0) (hR : ∀ j, R j ↔ S j ∨ j = i) : Mk n ts R m := by
  have := h.join ok e hR
  rw [q] at this
  have e : ∀ b : Int, relab b b m = m := fun b => by
    unfold relab
    rw [List.map_congr_left (g := id) fun x _ => by simp; exact fun h => h.symm, List.map_id]
  rwa [e] at this
/-- one tie taken up: the marks, and the lots -/
theorem grow_step (ok : TsOk n ts) (h : Mk n ts S m) {F : List Nat} {i : Nat} (hi : i < ts.length) (hR : ∀ j, R j ↔ S j ∨ j = i) : Mk n ts R (growS ts (m, F) i).1 ∧ ((growS ts (m, F) i = (m, F) ∧ ndist (growS ts (m, F) i).1 = ndist m) ∨ ((growS ts (m, F) i).2 = F ++ [i] ∧ ndist (growS ts (m, F) i).1 + 1 = ndist m)) := by
  have e := List.getElem?_eq_getElem hi
  generalize ts[i] = t at e
  obtain ⟨o1, o2⟩ := ok t (List.mem_of_getElem? e)
  unfold growS
  simp only [e]
  by_cases q : m.getD t.1.toNat 0 = m.getD t.2.1.toNat 0
  · rw [if_pos q]
    exact ⟨h.same ok e q hR, .inl ⟨rfl, rfl⟩⟩
  · rw [if_neg q]
    refine ⟨h.join ok e hR, .inr ⟨rfl, ?_⟩⟩
    have := ndist_relab (m := m) q
    have m1 : ∀ u, u < n → m.getD u 0 ∈ m := fun u hu => by
      have hu : u < m.length := by rw [h.len]; exact hu
      rw [List.getD_eq_getElem?_getD, List.getElem?_eq_getElem hu]
      exact List.getElem_mem hu
    rw [if_pos ⟨m1 _ o1, m1 _ o2⟩] at this
    exact this
/-- ties taken up -/
theorem grow_run (ok : TsOk n ts) : ∀ {os : List Nat} {S : Nat → Prop} {m : List Int} {F : List Nat}, Mk n ts S m → (∀ i ∈ os, i < ts.length) → ∃ G, Mk n ts (fun j => S j ∨ j ∈ os) (growL ts (m, F) os).1 ∧ (growL ts (m, F) os).2 = F ++ G ∧ G.Sublist os ∧ ndist (growL ts (m, F) os).1 + G.length = ndist m
  | [], S, m, F, h, _ => ⟨[], h.ext (by simp), by simp [growL], by simp, by simp [growL]⟩
  | i :: os, S, m, F, h, ho => by
    obtain ⟨h1, h2⟩ := grow_step (F := F) (R := fun j => S j ∨ j = i) ok h (ho i (by simp)) fun _ => Iff.rfl
    have e : growL ts (m, F) (i :: os) = growL ts ((growS ts (m, F) i).1, (growS ts (m, F) i).2) os := rfl
    obtain ⟨G, g1, g2, g3, g4⟩ := grow_run (os := os) ok (F := (growS ts (m, F) i).2) h1 fun j hj => ho j (List.mem_cons_of_mem _ hj)
    rw [e]
    refine h2.elim (fun h2 => ⟨G, g1.ext fun j => by simp [or_assoc], ?_, g3.cons _, ?_⟩) (fun h2 => ⟨i :: G, g1.ext fun j => by simp [or_assoc], ?_, g3.cons_cons _, ?_⟩)
    · rw [g2, h2.1]
    · rw [g4, h2.2]
    · rw [g2, h2.1]; simp
    · simp only [List.length_cons]; omega
/-- the ties left out close rings with those taken up -/
theorem grow_span (ok : TsOk n ts) : ∀ {os : List Nat} {S : Nat → Prop} {m : List Int} {F : List Nat}, Mk n ts S m → (∀ j, S j ↔ j ∈ F) → (∀ i ∈ os, i < ts.length) → Mk n ts (fun j => j ∈ (growL ts (m, F) os).2) (growL ts (m, F) os).1
  | [], S, m, F, h, hS, _ => h.ext hS
  | i :: os, S, m, F, h, hS, ho => by
    have e : growL ts (m, F) (i :: os) = growL ts ((growS ts (m, F) i).1, (growS ts (m, F) i).2) os := rfl
    rw [e]
    have ho' : ∀ j ∈ os, j < ts.length := fun j hj => ho j (by simp [hj])
    obtain ⟨h1, h2⟩ := grow_step (F := F) (R := fun j => S j ∨ j = i) ok h (ho i (by simp)) fun _ => Iff.rfl
    rcases h2 with h2 | h2
    · rw [h2.1]
      exact grow_span ok h hS ho'
    · refine grow_span ok h1 (fun j => ?_) ho'
      rw [h2.1, hS]; simp
theorem sortN_perm (l : List Nat) : (sortN l).Perm l := List.mergeSort_perm _ _
theorem sortN_sorted (l : List Nat) : (sortN l).Pairwise (· ≤ ·) := by
  have := List.pairwise_mergeSort (le := fun a b : Nat => decide (a ≤ b)) (fun a b c h1 h2 => by simp at *; omega) (fun a b => by simp; omega) l
  exact this.imp fun h => by simpa using h
theorem sortN_id {l : List Nat} (h : l.Pairwise (· ≤ ·)) : sortN l = l := List.mergeSort_of_pairwise (h.imp fun h => by simpa using h)
/-- what is grown from all ties is a forest -/
theorem grown_forest (ok : TsOk n ts) {os : List Nat} (ho : ∀ i, i ∈ os ↔ i < ts.length) : grownF n ts (grownF n ts os ++ List.range ts.length) = grownF n ts os := by
  have m0 : Mk n ts (fun _ => False) (mk0 n) := mk_0 (by simp)
  have hF : ∀ i, i ∈ grownF n ts os → i < ts.length := fun i hi => by
    obtain ⟨G, _, g2, g3, _⟩ := grow_run ok (F := []) m0 fun i hi => (ho i).mp hi
    have : i ∈ (growL ts (mk0 n, []) os).2 := (sortN_perm _).mem_iff.mp hi
    rw [g2] at this
    exact (ho i).mp (g3.subset (by simpa using this))
  obtain ⟨G, g1, g2, g3, g4⟩ := grow_run ok (F := []) m0 fun i hi => (ho i).mp hi
  have sp := grow_span ok (F := []) m0 (by simp) fun i hi => (ho i).mp hi
  have e0 : grownF n ts os = sortN G := by unfold grownF; rw [g2]; simp
  rw [e0] at hF ⊢
  obtain ⟨H, h1, h2, h3, h4⟩ := grow_run ok (F := []) m0 hF
  have d1 : ndist (growL ts (mk0 n, []) (sortN G)).1 = ndist (growL ts (mk0 n, []) os).1 := by
    refine Mk.dist h1 (sp.ext fun j => ?_)
    rw [g2]
    simp only [List.nil_append, false_or]
    exact (sortN_perm G).mem_iff.symm
  have lg : (sortN G).length = G.length := (sortN_perm G).length_eq
  have hH : H = sortN G := h3.eq_of_length (by omega)
  subst hH
  have sp2 := grow_span ok (F := []) m0 (by simp) hF
  obtain ⟨K, k1, k2, k3, k4⟩ := grow_run ok (F := (growL ts (mk0 n, []) (sortN G)).2) h1 (os := List.range ts.length) (by simp)
  have d2 : ndist (growL ts ((growL ts (mk0 n, []) (sortN G)).1, (growL ts (mk0 n, []) (sortN G)).2) (List.range ts.length)).1 = ndist (growL ts (mk0 n, []) os).1 := by
    refine Mk.dist (k1.ext (R := fun j => False ∨ j ∈ os) fun j => ?_) g1
    simp only [false_or, List.mem_range, ho]
    exact ⟨fun h => h.elim (hF j) id, .inr⟩
  have hK : K = [] := List.length_eq_zero_iff.mp (by omega)
  have ee : growL ts (mk0 n, []) (sortN G ++ List.range ts.length) = growL ts ((growL ts (mk0 n, []) (sortN G)).1, (growL ts (mk0 n, []) (sortN G)).2) (List.range ts.length) := List.foldl_append
  unfold grownF
  rw [ee, k2, h2, hK]
  simp only [List.nil_append, List.append_nil]
  exact sortN_id (sortN_sorted G)
/-- found ones rise -/
theorem grow_nd (ok : TsOk n ts) : ∀ {os : List Nat} {S : Nat → Prop} {m : List Int} {F : List Nat}, Mk n ts S m → (∀ j ∈ F, S j) → F.Nodup → (∀ i ∈ os, i < ts.length) → (growL ts (m, F) os).2.Nodup
  | [], S, m, F, h, _, nd, _ => nd
  | i :: os, S, m, F, h, hS, nd, ho => by
    have e : growL ts (m, F) (i :: os) = growL ts ((growS ts (m, F) i).1, (growS ts (m, F) i).2) os := rfl
    rw [e]
    have ho' : ∀ j ∈ os, j < ts.length := fun j hj => ho j (by simp [hj])
    have hi := ho i (by simp)
    obtain ⟨h1, h2⟩ := grow_step (F := F) (R := fun j => S j ∨ j = i) ok h hi fun _ => Iff.rfl
    by_cases q : growS ts (m, F) i = (m, F)
    · rw [q]
      exact grow_nd ok h hS nd ho'
    · have h2 := h2.resolve_left fun h => q h.1
      refine grow_nd ok h1 (fun j hj => ?_) ?_ ho'
      · rw [h2.1] at hj
        rcases List.mem_append.mp hj with hj | hj
        · exact .inl (hS j hj)
        · exact .inr (List.mem_singleton.mp hj)
      · rw [h2.1]
        have ni : i ∉ F := fun hF => by
          have e := List.getElem?_eq_getElem hi
          obtain ⟨o1, o2⟩ := ok _ (List.mem_of_getElem? e)
          refine q ?_
          have c := (h.ker _ _ o1 o2).mpr (.one (hS i hF) e)
          unfold growS
          simp only [e]
          rw [if_pos c]
        rw [List.nodup_append]
        exact ⟨nd, by simp, fun a ha b hb hab => by
          rw [List.mem_singleton] at hb
          exact ni (hb ▸ hab ▸ ha)⟩
theorem grown_rise (ok : TsOk n ts) {os : List Nat} (ho : ∀ i ∈ os, i < ts.length) : (grownF n ts os).Pairwise (· < ·) := by
  have nd := grow_nd ok (F := []) (mk_0 (S := fun _ => False) (by simp)) (by simp) (by simp) ho
  have nd := (sortN_perm _).nodup_iff.mpr nd
  have s := sortN_sorted (growL ts (mk0 n, []) os).2
  exact (List.Pairwise.and s nd).imp fun h => by omega
theorem grown_mem (ok : TsOk n ts) {os : List Nat} (ho : ∀ i ∈ os, i < ts.length) : ∀ i ∈ grownF n ts os, i ∈ os := fun i hi => by
  obtain ⟨G, _, g2, g3, _⟩ := grow_run ok (F := []) (mk_0 (S := fun _ => False) (by simp)) ho
  have : i ∈ (growL ts (mk0 n, []) os).2 := (sortN_perm _).mem_iff.mp hi
  rw [g2] at this
  exact g3.subset (by simpa using this)
end
end Ev
namespace Ev
open PySem
/-- a row of ties' numbers, each below k -/
noncomputable def isRowD (k : Nat) (d : D) : Bool := match d with
  | .tup xs => xs.all fun x => isNum x k
  | _ => false
noncomputable def rowD (r : List Nat) : List D := r.map fun i => D.int (i : Nat)
theorem isNum_of {d : D} {k : Nat} (h : isNum d k = true) : ∃ i : Nat, d = .int i ∧ i < k := by
  unfold isNum at h
  split at h
  · rename_i i
    simp only [Bool.and_eq_true, decide_eq_true_eq] at h
    obtain ⟨n, rfl⟩ := Int.eq_ofNat_of_zero_le h.1
    exact ⟨n, rfl, by omega⟩
  · cases h
theorem rowD_all {k : Nat} {xs : List D} (h : (xs.all fun x => isNum x k) = true) : ∃ r : List Nat, xs = rowD r ∧ ∀ i ∈ r, i < k := by
  induction xs with
  | nil => exact ⟨[], rfl, by simp⟩
  | cons x xs ih =>
    rw [List.all_cons, Bool.and_eq_true] at h
    obtain ⟨i, rfl, hi⟩ := isNum_of h.1
    obtain ⟨r, rfl, hr⟩ := ih h.2
    exact ⟨i :: r, rfl, by simp; exact ⟨hi, hr⟩⟩
theorem row_back {r : List Nat} : (rowD r).map (fun x => match x with | .int i => i.toNat | _ => 0) = r := by
  unfold rowD
  rw [List.map_map]
  conv => rhs; rw [← List.map_id r]
  rfl
theorem at_ties {ts : List Tie} {i : Nat} {t : Tie} (h : ts[i]? = some t) : L2.atI (ts.map tieD) (i : Int) = some (tieD t) := by
  apply atI_nat
  rw [List.getElem?_map, h]
  rfl
theorem isRowD_of {k : Nat} {d : D} (h : isRowD k d = true) : ∃ r : List Nat, d = .tup (rowD r) ∧ ∀ i ∈ r, i < k := by
  cases d <;> first | cases h | skip
  obtain ⟨r, rfl, hr⟩ := rowD_all h
  exact ⟨r, rfl, hr⟩
theorem row_of {k : Nat} {r : List Nat} (h : ∀ i ∈ r, i < k) : isRowD k (.tup (rowD r)) = true := by
  show ((rowD r).all fun x => isNum x k) = true
  rw [List.all_eq_true]
  intro x hx
  obtain ⟨i, hi, rfl⟩ := List.mem_map.mp hx
  have := h i hi
  simp only [isNum, Bool.and_eq_true, decide_eq_true_eq]
  omega
theorem cut_take {xs : List D} {k : Nat} : cutD xs none (some (k : Int)) = xs.take k := by
  unfold cutD
  rw [HT.sIx_none, HT.sIx_nat, List.drop_zero, Nat.sub_zero]
  by_cases h : k ≤ xs.length
  · rw [Nat.min_eq_left h]
  · rw [Nat.min_eq_right (by omega), List.take_of_length_le (Nat.le_refl _), List.take_of_length_le (by omega)]
end Ev
namespace Ev
open PySem
mutual
noncomputable def pyD : D → PyData
  | .non => .none
  | .bl b => .bool b
  | .int i => .int i
  | .tup xs => .tuple (pysD xs)
  | _ => .none
noncomputable def pysD : List D → List PyData
  | [] => []
  | x :: r => pyD x :: pysD r
end
/-- plain data: rows of at most m things, so many deep -/
inductive Pl (m : Nat) : Nat → D → Prop
  | non {n : Nat} : Pl m n .non
  | bl {n : Nat} (b : Bool) : Pl m n (.bl b)
  | int {n : Nat} (i : Int) : Pl m n (.int i)
  | tup {n : Nat} {xs : List D} : xs.length ≤ m → (∀ x ∈ xs, Pl m n x) → Pl m (n + 1) (.tup xs)
theorem Pl.up {m n : Nat} {d : D} (h : Pl m n d) : ∀ {l j : Nat}, m ≤ l → n ≤ j → Pl l j d := by
  induction h with
  | non => exact fun _ _ => .non
  | bl b => exact fun _ _ => .bl b
  | int i => exact fun _ _ => .int i
  | tup h1 _ ih =>
    intro l j hl hj
    cases j with
    | zero => omega
    | succ j => exact .tup (by omega) fun x hx => ih x hx hl (by omega)
theorem Pl.tup_in {m n : Nat} {xs : List D} (h : Pl m (n + 1) (.tup xs)) : xs.length ≤ m ∧ ∀ x ∈ xs, Pl m n x := by
  cases h with
  | tup h1 h2 => exact ⟨h1, h2⟩
theorem toPys_of {st : Stt} {F : Nat} : ∀ {xs : List D} {g : Nat}, (∀ x ∈ xs, ∀ f, F ≤ f → toPy st f x = some (pyD x)) → F + xs.length + 1 ≤ g → toPys st g xs = some (pysD xs)
  | [], g, _, hg => by
    cases g with
    | zero => omega
    | succ g => rfl
  | x :: r, g, h, hg => by
    cases g with
    | zero => omega
    | succ g =>
      simp only [List.length_cons] at hg
      have h1 := h x (by simp) g (by omega)
      have h2 := toPys_of (xs := r) (g := g) (fun y hy => h y (List.mem_cons_of_mem _ hy)) (by omega)
      simp only [toPys, h1, h2, pysD]
theorem toPy_of {st : Stt} {m n : Nat} {x : D} (h : Pl m n x) : ∀ f, n * (m + 2) + 1 ≤ f → toPy st f x = some (pyD x) := by
  induction h with
  | non => intro f hf; cases f with | zero => omega | succ f => rfl
  | bl b => intro f hf; cases f with | zero => omega | succ f => rfl
  | int i => intro f hf; cases f with | zero => omega | succ f => rfl
  | @tup n xs h1 _ ih =>
    intro f hf
    cases f with
    | zero => omega
    | succ f =>
      rw [Nat.succ_mul] at hf
      have := toPys_of (st := st) (xs := xs) (g := f) (fun x hx f hf => ih x hx f hf) (by omega)
      simp only [toPy, this, pyD, Option.map_some]
theorem lay_all {xs : List D} (h : ∀ x ∈ xs, (pyD x).canLay0 = true) : PyData.canLayAll0 (pysD xs) = true := by
  induction xs with
  | nil => rfl
  | cons x r ih => simp only [pysD, PyData.canLayAll0, h x (by simp), ih fun y hy => h y (List.mem_cons_of_mem _ hy), Bool.and_self]
theorem lay_pl {m n : Nat} {x : D} (h : Pl m n x) : (pyD x).canLay0 = true := by
  induction h with
  | non => rfl
  | bl b => rfl
  | int i => rfl
  | tup _ _ ih => simp only [pyD, PyData.canLay0]; exact lay_all ih
theorem dep_all {k : Nat} {xs : List D} (h : ∀ x ∈ xs, (pyD x).depth ≤ k) : PyData.depthAll (pysD xs) ≤ k := by
  induction xs with
  | nil => exact Nat.zero_le _
  | cons x r ih =>
    simp only [pysD, PyData.depthAll]
    exact Nat.max_le.mpr ⟨h x (by simp), ih fun y hy => h y (List.mem_cons_of_mem _ hy)⟩
theorem dep_pl {m n : Nat} {x : D} (h : Pl m n x) : (pyD x).depth ≤ n := by
  induction h with
  | non => exact Nat.zero_le _
  | bl b => exact Nat.zero_le _
  | int i => exact Nat.zero_le _
  | tup _ _ ih => simp only [pyD, PyData.depth]; exact Nat.succ_le_succ (dep_all ih)
theorem shaped_pl {m n : Nat} {x : D} (h : Pl m n x) (hn : n ≤ 64) : SeqAt.shaped (pyD x) = true := by
  unfold SeqAt.shaped
  rw [lay_pl h, Bool.true_and, decide_eq_true_eq]
  exact Nat.le_trans (dep_pl h) hn
theorem eqv_nil {ys : List D} : PyData.eqvAll [] (pysD ys) = decide (ys.length = 0) := by cases ys <;> simp [pysD, PyData.eqvAll]
theorem eqv_nil2 {ys : List D} : PyData.eqvAll (pysD ys) [] = decide (ys.length = 0) := by cases ys <;> simp [pysD, PyData.eqvAll]
theorem eq_plX {st : Stt} {m n k l : Nat} {x y : D} (hx : Pl m n x) (hy : Pl k l y) (h3 : n ≤ 64) (h4 : l ≤ 64) : eqB st (.d x) (.d y) = some (PyData.eqv (pyD x) (pyD y)) := by
  have a : eqA st (.d x) (.d y) = some (PyData.eqv (pyD x) (pyD y)) := by
    have e1 := toPyX_of (toPy_of (st := st) hx _ (Nat.le_refl _))
    have e2 := toPyX_of (toPy_of (st := st) hy _ (Nat.le_refl _))
    unfold eqA toPyA
    simp only [e1, e2, shaped_pl hx h3, shaped_pl hy h4, and_self, if_true]
  unfold eqB
  cases e : emp2 st (.d x) (.d y) with
  | none => exact a
  | some r =>
    simp only
    cases hx <;> cases hy <;> simp only [emp2, tupOf, lstOf] at e <;> first | (cases e; done) | skip
    rename_i xs _ _ _ ys _ _
    split at e
    · rename_i c
      cases e
      simp only [pyD, PyData.eqv]
      rw [Bool.or_eq_true] at c
      rcases c with c | c
      · have : xs = [] := List.isEmpty_iff.mp c
        subst this
        simp only [pysD, eqv_nil, List.length_nil]
        congr 1
        exact decide_eq_decide.mpr (by omega)
      · have : ys = [] := List.isEmpty_iff.mp c
        subst this
        simp only [pysD, eqv_nil2, List.length_nil]
    · cases e
theorem eq_pl {st : Stt} {m n k l : Nat} {x y : D} (hx : Pl m n x) (hy : Pl k l y) (h1 : n * (m + 2) < 1000) (h2 : l * (k + 2) < 1000) (h3 : n ≤ 64) (h4 : l ≤ 64) : eqB st (.d x) (.d y) = some (PyData.eqv (pyD x) (pyD y)) := eq_plX hx hy h3 h4
end Ev
namespace Ev
open PySem
theorem net_ts {n : Int} {ts : List Tie} (w : NetOk n ts) : TsOk n.toNat ts := fun t ht => by
  obtain ⟨a, b, c, _⟩ := w.ok t ht
  exact ⟨by omega, by omega⟩
theorem sort_cast {F : List Nat} : (F.map fun i => ((i : Nat) : Int)).mergeSort (fun a b => decide (a ≤ b)) = (sortN F).map fun i => ((i : Nat) : Int) := by
  unfold sortN
  rw [List.map_mergeSort (s := fun a b : Int => decide (a ≤ b))]
  intro a _ b _
  simp
theorem rowD_ints {F : List Nat} : intsOf (rowD F) = some (F.map fun i => ((i : Nat) : Int)) := ints_map (ls := F) (f := fun i => ((i : Nat) : Int))
theorem bi_sortL {st : Stt} {l : Nat} {F : List Nat} (h : stLst st l = some (rowD F)) : biA "sorted" [.d (.loc l)] st = .ok (.l (rowD (sortN F))) st := by
  have e : biA "sorted" [.d (.loc l)] st = ofO (sortA (.d (.loc l)) st) st := rfl
  have h' : lstOf st (.d (.loc l)) = some (rowD F) := h
  rw [e]
  simp only [sortA, h', rowD_ints, Option.map_some, sort_cast]
  unfold rowD
  rw [List.map_map]
  rfl
theorem mk0_D {n : Nat} : (mk0 n).map D.int = rngI 0 n := by
  unfold mk0 rngI
  rw [List.map_map]
  apply List.map_congr_left
  intro k _
  simp
theorem rngI_row {n : Nat} : rngI 0 n = rowD (List.range n) := by
  unfold rngI rowD
  apply List.map_congr_left
  intro k _
  simp
noncomputable def rlF (a b : Int) (d : D) : D := match d with
  | .int x => if x = b then .int a else .int x
  | d => d
theorem rg_0n {n : Int} (h0 : 0 ≤ n) (h1 : n ≤ 1000) : rgOk 0 n = true := decide_eq_true (by omega)
theorem relab_D {a b : Int} {m : List Int} : (m.map D.int).map (rlF a b) = (relab a b m).map D.int := by
  unfold relab
  rw [List.map_map, List.map_map]
  apply List.map_congr_left
  intro x _
  show (if x = b then D.int a else .int x) = D.int (if x = b then a else x)
  split <;> rfl
theorem growL_take {ts : List Tie} {s : List Int × List Nat} {os : List Nat} {i j : Nat} (h : os[j]? = some i) : growL ts s (os.take (j + 1)) = growS ts (growL ts s (os.take j)) i := by
  unfold growL
  rw [List.take_add_one, h, Option.toList_some, List.foldl_append]
  rfl
theorem growS_len {ts : List Tie} {s : List Int × List Nat} {i : Nat} : (growS ts s i).1.length = s.1.length := by
  unfold growS
  split
  · rfl
  · split
    · rfl
    · exact relab_len
theorem growL_len {ts : List Tie} : ∀ {os : List Nat} {s : List Int × List Nat}, (growL ts s os).1.length = s.1.length
  | [], s => rfl
  | i :: os, s => by
    show (growL ts (growS ts s i) os).1.length = _
    rw [growL_len, growS_len]
theorem growS_fl {ts : List Tie} {s : List Int × List Nat} {i : Nat} : (growS ts s i).2.length ≤ s.2.length + 1 := by
  unfold growS
  split
  · omega
  · split
    · omega
    · simp
theorem growL_fl {ts : List Tie} : ∀ {os : List Nat} {s : List Int × List Nat}, (growL ts s os).2.length ≤ s.2.length + os.length
  | [], s => by simp [growL]
  | i :: os, s => by
    have h1 := growL_fl (ts := ts) (os := os) (s := growS ts s i)
    have h2 := growS_fl (ts := ts) (s := s) (i := i)
    show (growL ts (growS ts s i) os).2.length ≤ _
    simp only [List.length_cons]
    omega
theorem at_mark {m : List Int} {i : Int} (h0 : 0 ≤ i) (h1 : i < m.length) : L2.atI (m.map D.int) i = some (.int (m.getD i.toNat 0)) := by
  obtain ⟨k, rfl⟩ := Int.eq_ofNat_of_zero_le h0
  have hk : k < m.length := by omega
  rw [atI_nat (n := k) (x := .int m[k]) (by rw [List.getElem?_map, List.getElem?_eq_getElem hk]; rfl)]
  rw [List.getD_eq_getElem?_getD]
  simp [hk]
theorem live1 {s : Stt} {l : Nat} {xs : List D} (h : stLst s l = some xs) : liveOk s [(l, xs)] = true := by simp only [liveOk, List.all_cons, List.all_nil, Bool.and_true, h, sames_refl]
/-- a tie more -/
theorem growS_no {ts : List Tie} {m : List Int} {F : List Nat} {i : Nat} {t : Tie} (h : ts[i]? = some t) (q : m.getD t.1.toNat 0 = m.getD t.2.1.toNat 0) : growS ts (m, F) i = (m, F) := by
  unfold growS
  simp only [h]
  rw [if_pos q]
theorem growS_yes {ts : List Tie} {m : List Int} {F : List Nat} {i : Nat} {t : Tie} (h : ts[i]? = some t) (q : ¬ m.getD t.1.toNat 0 = m.getD t.2.1.toNat 0) : growS ts (m, F) i = (relab (m.getD t.1.toNat 0) (m.getD t.2.1.toNat 0) m, F ++ [i]) := by
  unfold growS
  simp only [h]
  rw [if_neg q]
end Ev
namespace Ev
open PySem
noncomputable def natsOf (xs : List D) : List Nat := xs.map fun x => match x with | .int i => i.toNat | _ => 0
theorem natsOf_row {r : List Nat} : natsOf (rowD r) = r := row_back
theorem row_pl {r : List Nat} (h : r.length ≤ 900) : Pl 900 1 (.tup (rowD r)) := .tup (by unfold rowD; rw [List.length_map]; exact h) fun x hx => by
  obtain ⟨i, _, rfl⟩ := List.mem_map.mp hx
  exact .int _
theorem eqvs_row : ∀ {r q : List Nat}, PyData.eqvAll (pysD (rowD r)) (pysD (rowD q)) = decide (r = q)
  | [], [] => rfl
  | [], _ :: _ => rfl
  | _ :: _, [] => rfl
  | a :: r, b :: q => by
    show (PyData.eqv (.int (a : Nat)) (.int (b : Nat)) && PyData.eqvAll (pysD (rowD r)) (pysD (rowD q))) = _
    rw [eqvs_row, Bool.eq_iff_iff]
    simp [PyData.eqv]
    omega
theorem eq_row {st : Stt} {r q : List Nat} (h1 : r.length ≤ 900) (h2 : q.length ≤ 900) : eqB st (.d (.tup (rowD r))) (.d (.tup (rowD q))) = some (decide (r = q)) := by
  rw [eq_pl (row_pl h1) (row_pl h2) (by decide) (by decide) (by decide) (by decide)]
  simp only [pyD, PyData.eqv, eqvs_row]
/-- a forest -/
noncomputable def forB (n : Nat) (ts : List Tie) (r : List Nat) : Bool := decide (grownF n ts (r ++ List.range ts.length) = r)
noncomputable def isForD (n : Nat) (ts : List Tie) (d : D) : Bool := isRowD ts.length d && match d with
  | .tup xs => forB n ts (natsOf xs)
  | _ => false
theorem for_row {n : Nat} {ts : List Tie} {r : List Nat} (h : ∀ i ∈ r, i < ts.length) : isForD n ts (.tup (rowD r)) = forB n ts r := by
  unfold isForD
  rw [row_of h, Bool.true_and]
  show forB n ts (natsOf (rowD r)) = _
  rw [natsOf_row]
theorem for_no {n : Nat} {ts : List Tie} {d : D} (h : isRowD ts.length d = false) : isForD n ts d = false := by
  unfold isForD; rw [h, Bool.false_and]
theorem grown_len {n : Nat} {ts : List Tie} {os : List Nat} : (grownF n ts os).length ≤ os.length := by
  unfold grownF
  rw [(sortN_perm _).length_eq]
  simpa using growL_fl (ts := ts) (os := os) (s := (mk0 n, []))
/-- rising -/
noncomputable def riseB : List Nat → Bool
  | a :: b :: r => decide (a < b) && riseB (b :: r)
  | _ => true
theorem riseB_of : ∀ {r : List Nat}, r.Pairwise (· < ·) → riseB r = true
  | [], _ => rfl
  | [_], _ => rfl
  | a :: b :: r, h => by
    rw [List.pairwise_cons] at h
    simp [riseB, h.1 b (by simp), riseB_of h.2]
theorem for_rise {n : Int} {ts : List Tie} {r : List Nat} (w : NetOk n ts) (h : ∀ i ∈ r, i < ts.length) (f : forB n.toNat ts r = true) : riseB r = true := by
  have f := of_decide_eq_true f
  rw [← f]
  refine riseB_of (grown_rise (net_ts w) fun i hi => ?_)
  rcases List.mem_append.mp hi with hi | hi
  · exact h i hi
  · exact List.mem_range.mp hi
noncomputable def risF (d : D) : Bool := match d with
  | .tup [.int a, .int b] => decide (a < b)
  | _ => false
theorem zip_rise : ∀ {r : List Nat}, (List.zipWith (fun u w => D.tup [u, w]) (rowD r) ((rowD r).drop 1)).map risF = (List.zipWith (fun a b => decide (a < b)) r (r.drop 1))
  | [] => rfl
  | [_] => rfl
  | a :: b :: r => by
    have ih := zip_rise (r := b :: r)
    simp only [rowD, List.map_cons, List.drop_succ_cons, List.drop_zero, List.zipWith_cons_cons] at ih ⊢
    rw [ih]
    simp [risF]
theorem all_rise : ∀ {r : List Nat}, (List.zipWith (fun a b => decide (a < b)) r (r.drop 1)).all id = riseB r
  | [] => rfl
  | [_] => rfl
  | a :: b :: r => by
    have ih := all_rise (r := b :: r)
    simp only [List.drop_succ_cons, List.drop_zero, List.zipWith_cons_cons, List.all_cons, riseB, id] at ih ⊢
    rw [ih]
theorem cut_dr1 {xs : List D} : cutD xs (some 1) none = xs.drop 1 := by
  show cutD xs (some ((1 : Nat) : Int)) none = xs.drop 1
  unfold cutD
  rw [HT.sIx_none, HT.sIx_nat]
  cases xs with
  | nil => rfl
  | cons a r =>
    rw [List.length_cons, Nat.min_eq_left (by omega)]
    show (r.drop 0).take _ = r.drop 0
    simp
noncomputable def mkF (m : List Int) (d : D) : D := match d with
  | .int i => .int (m.getD i.toNat 0)
  | d => d
end Ev
namespace Ev
open PySem
noncomputable def cmpN (n : Nat) (ts : List Tie) (os : List Nat) : Nat := ndist (growL ts (mk0 n, []) os).1
section
variable {n : Nat} {ts : List Tie} {os a b M : List Nat}
theorem filter_tot {p : Nat → Bool} : ∀ {G : List Nat}, (G.filter p).length + (G.filter (fun i => !p i)).length = G.length
  | [] => rfl
  | x :: r => by
    have ih := filter_tot (p := p) (G := r)
    cases q : p x <;> simp [List.filter_cons, q] <;> omega
theorem growL_app {s : List Int × List Nat} : growL ts s (a ++ b) = growL ts (growL ts s a) b := List.foldl_append
theorem run0 (ok : TsOk n ts) (ho : ∀ i ∈ os, i < ts.length) : ∃ G, Mk n ts (fun j => j ∈ os) (growL ts (mk0 n, []) os).1 ∧ (growL ts (mk0 n, []) os).2 = G ∧ G.Sublist os ∧ cmpN n ts os + G.length = ndist (mk0 n) := by
  obtain ⟨G, h1, h2, h3, h4⟩ := grow_run ok (mk_0 (n := n) (ts := ts) (S := fun _ => False) fun _ h => h) (F := []) ho
  exact ⟨G, h1.ext fun i => by simp, by simpa using h2, h3, h4⟩
theorem run2 (ok : TsOk n ts) (ha : ∀ i ∈ a, i < ts.length) (hb : ∀ i ∈ b, i < ts.length) : ∃ G1 G2, (growL ts (mk0 n, []) (a ++ b)).2 = G1 ++ G2 ∧ G1.Sublist a ∧ G2.Sublist b ∧ cmpN n ts a + G1.length = ndist (mk0 n) ∧ cmpN n ts (a ++ b) + G2.length = cmpN n ts a := by
  obtain ⟨G1, h1, h2, h3, h4⟩ := run0 ok ha
  have e : (growL ts (mk0 n, []) a) = ((growL ts (mk0 n, []) a).1, G1) := by rw [← h2]
  obtain ⟨G2, g1, g2, g3, g4⟩ := grow_run ok h1 (F := G1) hb
  refine ⟨G1, G2, ?_, h3, g3, h4, ?_⟩
  · rw [growL_app, e]; exact g2
  · unfold cmpN
    rw [growL_app, e]
    exact g4
theorem cmp_set (ok : TsOk n ts) (ha : ∀ i ∈ a, i < ts.length) (e : ∀ i, i ∈ a ↔ i ∈ b) : cmpN n ts a = cmpN n ts b := by
  obtain ⟨_, h1, _⟩ := run0 ok ha
  obtain ⟨_, g1, _⟩ := run0 (os := b) ok fun i hi => ha i ((e i).mpr hi)
  exact (h1.ext e).dist g1
theorem cmp_le (ok : TsOk n ts) (hb : ∀ i ∈ b, i < ts.length) (s : ∀ i ∈ a, i ∈ b) : cmpN n ts b ≤ cmpN n ts a := by
  obtain ⟨_, _, _, _, _, _, h⟩ := run2 ok (fun i hi => hb i (s i hi)) hb
  rw [cmp_set ok (a := a ++ b) (b := b) (fun i hi => (List.mem_append.mp hi).elim (fun h => hb i (s i h)) (hb i)) fun i => by
    rw [List.mem_append]
    exact ⟨fun h => h.elim (s i) id, .inr⟩] at h
  omega
theorem indep (ok : TsOk n ts) (ho : ∀ i ∈ os, i < ts.length) (p : Nat → Bool) : ((growL ts (mk0 n, []) os).2.filter p).length + cmpN n ts ((growL ts (mk0 n, []) os).2.filter p) ≤ ndist (mk0 n) := by
  obtain ⟨G, h1, h2, h3, h4⟩ := run0 ok ho
  have sp := grow_span ok (mk_0 (n := n) (ts := ts) (S := fun _ => False) fun _ h => h) (F := []) (fun j => by simp) ho
  rw [h2] at sp ⊢
  have hG : ∀ i ∈ G, i < ts.length := fun i hi => ho i (h3.subset hi)
  have cG : cmpN n ts G = cmpN n ts os := by
    obtain ⟨_, g1, _⟩ := run0 ok hG
    exact g1.dist sp
  have hA : ∀ i ∈ G.filter p, i < ts.length := fun i hi => hG i (List.mem_filter.mp hi).1
  have hB : ∀ i ∈ G.filter (fun i => !p i), i < ts.length := fun i hi => hG i (List.mem_filter.mp hi).1
  obtain ⟨_, G2, _, _, g3, _, g5⟩ := run2 ok hA hB
  rw [cmp_set ok (a := G.filter p ++ G.filter (fun i => !p i)) (b := G) (fun i hi => (List.mem_append.mp hi).elim (hA i) (hB i)) fun i => by
    simp only [List.mem_append, List.mem_filter]
    constructor
    · rintro (h | h) <;> exact h.1
    · intro h
      cases q : p i
      · exact .inr ⟨h, by simp⟩
      · exact .inl ⟨h, rfl⟩] at g5
  have len := g3.length_le
  have tot : (G.filter p).length + (G.filter (fun i => !p i)).length = G.length := by
    exact filter_tot
  omega
end
end Ev
namespace Ev
open PySem
end Ev
namespace Ev
open PySem
noncomputable def TreeN (n : Nat) (ts : List Tie) (F : List Nat) : Prop := F.Nodup ∧ (∀ i ∈ F, i < ts.length) ∧ cmpN n ts F + F.length = ndist (mk0 n)
section
variable {n : Nat} {ts : List Tie} {F : List Nat}
/-- a tie of a forest taken out parts its ends -/
theorem tree_cut (ok : TsOk n ts) (tr : TreeN n ts F) {i : Nat} {t : Tie} (hi : i ∈ F) (e : ts[i]? = some t) : ¬ Conn ts (fun j => j ∈ F ∧ j ≠ i) t.1.toNat t.2.1.toNat := by
  obtain ⟨nd, hF, c⟩ := tr
  intro h
  have mA : ∀ j, j ∈ F.filter (fun j => decide (j ≠ i)) ↔ j ∈ F ∧ j ≠ i := fun j => by rw [List.mem_filter, decide_eq_true_eq]
  obtain ⟨G, h1, h2, h3, h4⟩ := run0 (os := F.filter (fun j => decide (j ≠ i))) ok fun j hj => hF j ((mA j).mp hj).1
  obtain ⟨o1, o2⟩ := ok t (List.mem_of_getElem? e)
  have q := (h1.ker _ _ o1 o2).mpr (h.mono fun j hj => (mA j).mpr hj)
  have m2 := h1.same ok e q (R := fun j => j ∈ F) fun j => by
    rw [mA]
    constructor
    · intro hj
      by_cases z : j = i
      · exact .inr z
      · exact .inl ⟨hj, z⟩
    · rintro (hj | rfl)
      · exact hj.1
      · exact hi
  obtain ⟨_, g1, _, _, _⟩ := run0 (os := F) ok hF
  have eq : cmpN n ts F = cmpN n ts (F.filter (fun j => decide (j ≠ i))) := g1.dist m2
  have l1 := h3.length_le
  have l2 : (F.filter (fun j => decide (j ≠ i))).length < F.length := by
    have := filter_tot (p := fun j => decide (j ≠ i)) (G := F)
    have : 0 < (F.filter (fun j => !decide (j ≠ i))).length := List.length_pos_of_mem (List.mem_filter.mpr ⟨hi, by simp⟩)
    omega
  omega
/-- ties one behind the other -/
inductive RoadTo (ts : List Tie) (one : Nat) : Nat → List Nat → Prop
  | nil : RoadTo ts one one []
  | snoc {h h' i : Nat} {P : List Nat} {t : Tie} : RoadTo ts one h P → ts[i]? = some t → ((t.1.toNat = h ∧ t.2.1.toNat = h') ∨ (t.1.toNat = h' ∧ t.2.1.toNat = h)) → RoadTo ts one h' (P ++ [i])
/-- a forest that stays itself when all ties are taken up behind it -/
theorem forB_tree (ok : TsOk n ts) (hF : ∀ i ∈ F, i < ts.length) (h : forB n ts F = true) : TreeN n ts F ∧ ∀ (i : Nat) (t : Tie), ts[i]? = some t → Conn ts (fun j => j ∈ F) t.1.toNat t.2.1.toNat := by
  have e : grownF n ts (F ++ List.range ts.length) = F := of_decide_eq_true h
  have ho : ∀ i ∈ F ++ List.range ts.length, i < ts.length := fun i hi => (List.mem_append.mp hi).elim (hF i) List.mem_range.mp
  obtain ⟨G, h1, h2, h3, h4⟩ := run0 ok ho
  have sp := grow_span ok (mk_0 (n := n) (ts := ts) (S := fun _ => False) fun _ h => h) (F := []) (fun j => by simp) ho
  rw [h2] at sp
  have pe : G.Perm F := by
    have := sortN_perm G
    unfold grownF at e
    rw [h2] at e
    rw [e] at this
    exact this.symm
  have spF : Mk n ts (fun j => j ∈ F) (growL ts (mk0 n, []) (F ++ List.range ts.length)).1 := sp.ext fun j => pe.mem_iff
  have rise := grown_rise ok ho
  rw [e] at rise
  obtain ⟨_, g1, _, _, _⟩ := run0 (os := F) ok hF
  have cF : cmpN n ts F = cmpN n ts (F ++ List.range ts.length) := g1.dist spF
  refine ⟨⟨rise.imp fun h => by omega, hF, by rw [cF, ← pe.length_eq]; exact h4⟩, fun i t ht => ?_⟩
  obtain ⟨o1, o2⟩ := ok t (List.mem_of_getElem? ht)
  refine (spF.ker _ _ o1 o2).mp ((h1.ker _ _ o1 o2).mpr (.one ?_ ht))
  exact List.mem_append.mpr (.inr (List.mem_range.mpr (List.getElem?_eq_some_iff.mp ht).1))
/-- t lies between h and v -/
noncomputable def Btw (t : Tie) (h v : Nat) : Prop := (t.1.toNat = h ∧ t.2.1.toNat = v) ∨ (t.1.toNat = v ∧ t.2.1.toNat = h)
/-- what is known of the roads told so far -/
structure Rds (ts : List Tie) (F : List Nat) (one : Nat) (R : List (Nat × List Nat)) : Prop where
  nd : (R.map (·.1)).Nodup
  st : one ∈ R.map (·.1)
  row : ∀ q ∈ R, RoadTo ts one q.1 q.2 ∧ q.2.Nodup ∧ (∀ i ∈ q.2, i ∈ F) ∧ ∀ i ∈ q.2, ∀ t, ts[i]? = some t → t.1.toNat ∈ R.map (·.1) ∧ t.2.1.toNat ∈ R.map (·.1)
theorem Rds.start {one : Nat} : Rds ts F one [(one, [])] := ⟨by simp, by simp, fun q hq => by
  rw [List.mem_singleton.mp hq]
  exact ⟨.nil, List.nodup_nil, by simp, by simp⟩⟩
/-- a house more -/
theorem Rds.put {one here there i : Nat} {P : List Nat} {t : Tie} {R : List (Nat × List Nat)} (h : Rds ts F one R) (hq : (here, P) ∈ R) (hi : i ∈ F) (e : ts[i]? = some t) (d : Btw t here there) (new : there ∉ R.map (·.1)) : Rds ts F one (R ++ [(there, P ++ [i])]) := by
  obtain ⟨r1, r2, r3, r4⟩ := h.row _ hq
  have mk : (R ++ [(there, P ++ [i])]).map (·.1) = R.map (·.1) ++ [there] := by simp
  have hm : here ∈ R.map (·.1) := List.mem_map.mpr ⟨_, hq, rfl⟩
  have ni : i ∉ P := fun m => by
    obtain ⟨a, b⟩ := r4 i m t e
    rcases d with ⟨_, rfl⟩ | ⟨rfl, _⟩
    · exact new b
    · exact new a
  refine ⟨?_, ?_, fun q hq => ?_⟩
  · rw [mk, List.nodup_append]
    exact ⟨h.nd, by simp, fun a ha b hb z => by
      rw [List.mem_singleton] at hb
      subst hb
      exact new (z ▸ ha)⟩
  · rw [mk]
    exact List.mem_append.mpr (.inl h.st)
  · rw [mk]
    rcases List.mem_append.mp hq with hq | hq
    · obtain ⟨q1, q2, q3, q4⟩ := h.row _ hq
      exact ⟨q1, q2, q3, fun j hj t' e' => ⟨List.mem_append.mpr (.inl (q4 j hj t' e').1), List.mem_append.mpr (.inl (q4 j hj t' e').2)⟩⟩
    · rw [List.mem_singleton] at hq
      subst hq
      refine ⟨.snoc r1 e d, ?_, fun j hj => ?_, fun j hj t' e' => ?_⟩
      · rw [List.nodup_append]
        exact ⟨r2, by simp, fun a ha b hb z => by
          rw [List.mem_singleton] at hb
          subst hb
          exact ni (z ▸ ha)⟩
      · rcases List.mem_append.mp hj with hj | hj
        · exact r3 j hj
        · rw [List.mem_singleton.mp hj]; exact hi
      · rcases List.mem_append.mp hj with hj | hj
        · exact ⟨List.mem_append.mpr (.inl (r4 j hj t' e').1), List.mem_append.mpr (.inl (r4 j hj t' e').2)⟩
        · rw [List.mem_singleton.mp hj, e] at e'
          cases e'
          rcases d with ⟨rfl, rfl⟩ | ⟨rfl, rfl⟩
          · exact ⟨List.mem_append.mpr (.inl hm), by simp⟩
          · exact ⟨by simp, List.mem_append.mpr (.inl hm)⟩
end
end Ev
namespace Ev
open PySem
end Ev
namespace Ev
open PySem
section
variable {n : Nat} {ts : List Tie} {F : List Nat} {a b : Nat}
theorem forB_rise (ok : TsOk n ts) (hF : ∀ i ∈ F, i < ts.length) (h : forB n ts F = true) : F.Pairwise (· < ·) := by
  have e : grownF n ts (F ++ List.range ts.length) = F := of_decide_eq_true h
  have ho : ∀ i ∈ F ++ List.range ts.length, i < ts.length := fun i hi => (List.mem_append.mp hi).elim (hF i) List.mem_range.mp
  have rise := grown_rise ok ho
  rwa [e] at rise
end
end Ev
namespace Ev
open PySem
noncomputable def cntL (l : List Int) (c : Int) : Nat := (l.filter fun a => decide (a ≤ c)).length
theorem cntL_cons {a c : Int} {l : List Int} : cntL (a :: l) c = (if a ≤ c then 1 else 0) + cntL l c := by
  unfold cntL
  rw [List.filter_cons]
  by_cases h : a ≤ c
  · rw [if_pos (by simpa using h), if_pos h, List.length_cons]; omega
  · rw [if_neg (by simpa using h), if_neg h]; omega
/-- counts below one bound after the other -/
noncomputable def sumN (f : Nat → Nat) : Nat → Nat
  | 0 => 0
  | n + 1 => sumN f n + f n
theorem sumN_add {f g : Nat → Nat} : ∀ n, sumN (fun k => f k + g k) n = sumN f n + sumN g n
  | 0 => rfl
  | n + 1 => by simp only [sumN, sumN_add n]; omega
theorem sumN_le {f g : Nat → Nat} (h : ∀ k, f k ≤ g k) : ∀ n, sumN f n ≤ sumN g n
  | 0 => Nat.le_refl _
  | n + 1 => by
    have := sumN_le h n
    have := h n
    simp only [sumN]
    omega
theorem sumN_eq {f g : Nat → Nat} (h : ∀ k, f k ≤ g k) : ∀ n, sumN f n = sumN g n → ∀ k, k < n → f k = g k
  | 0, _, k, hk => absurd hk (Nat.not_lt_zero _)
  | n + 1, e, k, hk => by
    have h1 := sumN_le h n
    have h2 := h n
    simp only [sumN] at e
    rcases Nat.lt_succ_iff_lt_or_eq.mp hk with q | q
    · exact sumN_eq h n (by omega) k q
    · subst q; omega
theorem sumN_step {a m : Int} (h0 : m ≤ a) : ∀ n : Nat, (sumN (fun k => if a ≤ m + (k : Int) then 1 else 0) n : Int) = if a ≤ m + (n : Int) then m + n - a else 0
  | 0 => by
    simp only [sumN]
    split <;> omega
  | n + 1 => by
    have ih := sumN_step h0 n
    simp only [sumN]
    push_cast
    rw [ih]
    split <;> split <;> omega
theorem sum_cnt {m : Int} {n : Nat} : ∀ {l : List Int}, (∀ a ∈ l, m ≤ a ∧ a ≤ m + n) → (sumN (fun k => cntL l (m + (k : Int))) n : Int) = (m + n) * l.length - l.sum
  | [], _ => by
    have : ∀ n, sumN (fun _ => 0) n = 0 := fun n => by
      induction n with
      | zero => rfl
      | succ n ih => simp only [sumN, ih]
    have e : (fun k : Nat => cntL [] (m + (k : Int))) = fun _ => 0 := rfl
    rw [e, this]
    simp
  | a :: l, h => by
    have ih := sum_cnt (m := m) (n := n) (l := l) fun x hx => h x (by simp [hx])
    obtain ⟨h0, h1⟩ := h a (by simp)
    have e : (fun k : Nat => cntL (a :: l) (m + (k : Int))) = fun k : Nat => (if a ≤ m + (k : Int) then 1 else 0) + cntL l (m + (k : Int)) := by
      funext k
      exact cntL_cons
    rw [e, sumN_add]
    push_cast
    rw [ih, sumN_step h0, if_pos h1, List.length_cons, List.sum_cons]
    push_cast
    rw [Int.mul_add]
    omega
theorem lo_hi : ∀ l : List Int, ∃ (m : Int) (n : Nat), ∀ a ∈ l, m ≤ a ∧ a ≤ m + n
  | [] => ⟨0, 0, by simp⟩
  | x :: l => by
    obtain ⟨m, n, h⟩ := lo_hi l
    refine ⟨min m x, (max (m + n) x - min m x).toNat, fun a ha => ?_⟩
    rcases List.mem_cons.mp ha with rfl | ha
    · omega
    · have := h a ha
      omega
/-- fewer below each bound: no lesser sum, and the like one only of the like counts -/
theorem sum_by_cnt {a b : List Int} (hl : a.length = b.length) (h : ∀ c, cntL a c ≤ cntL b c) : b.sum ≤ a.sum ∧ (a.sum = b.sum ↔ ∀ c, cntL a c = cntL b c) := by
  obtain ⟨m, n, hb⟩ := lo_hi (a ++ b)
  have h1 := sum_cnt (m := m) (n := n) (l := a) fun x hx => hb x (by simp [hx])
  have h2 := sum_cnt (m := m) (n := n) (l := b) fun x hx => hb x (by simp [hx])
  have h3 := sumN_le (fun k => h (m + (k : Int))) n
  rw [hl] at h1
  refine ⟨by omega, fun e c => ?_, fun e => ?_⟩
  · have h4 := sumN_eq (fun k => h (m + (k : Int))) n (by omega)
    have full : ∀ l : List Int, (∀ x ∈ l, x ≤ c) → cntL l c = l.length := fun l hx => by
      unfold cntL
      rw [List.filter_eq_self.mpr fun x hy => by simpa using hx x hy]
    have none : ∀ l : List Int, (∀ x ∈ l, ¬ x ≤ c) → cntL l c = 0 := fun l hx => by
      unfold cntL
      rw [List.filter_eq_nil_iff.mpr fun x hy => by simpa using hx x hy]
      rfl
    rcases Int.lt_or_le c m with q | q
    · rw [none a fun x hx => by have := hb x (by simp [hx]); omega, none b fun x hx => by have := hb x (by simp [hx]); omega]
    · rcases Int.lt_or_le c (m + n) with q2 | q2
      · have := h4 (c - m).toNat (by omega)
        rwa [show m + ((c - m).toNat : Int) = c by omega] at this
      · rw [full a fun x hx => by have := hb x (by simp [hx]); omega, full b fun x hx => by have := hb x (by simp [hx]); omega, hl]
  · have : sumN (fun k => cntL a (m + (k : Int))) n = sumN (fun k => cntL b (m + (k : Int))) n := by
      congr 1
      funext k
      exact e _
    omega
section
variable {n : Nat} {ts : List Tie} {F : List Nat} {S R : Nat → Prop}
theorem Conn.by_ties {u v : Nat} (h : Conn ts S u v) (k : ∀ i t, S i → ts[i]? = some t → Conn ts R t.1.toNat t.2.1.toNat) : Conn ts R u v := by
  induction h with
  | rfl u => exact .rfl u
  | tie a b d _ ih =>
    have := k _ _ a b
    rcases d with ⟨rfl, rfl⟩ | ⟨rfl, rfl⟩
    · exact this.trans ih
    · exact this.symm.trans ih
/-- the ties of a forest up to a worth -/
noncomputable def upTo (w : Nat → Int) (F : List Nat) (c : Int) : List Nat := F.filter fun i => decide (w i ≤ c)
theorem mem_upTo {w : Nat → Int} {c : Int} {i : Nat} : i ∈ upTo w F c ↔ i ∈ F ∧ w i ≤ c := by
  unfold upTo
  rw [List.mem_filter, decide_eq_true_eq]
theorem cnt_upTo {w : Nat → Int} {c : Int} : cntL (F.map w) c = (upTo w F c).length := by
  unfold cntL upTo
  rw [List.filter_map, List.length_map]
  rfl
/-- a forest: a tree's ties, and every tie's ends hang together by them -/
structure Frst (n : Nat) (ts : List Tie) (F : List Nat) : Prop where
  tr : TreeN n ts F
  sp : ∀ (i : Nat) (t : Tie), ts[i]? = some t → Conn ts (fun j => j ∈ F) t.1.toNat t.2.1.toNat
/-- each tie's ends hang together by ties of the forest that are worth no more -/
noncomputable def Opt (ts : List Tie) (w : Nat → Int) (F : List Nat) : Prop := ∀ (i : Nat) (t : Tie), ts[i]? = some t → Conn ts (fun j => j ∈ F ∧ w j ≤ w i) t.1.toNat t.2.1.toNat
/-- how many ties up to a worth a forest can have -/
theorem cnt_tree (ok : TsOk n ts) (tr : TreeN n ts F) {w : Nat → Int} {c : Int} : (upTo w F c).length + cmpN n ts (upTo w F c) = ndist (mk0 n) := by
  obtain ⟨nd, hF, cc⟩ := tr
  have hA : ∀ i ∈ upTo w F c, i < ts.length := fun i hi => hF i (mem_upTo.mp hi).1
  obtain ⟨G, g1, g2, g3, g4⟩ := run0 ok hA
  have l1 := g3.length_le
  obtain ⟨G', h1, h2, h3, h4⟩ := run0 ok hF
  have hG : G' = F := h3.eq_of_length (by omega)
  have i1 := indep ok hF fun i => decide (w i ≤ c)
  rw [h2, hG] at i1
  have e : F.filter (fun i => decide (w i ≤ c)) = upTo w F c := rfl
  rw [e] at i1
  omega
theorem opt_cnt (ok : TsOk n ts) (f : Frst n ts F) {w : Nat → Int} : Opt ts w F ↔ ∀ c, cmpN n ts (upTo w F c) = cmpN n ts (upTo w (List.range ts.length) c) := by
  have hA : ∀ c, ∀ i ∈ upTo w F c, i < ts.length := fun c i hi => f.tr.2.1 i (mem_upTo.mp hi).1
  have hB : ∀ c, ∀ i ∈ upTo w (List.range ts.length) c, i < ts.length := fun c i hi => List.mem_range.mp (mem_upTo.mp hi).1
  constructor
  · intro h c
    obtain ⟨_, h1, _⟩ := run0 ok (hA c)
    obtain ⟨_, g1, _⟩ := run0 ok (hB c)
    have k1 : Mk n ts (fun j => j ∈ upTo w F c) (growL ts (mk0 n, []) (upTo w (List.range ts.length) c)).1 := ⟨g1.len, fun u v hu hv => (g1.ker u v hu hv).trans ⟨fun q => q.by_ties fun i t hi e => (h i t e).mono fun j hj => mem_upTo.mpr ⟨hj.1, by have := (mem_upTo.mp hi).2; omega⟩, fun q => q.mono fun j hj => mem_upTo.mpr ⟨List.mem_range.mpr (hA c j hj), (mem_upTo.mp hj).2⟩⟩⟩
    exact h1.dist k1
  · intro h i t e
    have hi := (List.getElem?_eq_some_iff.mp e).1
    obtain ⟨o1, o2⟩ := ok t (List.mem_of_getElem? e)
    obtain ⟨_, h1, _⟩ := run0 ok (hA (w i))
    refine ((h1.ker _ _ o1 o2).mp ?_).mono fun j hj => mem_upTo.mp hj
    refine Decidable.byContradiction fun ne => ?_
    have hab : ∀ j ∈ upTo w F (w i) ++ [i], j < ts.length := fun j hj => (List.mem_append.mp hj).elim (hA _ j) fun q => by rw [List.mem_singleton.mp q]; exact hi
    have step := grow_step (F := (growL ts (mk0 n, []) (upTo w F (w i))).2) (R := fun j => j ∈ upTo w F (w i) ∨ j = i) ok h1 hi fun _ => Iff.rfl
    have e2 : growL ts (mk0 n, []) (upTo w F (w i) ++ [i]) = growS ts ((growL ts (mk0 n, []) (upTo w F (w i))).1, (growL ts (mk0 n, []) (upTo w F (w i))).2) i := growL_app
    have c1 : cmpN n ts (upTo w F (w i) ++ [i]) + 1 = cmpN n ts (upTo w F (w i)) := by
      unfold cmpN
      rw [e2]
      rcases step.2 with ⟨q, _⟩ | ⟨_, q⟩
      · exfalso
        have q2 := congrArg (·.2) q
        unfold growS at q2
        simp only [e] at q2
        rw [if_neg ne] at q2
        have := congrArg List.length q2
        simp at this
      · exact q
    have c2 := cmp_le ok (a := upTo w F (w i) ++ [i]) (b := upTo w (List.range ts.length) (w i)) (hB _) fun j hj => by
      rcases List.mem_append.mp hj with q | q
      · exact mem_upTo.mpr ⟨List.mem_range.mpr (hA _ j q), (mem_upTo.mp q).2⟩
      · rw [List.mem_singleton.mp q]
        exact mem_upTo.mpr ⟨List.mem_range.mpr hi, Int.le_refl _⟩
    have := h (w i)
    omega
/-- the forest that ties give, taken up by their worths, is such -/
theorem greedy_opt (ok : TsOk n ts) {os : List Nat} (mem : ∀ i, i ∈ os ↔ i < ts.length) {w : Nat → Int} (srt : os.Pairwise fun a b => w a ≤ w b) : Frst n ts (grownF n ts os) ∧ Opt ts w (grownF n ts os) := by
  have ho : ∀ i ∈ os, i < ts.length := fun i hi => (mem i).mp hi
  have hF : ∀ i ∈ grownF n ts os, i < ts.length := fun i hi => ho i (grown_mem ok ho i hi)
  obtain ⟨tr, sp⟩ := forB_tree ok hF (decide_eq_true (grown_forest ok mem))
  refine ⟨⟨tr, sp⟩, fun i t e => ?_⟩
  have hi := (mem i).mpr (List.getElem?_eq_some_iff.mp e).1
  obtain ⟨o1, o2⟩ := ok t (List.mem_of_getElem? e)
  obtain ⟨a, b, rfl⟩ := List.append_of_mem hi
  have ha : ∀ j ∈ a ++ [i], j < ts.length := fun j hj => ho j (by
    rcases List.mem_append.mp hj with q | q
    · simp [q]
    · simp [List.mem_singleton.mp q])
  have sp := grow_span ok (mk_0 (n := n) (ts := ts) (S := fun _ => False) fun _ h => h) (F := []) (fun j => by simp) ha
  obtain ⟨G, h1, h2, h3, _⟩ := run0 ok ha
  have c1 := (sp.ker _ _ o1 o2).mp ((h1.ker _ _ o1 o2).mpr (.one (by simp) e))
  obtain ⟨G2, _, g2, _⟩ := grow_run (os := b) ok (F := (growL ts (mk0 n, []) (a ++ [i])).2) h1 fun j hj => ho j (by simp [hj])
  have e2 : (growL ts (mk0 n, []) (a ++ i :: b)).2 = (growL ts (mk0 n, []) (a ++ [i])).2 ++ G2 := by
    rw [← g2, show a ++ i :: b = (a ++ [i]) ++ b by simp]
    exact congrArg (·.2) growL_app
  refine c1.mono fun j hj => ?_
  have hj : j ∈ (growL ts (mk0 n, []) (a ++ [i])).2 := hj
  constructor
  · unfold grownF
    rw [(sortN_perm _).mem_iff, e2]
    simp [hj]
  · rw [h2] at hj
    have := h3.subset hj
    rcases List.mem_append.mp this with q | q
    · exact (List.pairwise_append.mp srt).2.2 j q i (by simp)
    · rw [List.mem_singleton.mp q]; exact Int.le_refl _
/-- what is worth no more than any other forest -/
theorem least_iff (ok : TsOk n ts) {w : Nat → Int} {A B : List Nat} (fa : Frst n ts A) (fb : Frst n ts B) (ob : Opt ts w B) : (B.map w).sum ≤ (A.map w).sum ∧ ((A.map w).sum = (B.map w).sum ↔ Opt ts w A) := by
  have len : A.length = B.length := by
    obtain ⟨_, ha, c1⟩ := fa.tr
    obtain ⟨_, hb, c2⟩ := fb.tr
    have d : cmpN n ts A = cmpN n ts B := by
      obtain ⟨_, h1, _⟩ := run0 ok ha
      obtain ⟨_, g1, _⟩ := run0 ok hb
      have k1 : Mk n ts (fun j => j ∈ A) (growL ts (mk0 n, []) B).1 := ⟨g1.len, fun u v hu hv => (g1.ker u v hu hv).trans ⟨fun q => q.by_ties fun i t _ e => fa.sp i t e, fun q => q.by_ties fun i t _ e => fb.sp i t e⟩⟩
      exact h1.dist k1
    omega
  have ta := fun c => cnt_tree ok fa.tr (w := w) (c := c)
  have tb := fun c => cnt_tree ok fb.tr (w := w) (c := c)
  have cb := (opt_cnt ok fb).mp ob
  have le : ∀ c, cntL (A.map w) c ≤ cntL (B.map w) c := fun c => by
    rw [cnt_upTo, cnt_upTo]
    have h1 := ta c
    have h2 := tb c
    have h3 := cb c
    have h4 := cmp_le ok (a := upTo w A c) (b := upTo w (List.range ts.length) c) (fun i hi => List.mem_range.mp (mem_upTo.mp hi).1) fun j hj => mem_upTo.mpr ⟨List.mem_range.mpr (fa.tr.2.1 j (mem_upTo.mp hj).1), (mem_upTo.mp hj).2⟩
    omega
  obtain ⟨s1, s2⟩ := sum_by_cnt (a := A.map w) (b := B.map w) (by rw [List.length_map, List.length_map, len]) le
  refine ⟨s1, s2.trans ?_⟩
  rw [opt_cnt ok fa]
  constructor
  · intro h c
    have := h c
    rw [cnt_upTo, cnt_upTo] at this
    have h1 := ta c
    have h2 := tb c
    rw [← cb c]
    omega
  · intro h c
    rw [cnt_upTo, cnt_upTo]
    have h1 := ta c
    have h2 := tb c
    have := h c
    have := cb c
    omega
end
end Ev
namespace Ev
open PySem
noncomputable def wt (l p : Fr) : Int := l.1 * p.2 + l.2 * p.1
noncomputable def ltP (a b : Fr) : Prop := a.1 * b.2 < b.1 * a.2
noncomputable def leP (a b : Fr) : Prop := a.1 * b.2 ≤ b.1 * a.2
/-- a fraction, not too great -/
noncomputable def OkP (p : Fr) : Prop := 0 < p.2 ∧ Int.gcd p.1 p.2 = 1 ∧ p.1.natAbs < 2 ^ 150 ∧ p.2.natAbs < 2 ^ 150
theorem ltP_le {a b : Fr} (h : ltP a b) : leP a b := Int.le_of_lt h
theorem leP_refl (a : Fr) : leP a a := Int.le_refl _
theorem ltP_trans {a b c : Fr} (ha : 0 < a.2) (hb : 0 < b.2) (hc : 0 < c.2) (h : ltP a b) (g : leP b c) : ltP a c := by
  unfold ltP leP at *
  have e1 := Int.mul_lt_mul_of_pos_right h hc
  have e2 := Int.mul_le_mul_of_nonneg_right g (Int.le_of_lt ha)
  have e3 : a.1 * c.2 * b.2 < c.1 * a.2 * b.2 := by grind
  exact Int.lt_of_mul_lt_mul_right e3 (Int.le_of_lt hb)
/-- where two lines meet -/
noncomputable def meetP (l r : Fr) : Fr := lowP (r.1 - l.1) (l.2 - r.2)
noncomputable def oneFor (low : Fr) (l : Fr × D) (high : Fr) (r : Fr × D) : Option (Fr × D) :=
  if l.1 = r.1 then some l else if wt l.1 low = wt r.1 low then some r else if wt l.1 high = wt r.1 high then some l else none
noncomputable abbrev Fd := Fr × Fr × (Fr × D)
/-- the pieces found of a stretch, and in how many turns -/
inductive Cov (ans : Fr → Fr × D) : Fr → Fr → List Fd → Nat → Prop
  | one {a b : Fr} {x : Fr × D} : oneFor a (ans a) b (ans b) = some x → Cov ans a b [(a, b, x)] 1
  | two {a b m : Fr} : oneFor a (ans a) b (ans b) = none → m = meetP (ans a).1 (ans b).1 → OkP m ∧ ltP a m ∧ ltP m b ∧ (ans b).1.2 < (ans a).1.2 → wt (ans m).1 m = wt (ans a).1 m → Cov ans a b [(a, m, ans a), (m, b, ans b)] 1
  | split {a b m : Fr} {xs ys : List Fd} {i j : Nat} : oneFor a (ans a) b (ans b) = none → m = meetP (ans a).1 (ans b).1 → OkP m ∧ ltP a m ∧ ltP m b ∧ (ans b).1.2 < (ans a).1.2 → wt (ans m).1 m ≠ wt (ans a).1 m → Cov ans a m xs i → Cov ans m b ys j → Cov ans a b (xs ++ ys) (i + j + 1)
structure Good (ans : Fr → Fr × D) (F : Fr → Prop) (lo hi a b : Fr) (x : Fr × D) : Prop where
  oa : OkP a
  ob : OkP b
  lt : ltP a b
  la : leP lo a
  lb : leP b hi
  inF : F x.1
  lea : ∀ l, F l → wt x.1 a ≤ wt l a
  leb : ∀ l, F l → wt x.1 b ≤ wt l b
  at' : ∃ p, OkP p ∧ leP lo p ∧ leP p hi ∧ x = ans p
/-- pieces one behind the other -/
noncomputable def Chn (ans : Fr → Fr × D) (F : Fr → Prop) (lo hi : Fr) : Fr → Fr → List Fd → Prop
  | a, b, [] => a = b
  | a, b, (c, d, x) :: r => c = a ∧ Good ans F lo hi c d x ∧ Chn ans F lo hi d b r
noncomputable def cnt (fam : List Fr) (b a : Int) : Nat := fam.countP fun l => decide (b < l.2) && decide (l.2 < a)
section
variable {ans : Fr → Fr × D} {F : Fr → Prop} {fam : List Fr} {lo hi : Fr}
theorem Chn.app : ∀ {xs ys : List Fd} {a b c : Fr}, Chn ans F lo hi a b xs → Chn ans F lo hi b c ys → Chn ans F lo hi a c (xs ++ ys)
  | [], ys, a, b, c, h, g => by
    have h : a = b := h
    rw [h]; exact g
  | (_, _, _) :: r, ys, a, b, c, h, g => ⟨h.1, h.2.1, Chn.app h.2.2 g⟩
/-- what waits, the next one first -/
inductive StkM (ans : Fr → Fr × D) (lo hi : Fr) : List (Fr × Fr) → List Fd → Nat → Prop
  | nil : StkM ans lo hi [] [] 0
  | cons {a b : Fr} {ws : List (Fr × Fr)} {xs ys : List Fd} {i j : Nat} : Cov ans a b xs i → OkP a → OkP b → leP lo a → leP b hi → ltP a b → StkM ans lo hi ws ys j → StkM ans lo hi ((a, b) :: ws) (xs ++ ys) (i + j)
theorem Cov.pos {a b : Fr} {xs : List Fd} {n : Nat} (h : Cov ans a b xs n) : 0 < n := by cases h <;> omega
theorem StkM.len {ws : List (Fr × Fr)} {xs : List Fd} {n : Nat} (h : StkM ans lo hi ws xs n) : ws.length ≤ n := by
  induction h with
  | nil => simp
  | cons h _ _ _ _ _ _ ih => have := h.pos; simp only [List.length_cons]; omega
/-- neighbours' lines are unlike -/
noncomputable def Adj : List Fd → Prop
  | x :: y :: r => x.2.2.1 ≠ y.2.2.1 ∧ Adj (y :: r)
  | _ => True
theorem Adj.snoc : ∀ {xs : List Fd} {y : Fd}, Adj xs → (∀ z, xs.getLast? = some z → z.2.2.1 ≠ y.2.2.1) → Adj (xs ++ [y])
  | [], _, _, _ => trivial
  | [x], y, _, h => ⟨h x rfl, trivial⟩
  | x :: z :: r, y, a, h => ⟨a.1, Adj.snoc (xs := z :: r) a.2 fun w hw => h w (by rw [List.getLast?_cons_cons]; exact hw)⟩
end
end Ev
namespace Ev
open PySem
noncomputable abbrev Ed := Nat × Nat × Int
noncomputable def upd {α : Type} (f : Nat → α) (v : Nat) (x : α) : Nat → α := fun y => if y = v then x else f y
theorem upd_same {α : Type} {f : Nat → α} {v : Nat} {x : α} : upd f v x v = x := if_pos rfl
theorem upd_ne {α : Type} {f : Nat → α} {v y : Nat} {x : α} (h : y ≠ v) : upd f v x y = f y := if_neg h
structure Bs where
  h : Nat → Option Int
  la : Nat → Option Nat
  ts : Nat → Nat
  fa : Option Nat
/-- whether a tie lowers -/
noncomputable def lowers (h g : Nat → Option Int) (e : Ed) : Option Int := match h e.1 with
  | none => none
  | some a => match g e.2.1 with
    | none => some (a + e.2.2)
    | some b => if a + e.2.2 < b then some (a + e.2.2) else none
noncomputable def relax (e : Ed) (i T : Nat) (s : Bs) : Bs := match lowers s.h s.h e with
  | none => s
  | some x => ⟨upd s.h e.2.1 (some x), upd s.la e.2.1 (some i), upd s.ts e.2.1 T, some e.2.1⟩
/-- what holds in round r behind j ties -/
structure Inv (h0 : Nat → Option Int) (es : List Ed) (r j : Nat) (s : Bs) : Prop where
  bnd : ∀ v, s.ts v ≤ r * es.length + j
  nol : ∀ v, s.la v = none → s.ts v = 0 ∧ s.h v = h0 v
  pnt : ∀ v i, s.la v = some i → 0 < s.ts v ∧ ∃ e a b, es[i]? = some e ∧ e.2.1 = v ∧ s.h e.1 = some a ∧ s.h v = some b ∧ a + e.2.2 ≤ b ∧ (s.ts v < s.ts e.1 → a + e.2.2 < b) ∧ s.ts e.1 ≠ s.ts v ∧ (es.length < s.ts v → s.ts v < s.ts e.1 + es.length)
  rel : ∀ i e, es[i]? = some e → (i < j ∨ 0 < r) → s.ts e.1 ≤ (if i < j then r * es.length else (r - 1) * es.length) + i + 1 → ∀ a, s.h e.1 = some a → ∃ b, s.h e.2.1 = some b ∧ b ≤ a + e.2.2
  fno : s.fa = none → ∀ v, s.ts v ≤ r * es.length
  fso : ∀ v, s.fa = some v → r * es.length < s.ts v
  dec : ∀ v b, h0 v = some b → ∃ b', s.h v = some b' ∧ b' ≤ b
/-- a round from the j-th tie on -/
noncomputable def roundGo (T : Nat) : List Ed → Nat → Bs → Bs
  | [], _, s => s
  | e :: r, j, s => roundGo T r (j + 1) (relax e j (T + j + 1) s)
noncomputable def rounds (h0 : Nat → Option Int) (es : List Ed) : Nat → Bs
  | 0 => ⟨h0, fun _ => none, fun _ => 0, none⟩
  | r + 1 => roundGo (r * es.length) es 0 { rounds h0 es r with fa := none }
end Ev
namespace Ev
open PySem
section
variable {h0 : Nat → Option Int} {es : List Ed} {r n : Nat} {s : Bs}
noncomputable def hv (s : Bs) (v : Nat) : Int := (s.h v).getD 0
end
end Ev
namespace Ev
open PySem
end Ev
namespace Ev
open PySem
end Ev
namespace Ev
open PySem
noncomputable def oI : Option Int → D
  | none => .non
  | some x => .int x
noncomputable def edP (p : Fr) (t : Tie) : Ed := (t.1.toNat, t.2.1.toNat, wt (t.2.2.1, t.2.2.2) p)
noncomputable def hL (N : Nat) (h : Nat → Option Int) : List D := (List.range N).map fun v => oI (h v)
theorem cut_tie {a b c d : Int} : cutD [D.int a, .int b, .int c, .int d] (some 2) none = [.int c, .int d] := rfl
end Ev
namespace Ev
open PySem
end Ev
namespace Ev
open PySem
end Ev
namespace Ev
open PySem
end Ev
namespace Ev
open PySem
end Ev
namespace Ev
open PySem
end Ev
namespace Ev
open PySem
end Ev
namespace Ev
open PySem
section
variable {ans : Fr → Fr × D} {F : Fr → Prop} {lo hi : Fr} {ms : List Fd}
theorem OkP.sr {a b : Fr} (ha : OkP a) (hb : OkP b) (h : ltP a b) : srB a b = true := srB_iff.mpr ⟨⟨ha.1, ha.2.1⟩, ⟨hb.1, hb.2.1⟩, h⟩
end
end Ev
namespace Ev
open PySem
end Ev
namespace Ev
open PySem
noncomputable def Gf (a : Fr) : Prop := 0 < a.2 ∧ Int.gcd a.1 a.2 = 1
theorem srB_l {a b : Fr} : srB a b = true ↔ Gf a ∧ Gf b ∧ ltP a b := srB_iff
/-- from one price to another one, pieces one behind the other -/
noncomputable def Run : Fr → Fr → List Pc → Prop
  | a, b, [] => a = b
  | a, b, p :: r => p.1 = a ∧ srB p.1 p.2.1 = true ∧ Run p.2.1 b r
theorem Run.le : ∀ {ps : List Pc} {a b : Fr}, 0 < a.2 → Run a b ps → leP a b ∧ (ps ≠ [] → Gf a ∧ Gf b ∧ ltP a b)
  | [], a, b, _, h => by
    have h : a = b := h
    subst h; exact ⟨leP_refl _, fun h => absurd rfl h⟩
  | p :: r, a, b, ha, ⟨h1, h2, h3⟩ => by
    subst h1
    have s := srB_l.mp h2
    have ih := Run.le s.2.1.1 h3
    have hb : Gf b := by
      by_cases z : r = []
      · subst z; have h3 : p.2.1 = b := h3; rw [← h3]; exact s.2.1
      · exact (ih.2 z).2.1
    have := ltP_trans s.1.1 s.2.1.1 hb.1 s.2.2 ih.1
    exact ⟨ltP_le this, fun _ => ⟨s.1, hb, this⟩⟩
theorem Run.sr : ∀ {ps : List Pc} {a b : Fr}, Run a b ps → ∀ q ∈ ps, srB q.1 q.2.1 = true
  | [], _, _, _, q, hq => by cases hq
  | p :: r, a, b, h, q, hq => by
    rcases List.mem_cons.mp hq with rfl | hq
    · exact h.2.1
    · exact Run.sr h.2.2 q hq
theorem Run.app : ∀ {xs ys : List Pc} {a b c : Fr}, Run a b xs → Run b c ys → Run a c (xs ++ ys)
  | [], ys, a, b, c, h, g => by
    have h : a = b := h
    rw [h]; exact g
  | p :: r, ys, a, b, c, h, g => ⟨h.1, h.2.1, Run.app h.2.2 g⟩
end Ev
namespace Ev
open PySem
end Ev
namespace Ev
open PySem
end Ev
namespace Ev
open PySem
end Ev
namespace Ev
open PySem
end Ev
namespace Ev
open PySem
noncomputable def lnOf (ts : List Tie) (i : Nat) : Fr := match ts[i]? with
  | some t => (t.2.2.1, t.2.2.2)
  | none => (0, 0)
theorem lnOf_some {ts : List Tie} {i : Nat} {t : Tie} (h : ts[i]? = some t) : lnOf ts i = (t.2.2.1, t.2.2.2) := by unfold lnOf; rw [h]
noncomputable def lineW (ts : List Tie) (r : List Nat) : Fr := ((r.map fun i => (lnOf ts i).1).sum, (r.map fun i => (lnOf ts i).2).sum)
theorem lineW_cons {ts : List Tie} {i : Nat} {r : List Nat} : lineW ts (i :: r) = ((lnOf ts i).1 + (lineW ts r).1, (lnOf ts i).2 + (lineW ts r).2) := rfl
theorem wt_add {a b p : Fr} : wt (a.1 + b.1, a.2 + b.2) p = wt a p + wt b p := by
  unfold wt
  simp only [Int.add_mul]
  omega
theorem wt_lt_down {L a b : Fr} (h0 : 0 ≤ L.2) (ha : 0 < a.2) (hb : 0 < b.2) (hab : leP a b) (h : wt L b < 0) : wt L a < 0 := by
  unfold wt leP at *
  have e1 := Int.mul_le_mul_of_nonneg_left hab h0
  have e2 := Int.mul_lt_mul_of_pos_right h ha
  refine Int.lt_of_mul_lt_mul_right (a := b.2) ?_ (Int.le_of_lt hb)
  grind
theorem not_lt_le {a b : Fr} (h : ¬ ltP a b) : leP b a := by unfold ltP at h; unfold leP; omega
theorem root_up {L a b : Fr} (h0 : 0 ≤ L.2) (ha : 0 < a.2) (hb : 0 < b.2) (h1 : wt L a < 0) (h2 : wt L b = 0) : ltP a b := by
  false_or_by_contra
  rename_i h
  have := wt_lt_down h0 hb ha (not_lt_le h) h1
  omega
noncomputable def rbd (a : Fr) : Prop := a.1.natAbs ≤ 8000000 ∧ a.2.natAbs ≤ 8000000
instance (a : Fr) : Decidable (rbd a) := by unfold rbd; exact inferInstance
noncomputable def stp (K : Int) (a : Fr) : Int := a.1 * (K * K) / a.2
theorem stp_lt {K : Int} {a b : Fr} (ha : 0 < a.2) (hb : 0 < b.2) (ha2 : a.2 ≤ K) (hb2 : b.2 ≤ K) (h : ltP a b) : stp K a < stp K b := by
  have K0 : 0 < K := by omega
  unfold stp ltP at *
  have x1 : a.1 * (K * K) / a.2 * a.2 ≤ a.1 * (K * K) := Int.ediv_mul_le _ (by omega)
  generalize a.1 * (K * K) / a.2 = x at *
  refine (Int.le_ediv_iff_mul_le hb).mpr ?_
  have KK : a.2 * b.2 ≤ K * K := Int.le_trans (Int.mul_le_mul_of_nonneg_right ha2 (Int.le_of_lt hb)) (Int.mul_le_mul_of_nonneg_left hb2 (Int.le_of_lt K0))
  have K2 : 0 < K * K := Int.mul_pos K0 K0
  generalize K * K = M at *
  refine Int.le_of_mul_le_mul_right (a := a.2) ?_ ha
  have e1 := Int.mul_le_mul_of_nonneg_right x1 (Int.le_of_lt hb)
  have e2 : (a.1 * b.2 + 1) * M ≤ b.1 * a.2 * M := Int.mul_le_mul_of_nonneg_right (by omega) (Int.le_of_lt K2)
  grind
theorem stp_bd {K : Int} {a : Fr} (ha : 0 < a.2) (K0 : 0 < K) (h1 : -K ≤ a.1) (h2 : a.1 ≤ K) : -(K * (K * K)) ≤ stp K a ∧ stp K a ≤ K * (K * K) := by
  unfold stp
  have K2 : 0 < K * K := Int.mul_pos K0 K0
  generalize K * K = M at *
  have a0 : 0 ≤ K * M := Int.mul_nonneg (by omega) (by omega)
  have l1 : a.1 * M ≤ K * M := Int.mul_le_mul_of_nonneg_right h2 (by omega)
  have l2 : -(K * M) ≤ a.1 * M := by
    have := Int.mul_le_mul_of_nonneg_right h1 (show 0 ≤ M by omega)
    rw [Int.neg_mul] at this; exact this
  have l3 : K * M ≤ K * M * a.2 := by
    have := Int.mul_le_mul_of_nonneg_left (show 1 ≤ a.2 by omega) a0
    rw [Int.mul_one] at this; exact this
  constructor
  · refine (Int.le_ediv_iff_mul_le ha).mpr ?_
    rw [Int.neg_mul]; omega
  · refine Int.ediv_le_of_le_mul ha ?_
    omega
noncomputable def muK (K : Int) (a : Fr) : Nat := if a.1.natAbs ≤ K.toNat ∧ a.2.natAbs ≤ K.toNat then (K * (K * K) - stp K a).toNat else (2 * (K * (K * K)) + 1).toNat
theorem muK_lt {K : Int} {a b : Fr} (K0 : 0 < K) (ha : 0 < a.2) (hb : 0 < b.2) (hb1 : b.1.natAbs ≤ K.toNat ∧ b.2.natAbs ≤ K.toNat) (h : ltP a b) : muK K b < muK K a := by
  have bb := stp_bd (K := K) hb K0 (by omega) (by omega)
  unfold muK
  rw [if_pos hb1]
  have K2 : 0 < K * K := Int.mul_pos K0 K0
  have K3 : 0 < K * (K * K) := Int.mul_pos K0 K2
  split
  · rename_i c
    have := stp_lt (K := K) ha hb (by omega) (by omega) h
    generalize K * (K * K) = M at *
    omega
  · generalize K * (K * K) = M at *
    omega
noncomputable def muU (a : Fr) : Nat := muK 8000000 a
theorem muU_lt {a b : Fr} (ha : 0 < a.2) (hb : 0 < b.2) (hb1 : rbd b) (h : ltP a b) : muU b < muU a := muK_lt (by decide) ha hb hb1 h
end Ev
namespace Ev
open PySem
end Ev
namespace Ev
open PySem
noncomputable def hts (n : Int) (ts : List Tie) (p : Fr) : List D := hL n.toNat (rounds (fun _ => some 0) (ts.map (edP p)) n.toNat).h
end Ev
namespace Ev
open PySem
end Ev
namespace Ev
open PySem
end Ev
namespace Ev
end Ev
namespace Ev
open PySem
end Ev
namespace Ev
open PySem
noncomputable def PK (k : Nat) (a : Fr) : Prop := 0 < a.2 ∧ Int.gcd a.1 a.2 = 1 ∧ a.1.natAbs < 2 ^ k ∧ a.2.natAbs < 2 ^ k
theorem PK.le {j k : Nat} {a : Fr} (h : PK j a) (hk : j ≤ k) : PK k a := ⟨h.1, h.2.1, Nat.lt_of_lt_of_le h.2.2.1 (Nat.pow_le_pow_right (by decide) hk), Nat.lt_of_lt_of_le h.2.2.2 (Nat.pow_le_pow_right (by decide) hk)⟩
theorem PK.ok {k : Nat} {a : Fr} (h : PK k a) (hk : k ≤ 150) : OkP a := h.le hk
end Ev
namespace Ev
end Ev
namespace Ev
open PySem
noncomputable def wtsN (ts : List Tie) (p : Fr) : List Int := ts.map fun t => wt (t.2.2.1, t.2.2.2) p
noncomputable def wAt (ts : List Tie) (p : Fr) (i : Nat) : Int := (wtsN ts p).getD i 0
theorem wtsN_len {ts : List Tie} {p : Fr} : (wtsN ts p).length = ts.length := List.length_map _
theorem wAt_some {ts : List Tie} {p : Fr} {i : Nat} {t : Tie} (h : ts[i]? = some t) : wAt ts p i = wt (t.2.2.1, t.2.2.2) p := by
  unfold wAt wtsN
  rw [List.getD_eq_getElem?_getD, List.getElem?_map, h]
  rfl
/-- the forest of the ties by their worths -/
noncomputable def leastN (n : Nat) (ts : List Tie) (ws : List Int) : List Nat := grownF n ts (srtN ws)
theorem srtN_mem {ws : List Int} {i : Nat} : i ∈ srtN ws ↔ i < ws.length := by
  unfold srtN
  rw [(List.mergeSort_perm _ _).mem_iff, List.mem_range]
theorem srtN_len {ws : List Int} : (srtN ws).length = ws.length := by
  unfold srtN
  rw [(List.mergeSort_perm _ _).length_eq, List.length_range]
theorem srtN_rise {ws : List Int} : (srtN ws).Pairwise fun a b => ws.getD a 0 ≤ ws.getD b 0 := by
  have := List.pairwise_mergeSort (le := fun i j : Nat => decide (ws.getD i 0 ≤ ws.getD j 0)) (fun a b c h1 h2 => by simp only [decide_eq_true_eq] at *; omega) (fun a b => by simp only [Bool.or_eq_true, decide_eq_true_eq]; omega) (List.range ws.length)
  exact this.imp fun h => by simpa using h
theorem least_opt {n : Nat} {ts : List Tie} {ws : List Int} (ok : TsOk n ts) (hl : ws.length = ts.length) : Frst n ts (leastN n ts ws) ∧ Opt ts (fun i => ws.getD i 0) (leastN n ts ws) :=
  greedy_opt ok (fun i => by rw [srtN_mem, hl]) srtN_rise
theorem srt_row {ks : List Int} {k : Nat} (h : ks.length = k) : srtBy ks (rngI 0 k) = rowD (srtN ks) := by
  unfold srtBy rowD
  apply List.map_congr_left
  intro i hi
  have hi := srtN_mem.mp hi
  rw [List.getD_eq_getElem?_getD]
  unfold rngI
  rw [List.getElem?_map, List.getElem?_range (by omega)]
  simp
noncomputable def getF (ws : List Int) (d : D) : Int := match d with
  | .int i => ws.getD i.toNat 0
  | _ => 0
theorem rng_getF {ws : List Int} : (rngI 0 ws.length).map (getF ws) = ws := by
  unfold rngI
  rw [List.map_map]
  apply List.ext_getElem
  · simp
  · intro i h1 h2
    simp [getF, List.getD_eq_getElem?_getD, h2]
theorem rng_mem {k : Nat} {x : D} (h : x ∈ rngI 0 k) : ∃ i : Nat, i < k ∧ x = .int ((i : Nat) : Int) := by
  unfold rngI at h
  obtain ⟨i, hi, rfl⟩ := List.mem_map.mp h
  exact ⟨i, List.mem_range.mp hi, by rw [Int.zero_add]⟩
theorem frst_of {n : Nat} {ts : List Tie} {F : List Nat} (ok : TsOk n ts) (hF : ∀ i ∈ F, i < ts.length) (h : forB n ts F = true) : Frst n ts F := ⟨(forB_tree ok hF h).1, (forB_tree ok hF h).2⟩
end Ev
namespace Ev
open PySem
/-- a line's share, and the price at which the line costs nothing -/
noncomputable def shP (L : Fr) : Fr := lowP L.1 L.2
noncomputable def prS (s : Fr) : Fr := (0 - s.1, s.2)
theorem pr_facts {L : Fr} (h : 0 < L.2) : 0 < (prS (shP L)).2 ∧ Int.gcd (prS (shP L)).1 (prS (shP L)).2 = 1 ∧ wt L (prS (shP L)) = 0 ∧ (prS (shP L)).1.natAbs ≤ L.1.natAbs ∧ (prS (shP L)).2.natAbs ≤ L.2.natAbs := by
  obtain ⟨h1, h2, h3, h4, h5⟩ := lowP_facts (p := L.1) h
  unfold prS shP
  generalize lowP L.1 L.2 = s at *
  refine ⟨h1, ?_, ?_, by show (0 - s.1).natAbs ≤ _; omega, h5⟩
  · show Int.gcd (0 - s.1) s.2 = 1
    rw [Int.zero_sub, Int.neg_gcd]; exact h2
  · show L.1 * s.2 + L.2 * (0 - s.1) = 0
    rw [Int.mul_sub, Int.mul_zero, ← h3, Int.mul_comm L.2]; omega
/-- rises from 1 on -/
noncomputable def Sv (ts : List Tie) : Prop := ∀ t ∈ ts, 1 ≤ t.2.2.2
theorem sv_line {ts : List Tie} (h : Sv ts) : ∀ {r : List Nat}, (∀ i ∈ r, i < ts.length) → (r.length : Int) ≤ (lineW ts r).2
  | [], _ => by simp [lineW]
  | i :: r, hr => by
    have ih := sv_line h (r := r) fun j hj => hr j (List.mem_cons_of_mem _ hj)
    have e := List.getElem?_eq_getElem (hr i (by simp))
    have := h _ (List.mem_of_getElem? e)
    rw [lineW_cons, lnOf_some e]
    simp only [List.length_cons]
    omega
end Ev
namespace Ev
open PySem
end Ev
namespace Ev
open PySem
theorem eqvAll_ints : ∀ {xs ys : List Int}, PyData.eqvAll (pysD (xs.map D.int)) (pysD (ys.map D.int)) = decide (xs = ys)
  | [], [] => rfl
  | [], _ :: _ => rfl
  | _ :: _, [] => rfl
  | a :: r, b :: q => by
    show (PyData.eqv (.int a) (.int b) && PyData.eqvAll (pysD (r.map D.int)) (pysD (q.map D.int))) = _
    rw [eqvAll_ints, Bool.eq_iff_iff]
    simp [PyData.eqv]
end Ev
namespace Ev
open PySem
end Ev
namespace Ev
open PySem
end Ev
namespace Ev
open PySem
noncomputable def lotS (ts : List Tie) (m : List Int) (i : Nat) : List Int := match ts[i]? with
  | none => m
  | some t => relab (min (m.getD t.1.toNat 0) (m.getD t.2.1.toNat 0)) (max (m.getD t.1.toNat 0) (m.getD t.2.1.toNat 0)) m
noncomputable def lotsL (ts : List Tie) (m : List Int) (os : List Nat) : List Int := os.foldl (lotS ts) m
noncomputable def lotsN (n : Nat) (ts : List Tie) (os : List Nat) : List Int := lotsL ts (mk0 n) os
/-- each mark is the least house of its lot -/
noncomputable def NF (m : List Int) : Prop := ∀ u, u < m.length → 0 ≤ m.getD u 0 ∧ m.getD u 0 ≤ (u : Int) ∧ m.getD (m.getD u 0).toNat 0 = m.getD u 0
section
variable {n : Nat} {ts : List Tie} {S R : Nat → Prop} {m : List Int}
theorem relab_swap {a b : Int} {i j : Nat} (hi : i < m.length) (hj : j < m.length) : (relab a b m).getD i 0 = (relab a b m).getD j 0 ↔ (relab b a m).getD i 0 = (relab b a m).getD j 0 := by
  rw [relab_getD hi, relab_getD hj, relab_getD hi, relab_getD hj]
  generalize m.getD i 0 = x
  generalize m.getD j 0 = y
  by_cases h1 : x = a <;> by_cases h2 : x = b <;> by_cases h3 : y = a <;> by_cases h4 : y = b <;> simp [*] <;> (try omega) <;> grind
theorem lot_step (ok : TsOk n ts) (h : Mk n ts S m) (nf : NF m) {i : Nat} (hi : i < ts.length) (hR : ∀ j, R j ↔ S j ∨ j = i) : Mk n ts R (lotS ts m i) ∧ NF (lotS ts m i) := by
  have e := List.getElem?_eq_getElem hi
  generalize ts[i] = t at e
  obtain ⟨o1, o2⟩ := ok t (List.mem_of_getElem? e)
  have hJ := h.join ok e hR
  have len := h.len
  unfold lotS
  simp only [e]
  have n1 := nf t.1.toNat (by omega)
  have n2 := nf t.2.1.toNat (by omega)
  generalize ha : m.getD t.1.toNat 0 = a at *
  generalize hb : m.getD t.2.1.toNat 0 = b at *
  refine ⟨?_, ?_⟩
  · rcases Int.le_total a b with q | q
    · rw [Int.min_eq_left q, Int.max_eq_right q]
      exact hJ
    · rw [Int.min_eq_right q, Int.max_eq_left q]
      exact ⟨by rw [relab_len, len], fun u v hu hv => (relab_swap (by omega) (by omega)).trans (hJ.ker u v hu hv)⟩
  · have key : ∀ x y : Int, x ≤ y → 0 ≤ x → m.getD x.toNat 0 = x → NF (relab x y m) := by
      intro x y hxy x0 hx u hu
      rw [relab_len] at hu
      obtain ⟨f1, f2, f3⟩ := nf u hu
      have val : (relab x y m).getD u 0 = if m.getD u 0 = y then x else m.getD u 0 := relab_getD hu
      rw [val]
      by_cases c : m.getD u 0 = y
      · rw [if_pos c]
        refine ⟨x0, by omega, ?_⟩
        rw [relab_getD (by omega), hx]
        split <;> omega
      · rw [if_neg c]
        refine ⟨f1, f2, ?_⟩
        rw [relab_getD (by omega), f3, if_neg c]
    rcases Int.le_total a b with q | q
    · rw [Int.min_eq_left q, Int.max_eq_right q]
      exact key a b q n1.1 n1.2.2
    · rw [Int.min_eq_right q, Int.max_eq_left q]
      exact key b a q n2.1 n2.2.2
theorem nf_0 : NF (mk0 n) := fun u hu => by
  rw [mk0_len] at hu
  rw [mk0_getD hu]
  exact ⟨by omega, Int.le_refl _, by rw [Int.toNat_natCast, mk0_getD hu]⟩
theorem lots_run (ok : TsOk n ts) : ∀ {os : List Nat} {S : Nat → Prop} {m : List Int}, Mk n ts S m → NF m → (∀ i ∈ os, i < ts.length) → Mk n ts (fun j => S j ∨ j ∈ os) (lotsL ts m os) ∧ NF (lotsL ts m os)
  | [], S, m, h, nf, _ => ⟨h.ext (by simp), nf⟩
  | i :: os, S, m, h, nf, ho => by
    obtain ⟨h1, h2⟩ := lot_step (R := fun j => S j ∨ j = i) ok h nf (ho i (by simp)) fun _ => Iff.rfl
    obtain ⟨g1, g2⟩ := lots_run (os := os) ok h1 h2 fun j hj => ho j (List.mem_cons_of_mem _ hj)
    exact ⟨g1.ext fun j => by simp [or_assoc], g2⟩
theorem lots_mk (ok : TsOk n ts) {os : List Nat} (ho : ∀ i ∈ os, i < ts.length) : Mk n ts (fun j => j ∈ os) (lotsN n ts os) ∧ NF (lotsN n ts os) := by
  obtain ⟨h1, h2⟩ := lots_run ok (mk_0 (n := n) (ts := ts) (S := fun _ => False) fun _ h => h) nf_0 ho
  exact ⟨h1.ext fun j => by simp, h2⟩
theorem nf_le {m' : List Int} (h : Mk n ts S m) (g : Mk n ts S m') (nf : NF m) (nf' : NF m') {u : Nat} (hu : u < n) : m'.getD u 0 ≤ m.getD u 0 := by
  obtain ⟨f1, f2, f3⟩ := nf u (by rw [h.len]; exact hu)
  have ha : (m.getD u 0).toNat < n := by omega
  have c := (h.ker _ _ ha hu).mp f3
  have c' := (g.ker _ _ ha hu).mpr c
  obtain ⟨_, g2, _⟩ := nf' _ (by rw [g.len]; exact ha)
  omega
theorem nf_uniq {m' : List Int} (h : Mk n ts S m) (g : Mk n ts S m') (nf : NF m) (nf' : NF m') : m = m' := by
  apply List.ext_getElem
  · rw [h.len, g.len]
  · intro u h1 h2
    have hu : u < n := by rw [← h.len]; exact h1
    have a1 := nf_le h g nf nf' hu
    have a2 := nf_le g h nf' nf hu
    rw [List.getD_eq_getElem?_getD, List.getD_eq_getElem?_getD, List.getElem?_eq_getElem h1, List.getElem?_eq_getElem h2] at *
    simp only [Option.getD_some] at a1 a2
    omega
theorem lots_forest (ok : TsOk n ts) {F : List Nat} (hF : ∀ i ∈ F, i < ts.length) (f : Frst n ts F) : lotsN n ts F = lotsN n ts (List.range ts.length) := by
  obtain ⟨h1, h2⟩ := lots_mk ok hF
  obtain ⟨g1, g2⟩ := lots_mk ok (os := List.range ts.length) fun i hi => List.mem_range.mp hi
  refine nf_uniq h1 ⟨g1.len, fun u v hu hv => (g1.ker u v hu hv).trans ⟨fun q => q.by_ties fun i t _ e => f.sp i t e, fun q => q.mono fun j hj => List.mem_range.mpr (hF j hj)⟩⟩ h2 g2
theorem lotsN_take {os : List Nat} {i j : Nat} {t : Tie} (h : os[j]? = some i) (ht : ts[i]? = some t) : lotsN n ts (os.take (j + 1)) = relab (min ((lotsN n ts (os.take j)).getD t.1.toNat 0) ((lotsN n ts (os.take j)).getD t.2.1.toNat 0)) (max ((lotsN n ts (os.take j)).getD t.1.toNat 0) ((lotsN n ts (os.take j)).getD t.2.1.toNat 0)) (lotsN n ts (os.take j)) := by
  unfold lotsN lotsL
  rw [List.take_add_one, h, Option.toList_some, List.foldl_append]
  show lotS ts _ i = _
  unfold lotS
  rw [ht]
theorem lotsN_len {os : List Nat} : (lotsN n ts os).length = n := by
  have : ∀ (os : List Nat) (m : List Int), (lotsL ts m os).length = m.length := by
    intro os
    induction os with
    | nil => exact fun m => rfl
    | cons i os ih =>
      intro m
      show (lotsL ts (lotS ts m i) os).length = _
      rw [ih]
      unfold lotS
      split
      · rfl
      · exact relab_len
  unfold lotsN
  rw [this, mk0_len]
end
/-- two whole numbers in order -/
theorem sort_two {a b : Int} : [a, b].mergeSort (fun x y => decide (x ≤ y)) = [min a b, max a b] := by
  have hp := List.mergeSort_perm [a, b] fun x y : Int => decide (x ≤ y)
  have hs := List.pairwise_mergeSort (le := fun x y : Int => decide (x ≤ y)) (fun a b c h1 h2 => by simp at *; omega) (fun a b => by simp; omega) [a, b]
  refine List.Perm.eq_of_pairwise (le := fun x y => x ≤ y) (fun x y _ _ h1 h2 => Int.le_antisymm h1 h2) (hs.imp fun h => by simpa using h) (by simp; omega) (hp.trans ?_)
  rcases Int.le_total a b with q | q
  · rw [Int.min_eq_left q, Int.max_eq_right q]
  · rw [Int.min_eq_right q, Int.max_eq_left q]
    exact List.Perm.swap b a []
theorem bi_sort2 {st : Stt} {a b : Int} : biA "sorted" [.l [.int a, .int b]] st = .ok (.l [.int (min a b), .int (max a b)]) st := by
  have e : biA "sorted" [.l [.int a, .int b]] st = ofO (sortA (.l [.int a, .int b]) st) st := rfl
  have h' : lstOf st (.l [.int a, .int b]) = some [.int a, .int b] := rfl
  have hi : intsOf [D.int a, .int b] = some [a, b] := rfl
  rw [e]
  simp only [sortA, h', hi, Option.map_some, sort_two]
  rfl
theorem wAt_line {ts : List Tie} {p : Fr} {r : List Nat} (hr : ∀ i ∈ r, i < ts.length) : (r.map (wAt ts p)).sum = wt (lineW ts r) p := by
  induction r with
  | nil => simp [lineW, wt]
  | cons i r ih =>
    rw [lineW_cons, wt_add, List.map_cons, List.sum_cons, ih fun j hj => hr j (List.mem_cons_of_mem _ hj)]
    have e := List.getElem?_eq_getElem (hr i (by simp))
    rw [wAt_some e, lnOf_some e]
theorem frac_uniq {a b c d : Int} (hb : 0 < b) (hd : 0 < d) (g1 : Int.gcd a b = 1) (g2 : Int.gcd c d = 1) (h : a * d = c * b) : a = c ∧ b = d := by
  have h1 : b ∣ d := Int.natAbs_dvd_natAbs.mp (Nat.Coprime.dvd_of_dvd_mul_left (m := a.natAbs) (show Nat.gcd b.natAbs a.natAbs = 1 by rw [Nat.gcd_comm]; exact g1) ⟨c.natAbs, by rw [← Int.natAbs_mul, h, Int.natAbs_mul, Nat.mul_comm]⟩)
  have h2 : d ∣ b := Int.natAbs_dvd_natAbs.mp (Nat.Coprime.dvd_of_dvd_mul_left (m := c.natAbs) (show Nat.gcd d.natAbs c.natAbs = 1 by rw [Nat.gcd_comm]; exact g2) ⟨a.natAbs, by rw [← Int.natAbs_mul, ← h, Int.natAbs_mul, Nat.mul_comm]⟩)
  have e : b = d := Int.dvd_antisymm (by omega) (by omega) h1 h2
  subst e
  exact ⟨Int.eq_of_mul_eq_mul_right (by omega) h, rfl⟩
theorem shP_of {L K : Fr} (hL : 0 < L.2) (hK : 0 < K.2) (z : wt K (prS (shP L)) = 0) : shP K = shP L := by
  obtain ⟨h1, h2, h3, _, _⟩ := lowP_facts (p := L.1) hL
  obtain ⟨g1, g2, g3, _, _⟩ := lowP_facts (p := K.1) hK
  unfold prS shP wt at z
  unfold shP
  simp only at z
  generalize lowP L.1 L.2 = a at *
  generalize lowP K.1 K.2 = b at *
  have e : b.1 * a.2 = a.1 * b.2 := by
    have e1 : K.1 * a.2 = K.2 * a.1 := by
      rw [Int.mul_sub, Int.mul_zero] at z
      omega
    have : b.1 * a.2 * K.2 = a.1 * b.2 * K.2 := by
      calc b.1 * a.2 * K.2 = (b.1 * K.2) * a.2 := by rw [Int.mul_right_comm]
        _ = (K.1 * b.2) * a.2 := by rw [g3]
        _ = (K.1 * a.2) * b.2 := by rw [Int.mul_right_comm]
        _ = (K.2 * a.1) * b.2 := by rw [e1]
        _ = a.1 * b.2 * K.2 := by rw [Int.mul_comm K.2, Int.mul_right_comm]
    exact Int.eq_of_mul_eq_mul_right (by omega) this
  obtain ⟨q1, q2⟩ := frac_uniq g1 h1 g2 h2 e
  exact Prod.ext q1 q2
theorem mk0_dist : ∀ n, ndist (mk0 n) ≤ n := fun n => by
  have : ∀ l : List Int, ndist l ≤ l.length := fun l => by
    induction l with
    | nil => exact Nat.le_refl _
    | cons x l ih =>
      simp only [ndist, List.length_cons]
      split <;> omega
  have h := this (mk0 n)
  rwa [mk0_len] at h
theorem frst_len {n : Nat} {ts : List Tie} {F : List Nat} (f : Frst n ts F) : F.length ≤ n := by
  have h1 := f.tr.2.2
  have h2 := mk0_dist n
  omega
theorem frst_pos {n : Int} {ts : List Tie} {F : List Nat} (w : NetOk n ts) (f : Frst n.toNat ts F) (ne : ts ≠ []) : 0 < F.length := by
  cases ts with
  | nil => exact absurd rfl ne
  | cons t r =>
    have c := f.sp 0 t rfl
    obtain ⟨h1, h2, h3, _⟩ := w.ok t (by simp)
    have hne : t.1.toNat ≠ t.2.1.toNat := by omega
    generalize t.1.toNat = u at c hne
    generalize t.2.1.toNat = v at c hne
    cases c with
    | rfl => exact absurd rfl hne
    | tie a _ _ _ => exact List.length_pos_of_mem a
theorem netline {n : Int} {ts : List Tie} (w : NetOk n ts) {r : List Nat} : (lineW ts r).1.natAbs ≤ 1000000 * r.length ∧ (lineW ts r).2.natAbs ≤ 1000000 * r.length := by
  induction r with
  | nil => exact ⟨Nat.le_refl _, Nat.le_refl _⟩
  | cons i r ih =>
    rw [lineW_cons, List.length_cons]
    have e : (lnOf ts i).1.natAbs ≤ 1000000 ∧ (lnOf ts i).2.natAbs ≤ 1000000 := by
      unfold lnOf
      split
      · rename_i t ht
        obtain ⟨_, _, _, b1, b2, b3, b4⟩ := w.ok t (List.mem_of_getElem? ht)
        simp only
        omega
      · simp
    simp only
    omega
/-- a forest of a lesser share -/
theorem fshare_step {n : Int} {ts : List Tie} {r : List Nat} {p : Fr} (w : NetOk n ts) (sv : Sv ts) (f : Frst n.toNat ts r) (ne : ts ≠ []) : 0 < (lineW ts r).2 ∧ OkP (prS (shP (lineW ts r))) ∧ wt (lineW ts r) (prS (shP (lineW ts r))) = 0 ∧ (0 < p.2 → wt (lineW ts r) p < 0 → muU (prS (shP (lineW ts r))) < muU p) := by
  have l2 := sv_line sv f.tr.2.1
  have l3 := frst_pos w f ne
  have l4 := frst_len f
  have n8 := w.hi
  have L0 : 0 < (lineW ts r).2 := by omega
  obtain ⟨b1, b2⟩ := netline w (r := r)
  obtain ⟨f1, f2, f3, f4, f5⟩ := pr_facts L0
  have pw : 8000000 < 2 ^ 150 := by decide
  exact ⟨L0, ⟨f1, f2, by omega, by omega⟩, f3, fun p0 hn => muU_lt p0 f1 ⟨by omega, by omega⟩ (root_up (by omega) p0 f1 hn f3)⟩
/-- what least_forest_share tells -/
noncomputable def FShTold (n : Nat) (ts : List Tie) (d : D) : Prop := ∃ r, d = .tup [frD (shP (lineW ts r)), .tup (rowD r)] ∧ (∀ i ∈ r, i < ts.length) ∧ forB n ts r = true ∧ Opt ts (wAt ts (prS (shP (lineW ts r)))) r
end Ev
namespace Ev
open PySem
/-- the pot of a law on shares: a great number's rest, a small one, how many were taken -/
noncomputable def Pt3 (st : Stt) (p c : Nat) : Prop := ∃ a b t : Int, stLst st p = some [.int a, .int b, .int t] ∧ 0 ≤ a ∧ 0 ≤ b ∧ b < 4294967296 ∧ 0 ≤ t ∧ t ≤ (c : Nat)
section
variable {st s r : Stt} {p l c d : Nat} {o : Ob}
theorem Pt3.lt (P : Pt3 st p c) : p < st.length := by
  obtain ⟨a, b, t, h, _⟩ := P
  exact stLst_lt h
theorem Pt3.app (P : Pt3 st p c) : Pt3 (st ++ r) p c := by
  obtain ⟨a, b, t, h, q⟩ := P
  exact ⟨a, b, t, by rw [stLst_app (stLst_lt h)]; exact h, q⟩
theorem Pt3.set (P : Pt3 st p c) (n : l ≠ p) : Pt3 (st.set l o) p c := by
  obtain ⟨a, b, t, h, q⟩ := P
  exact ⟨a, b, t, by rw [stLst_ne n]; exact h, q⟩
theorem Pt3.mono (P : Pt3 st p c) (h : c ≤ d) : Pt3 st p d := by
  obtain ⟨a, b, t, h1, h2, h3, h4, h5, h6⟩ := P
  exact ⟨a, b, t, h1, h2, h3, h4, h5, by omega⟩
end
theorem jx30 : L2.ixN 3 0 = some 0 := rfl
theorem jx32 : L2.ixN 3 2 = some 2 := rfl
end Ev
namespace K74
open PySem Ev
theorem wp_law_take {p c : Nat} {many : Int} {st : Stt} {Q : D → Stt → Prop} {E : Str → List D → Stt → Prop} (hP : Pt3 st p c) (hc : c ≤ 1000000000) (hm : 0 < many) (hm2 : many < 2 ^ 250) (k : ∀ k s, 0 ≤ k → k < many → Pt3 s p (c + 1) → Keep p st s → Q (.int k) s) : Wp (F_law_take [.loc p, .int many] st) Q E := by
  obtain ⟨a, b, t, hp, a0, b0, b1, t0, t1⟩ := hP
  have hlt := stLst_lt hp
  have dm : divB many := divB_of (b := 250) (by omega) (by omega) (by decide)
  have fm := fun x : Int => fm_pos (i := x) hm
  have hne : many ≠ 0 := by omega
  unfold F_law_take; refine evF_i rfl ?_
  by_cases z : 0 < a
  · walk_at "nx hp z"
    walk_at "nx hp z hne"
    walk_at "nx hp dm jx30"
    walk_at "nx "
    refine k _ _ (fm _).1 (fm _).2 ⟨_, _, _, stLst_same hlt, ?_, b0, b1, t0, by omega⟩ Keep.set
    rw [Int.fdiv_eq_ediv_of_nonneg _ (by omega)]
    exact Int.ediv_nonneg a0 (by omega)
  · walk_at "nx hp z"
    walk_at "nx hp jx32"
    have hp2 : stLst (st.set p (.lst [.int a, .int b, .int (t + 1)])) p = some [.int a, .int b, .int (t + 1)] := stLst_same hlt
    have K2 : Keep p st (st.set p (.lst [.int a, .int b, .int (t + 1)])) := Keep.set
    generalize st.set p (.lst [.int a, .int b, .int (t + 1)]) = s1 at *
    have tb : t + 1 ≤ 1000000001 := by omega
    have tb0 : 0 ≤ t + 1 := by omega
    have S2 : Pt3 s1 p (c + 1) := ⟨a, b, t + 1, hp2, a0, b0, b1, tb0, by omega⟩
    clear hp t1 a0 t0
    generalize hu : t + 1 = u at *
    clear hu
    have m1 : mulB 104729 u := mulB_of (a := 64) (b := 64) (by decide) (by omega) (by decide)
    have m2 : mulB 7919 u := mulB_of (a := 64) (b := 64) (by decide) (by omega) (by decide)
    have m3 : mulB (7919 * u) u := mulB_of (a := 64) (b := 64) (by omega) (by omega) (by decide)
    have p5 : powB (b + 104729 * u + 11) 5 := pow_ok (b := 62) (by omega) (by decide) (by decide)
    have uu : (7919 * u * u).natAbs ≤ 2 ^ 100 := by
      rw [Int.natAbs_mul, Int.natAbs_mul]
      have h1 : u.natAbs ≤ 2 ^ 31 := by omega
      have := Nat.mul_le_mul (Nat.mul_le_mul (show (7919 : Int).natAbs ≤ 2 ^ 13 by decide) h1) h1
      exact Nat.le_trans this (by decide)
    walk_at "nx hp2 m1 p5"
    have g1 := fm_pos (i := (b + 104729 * u + 11) ^ 5) (show (0 : Int) < 2147483647 by decide)
    generalize ((b + 104729 * u + 11) ^ 5).fmod 2147483647 = one at *
    have d1 : 0 ≤ one.fdiv 8 ∧ one.fdiv 8 < 2147483648 := by
      rw [Int.fdiv_eq_ediv_of_nonneg _ (by decide)]
      omega
    generalize hd1 : one.fdiv 8 = o8 at *
    have p3 : powB (o8 + 7919 * u * u + 3) 3 := pow_ok (b := 102) (by omega) (by decide) (by decide)
    walk_at "nx hp2 m2 m3 hd1 p3"
    have g2 := fm_pos (i := (o8 + 7919 * u * u + 3) ^ 3) (show (0 : Int) < 2147483587 by decide)
    generalize ((o8 + 7919 * u * u + 3) ^ 3).fmod 2147483587 = two at *
    have d2 : 0 ≤ two.fdiv 4 ∧ two.fdiv 4 < 2147483648 := by
      rw [Int.fdiv_eq_ediv_of_nonneg _ (by decide)]
      omega
    generalize hd2 : two.fdiv 4 = o4 at *
    have m4 : mulB 536870909 o4 := mulB_of (a := 64) (b := 64) (by decide) (by omega) (by decide)
    walk_at "nx m4 hd2 hne"
    exact k _ _ (fm _).1 (fm _).2 S2 K2
end K74
namespace K74
open PySem Ev
theorem wp_law_line {p c : Nat} {way : Int} {st : Stt} {Q : D → Stt → Prop} {E : Str → List D → Stt → Prop} (hP : Pt3 st p c) (hc : c ≤ 900000000) (w0 : 0 ≤ way) (w1 : way < 4) (k : ∀ (b r : Int) s, -1000000 ≤ b → b ≤ 1000000 → 1 ≤ r → r ≤ 1000000 → Pt3 s p (c + 10) → Keep p st s → Q (.tup [.int b, .int r]) s) : Wp (F_law_line [.loc p, .int way] st) Q E := by
  unfold F_law_line; refine evF_i rfl ?_
  walk_at "nx c1_law_take "
  refine wp_law_take hP (by omega) (by decide) (by decide) fun x1 s1 a0 a1 P1 K1 => ?_
  walk_at "e c1_law_take "
  refine wp_law_take P1 (by omega) (by decide) (by decide) fun x2 s2 b0 b1 P2 K2 => ?_
  walk_at "e c1_law_take "
  refine wp_law_take P2 (by omega) (by decide) (by decide) fun x3 s3 c0 c1 P3 K3 => ?_
  walk_at "e c1_law_take "
  refine mem_wp w0 (by exact w1) fun x hx => ?_
  have : ∃ b : Int, x = .int b ∧ -1000000 ≤ b ∧ b ≤ 1000000 := by
    simp only [List.mem_cons, List.not_mem_nil, or_false] at hx
    rcases hx with rfl | rfl | rfl | rfl <;> exact ⟨_, rfl, by omega, by omega⟩
  obtain ⟨b, rfl, h0, h1⟩ := this
  clear hx
  walk_at "e c1_law_take "
  walk_at "nx c1_law_take "
  refine wp_law_take P3 (by omega) (by decide) (by decide) fun x4 s4 d0 d1 P4 K4 => ?_
  walk_at "e c1_law_take "
  refine wp_law_take P4 (by omega) (by decide) (by decide) fun x5 s5 e0 e1 P5 K5 => ?_
  walk_at "e c1_law_take "
  refine wp_law_take P5 (by omega) (by decide) (by decide) fun x6 s6 f0 f1 P6 K6 => ?_
  walk_at "e c1_law_take "
  refine wp_law_take P6 (by omega) (by decide) (by decide) fun x7 s7 g0 g1 P7 K7 => ?_
  walk_at "e c1_law_take "
  refine mem_wp g0 (by exact g1) fun x hx => ?_
  have : ∃ r : Int, x = .int r ∧ 1 ≤ r ∧ r ≤ 1000000 := by
    simp only [List.mem_cons, List.not_mem_nil, or_false] at hx
    rcases hx with rfl | rfl | rfl | rfl <;> exact ⟨_, rfl, by omega, by omega⟩
  obtain ⟨r, rfl, r0, r1⟩ := this
  clear hx
  walk_at "e c1_law_take "
  walk_at "nx c1_law_take "
  exact k _ _ _ h0 h1 r0 r1 (P7.mono (by omega)) ((((((K1.trans K2).trans K3).trans K4).trans K5).trans K6).trans K7)
end K74
namespace K74
open PySem Ev
noncomputable def SnOk (n : Int) (t : Tie) : Prop := BothOk n t ∧ 1 ≤ t.2.2.2
theorem wp_law_net {p c : Nat} {hs mo : Int} {st : Stt} {Q : D → Stt → Prop} {E : Str → List D → Stt → Prop} (hP : Pt3 st p c) (hc : c ≤ 800000000) (h0 : 1 ≤ hs) (h1 : hs ≤ 8) (m0 : 0 ≤ mo) (m1 : mo ≤ 20) (k : ∀ n ts s, NetOk n ts → (∀ t ∈ ts, 1 ≤ t.2.2.2) → n ≤ hs → (ts.length : Int) ≤ mo → Pt3 s p (c + 400) → Keep p st s → Q (webD n ts) s) : Wp (F_law_net [.loc p, .int hs, .int mo] st) Q E := by
  unfold F_law_net; refine evF_i rfl ?_
  walk_at "nx c2_law_take c2_law_line "
  refine wp_law_take hP (by omega) (by decide) (by decide) fun sh s1 sh0 sh1 P1 K1 => ?_
  walk_at "e c2_law_take c2_law_line "
  walk_at "nx c2_law_take c2_law_line "
  refine wp_law_take P1 (by omega) (by decide) (by decide) fun wy s2 wy0 wy1 P2 K2 => ?_
  walk_at "e c2_law_take c2_law_line "
  walk_at "nx c2_law_take c2_law_line "
  refine wp_law_take P2 (by omega) (by omega) (by omega) fun a s3 a0 a1 P3 K3 => ?_
  walk_at "e c2_law_take c2_law_line "
  refine wp_law_take P3 (by omega) (by decide) (by decide) fun b s4 b0 b1 P4 K4 => ?_
  walk_at "e c2_law_take c2_law_line "
  refine mem_wp b0 (by exact b1) fun x hx => ?_
  have : ∃ n, x = .int n ∧ 1 ≤ n ∧ n ≤ hs := by
    simp only [List.mem_cons, List.not_mem_nil, or_false] at hx
    rcases hx with rfl | rfl <;> exact ⟨_, rfl, by omega, by omega⟩
  obtain ⟨n, rfl, n0, n1⟩ := this
  clear hx
  have K14 := ((K1.trans K2).trans K3).trans K4
  clear K1 K2 K3 K4 P1 P2 P3
  walk_at "e c2_law_take c2_law_line "
  walk_at "nx c2_law_take c2_law_line "
  have lp := P4.lt
  have P5 := P4.app (r := [.lst []])
  have l0 : stLst (s4 ++ [.lst []]) s4.length = some ([] : List D) := stLst_last
  have K5 : Keep p st (s4 ++ [.lst []]) := K14.trans Keep.app
  have ne : s4.length ≠ p := by omega
  have nw : st.length ≤ s4.length := K14.1
  clear K14 P4
  generalize s4 ++ [.lst []] = s5 at *
  generalize s4.length = L at *
  refine ws_next ?_
  intro KK hK
  walk_at "e c2_law_take c2_law_line "
  refine wp_law_take P5 (by omega) (by omega) (by omega) fun cn s6 c0 c1 P6 K6 => ?_
  walk_at "e c2_law_take c2_law_line "
  refine wp_law_take P6 (by omega) (by decide) (by decide) fun e s7 e0 e1 P7 K7 => ?_
  walk_at "e c2_law_take c2_law_line "
  refine mem_wp e0 (by exact e1) fun x hx => ?_
  have : ∃ m, x = .int m ∧ 0 ≤ m ∧ m ≤ mo := by
    simp only [List.mem_cons, List.not_mem_nil, or_false] at hx
    rcases hx with rfl | rfl <;> exact ⟨_, rfl, by omega, by omega⟩
  obtain ⟨m, rfl, mm0, mm1⟩ := this
  clear hx
  walk_at "e c2_law_take c2_law_line "
  have l7 := K7.lst ne (K6.lst ne l0)
  have K7 := (K5.trans K6).trans K7
  clear K5 K6 P5 P6 l0
  have fin : ∀ z : Int, (z = 0 ∨ z = 1 ∧ 1 < n) → Ws (forGo [] (.nm 7) (fun e st => evSs G2 l_law_net_4 e st) (rngI 0 (m * z).toNat) [some (.loc p), some (.int hs), some (.int mo), some (.int sh), some (.int wy), some (.int n), some (.loc L), none, none, none] s7) KK Q (fun c fs x s => E c fs s) := by
    intro z hz
    have hcm : (m * z).toNat ≤ mo.toNat := by
      rcases hz with rfl | ⟨rfl, _⟩
      · simp
      · rw [Int.mul_one]; omega
    refine for_R (fun i e s => i ≤ (m * z).toNat ∧ (∃ a7 a8 a9, e = [some (.loc p), some (.int hs), some (.int mo), some (.int sh), some (.int wy), some (.int n), some (.loc L), a7, a8, a9]) ∧ ∃ ts : List Tie, stLst s L = some (ts.map tieD) ∧ ts.length = i ∧ (∀ t ∈ ts, SnOk n t) ∧ Pt3 s p (c + 10 + 15 * i) ∧ Keep p st s) ⟨Nat.zero_le _, ⟨_, _, _, rfl⟩, [], l7, rfl, by simp, P7.mono (by omega), K7⟩ ?_ ?_
    · rintro i e s hi ⟨_, ⟨a7, a8, a9, rfl⟩, ts, hl, hlen, hok, P8, K8⟩
      have n2 : 1 < n := by
        rcases hz with rfl | ⟨_, h⟩
        · simp at hi
        · exact h
      have hi2 : i < 20 := by omega
      refine ⟨by simp, ?_⟩
      simp only [List.set_cons_succ, List.set_cons_zero]
      rw [show ((0 : Int) + (i : Nat)) = ((i : Nat) : Int) by omega]
      have i0 : 0 ≤ ((i : Nat) : Int) := by omega
      have i20 : ((i : Nat) : Int) < 20 := by omega
      generalize hI : ((i : Nat) : Int) = I at *
      walk_at "nx c2_law_take c2_law_line "
      refine wp_law_take P8 (by omega) (by omega) (by omega) fun o s9 o0 o1 P9 K9 => ?_
      walk_at "e c2_law_take c2_law_line "
      walk_at "nx c2_law_take c2_law_line "
      have nz : n ≠ 0 := by omega
      refine wp_law_take P9 (by omega) (by omega) (by omega) fun d s10 d0 d1 P10 K10 => ?_
      walk_at "e c2_law_take c2_law_line nz"
      have hf := mod_near (x := o + 1 + d) (m := n) (by omega) (by omega)
      generalize (o + 1 + d).fmod n = u at *
      have u0 : 0 ≤ u ∧ u < n ∧ o ≠ u := by split at hf <;> omega
      clear hf
      have hl := K10.lst ne (K9.lst ne hl)
      have K10 := (K8.trans K9).trans K10
      clear K8 K9 P8 P9
      have c10 : c + 10 + 15 * i + 2 ≤ 900000000 := by omega
      -- behind the choice of both houses
      have app : ∀ (o u : Int) (N : Ev.Env → Stt → Prop), 0 ≤ o → o < n → 0 ≤ u → u < n → o ≠ u → (∀ a7 a8 a9 s (ts : List Tie), stLst s L = some (ts.map tieD) → ts.length = i + 1 → (∀ t ∈ ts, SnOk n t) → Pt3 s p (c + 10 + 15 * (i + 1)) → Keep p st s → N [some (.loc p), some (.int hs), some (.int mo), some (.int sh), some (.int wy), some (.int n), some (.loc L), a7, a8, a9] s) →
          Ws (evSs G2 l_law_net_4t4 [some (.loc p), some (.int hs), some (.int mo), some (.int sh), some (.int wy), some (.int n), some (.loc L), some (.int I), some (.int o), some (.int u)] s10) N Q (fun c fs x s => E c fs s) := by
        intro o u N o0 o1 u0 u1 ou kN
        have rc : (stLst s10 L).isSome = true := by rw [hl]; rfl
        have mm : ∃ x y : Int, (if u < o then u else o) = x ∧ (if u > o then u else o) = y ∧ 0 ≤ x ∧ x < y ∧ y < n := by
          refine ⟨_, _, rfl, rfl, ?_, ?_, ?_⟩
          · split <;> omega
          · split <;> split <;> omega
          · split <;> omega
        obtain ⟨x, y, mx, my, x0, xy, yn⟩ := mm
        walk_at "nx c2_law_take c2_law_line rc mx my"
        refine wp_law_line P10 (by omega) (by omega) (by omega) fun bs rs s11 bs0 bs1 rs0 rs1 P11 K11 => ?_
        have hl := K11.lst ne hl
        have hle : (List.map tieD ts).length ≤ 1000000 := by rw [List.length_map]; omega
        walk_at "e c2_law_take c2_law_line hl"
        rw [if_pos hle]
        have nx2 := hK
        have hl2 : stLst (s11.set L (.lst (ts.map tieD ++ [.tup [.int x, .int y, .int bs, .int rs]]))) L = some ((ts ++ [(x, y, bs, rs)]).map tieD) := by
          rw [stLst_same (stLst_lt hl)]; simp [tieD]
        have P12 := P11.set (l := L) (o := .lst (ts.map tieD ++ [.tup [.int x, .int y, .int bs, .int rs]])) ne
        have K12 : Keep p st (s11.set L (.lst (ts.map tieD ++ [.tup [.int x, .int y, .int bs, .int rs]]))) := by
          have K := K10.trans K11
          exact ⟨by rw [List.length_set]; exact K.1, fun k nk q => by rw [List.getElem?_set_ne (by omega)]; exact K.2 k nk q⟩
        generalize s11.set L (.lst (ts.map tieD ++ [.tup [.int x, .int y, .int bs, .int rs]])) = s12 at *
        have hok2 : ∀ t ∈ ts ++ [(x, y, bs, rs)], SnOk n t := by
          intro t ht
          rcases List.mem_append.mp ht with ht | ht
          · exact hok t ht
          · rw [List.mem_singleton] at ht
            subst ht
            exact ⟨⟨x0, xy, yn, bs0, bs1, by show _ ≤ rs; omega, rs1⟩, rs0⟩
        have hlen2 : (ts ++ [(x, y, bs, rs)]).length = i + 1 := by simp [hlen]
        generalize ts ++ [(x, y, bs, rs)] = ts2 at *
        refine hK _ _ ?_
        clear hK nx2 P10 P11 K10 K11 hl hok
        walk_at "nx c2_law_take c2_law_line "
        refine wp_law_take P12 (by omega) (by decide) (by decide) fun yy s13 y0 y1 P13 K13 => ?_
        have hl3 := K13.lst ne hl2
        have K13 := K12.trans K13
        walk_at "e c2_law_take c2_law_line "
        by_cases yz : yy = 0
        · by_cases I0 : 0 < I
          · walk_at "e c2_law_take c2_law_line yz I0"
            have h9 := hK
            walk_at "nx c2_law_take c2_law_line hl3"
            refine wp_law_take P13 (by omega) I0 (by omega) fun v s14 v0 v1 P14 K14 => ?_
            have hl4 := K14.lst ne hl3
            have K14 := K13.trans K14
            walk_at "e c2_law_take c2_law_line hl4"
            refine mem_wp v0 (by rw [List.length_map]; omega) fun x hx => ?_
            obtain ⟨t, ht, rfl⟩ := List.mem_map.mp hx
            have hix : L2.ixN (List.map tieD ts2).length (-1) = some i := by
              rw [List.length_map, hlen2]
              unfold L2.ixN
              rw [if_neg (by decide), if_pos (by omega)]
              congr 1
              omega
            walk_at "e c2_law_take c2_law_line hl4 hix"
            refine h9 _ _ ?_
            simp only [ws_nil]
            refine kN _ _ _ _ (ts2.set i t) (by rw [stLst_same (stLst_lt hl4), List.map_set]) (by rw [List.length_set]; exact hlen2) (fun t' ht' => (List.mem_or_eq_of_mem_set ht').elim (fun h => hok2 t' h) (fun h => by subst h; exact hok2 _ ht)) ((P14.set ne).mono (by omega)) ⟨by rw [List.length_set]; exact K14.1, fun k' nk q => by rw [List.getElem?_set_ne (by omega)]; exact K14.2 k' nk q⟩
          · walk_at "e c2_law_take c2_law_line yz I0"
            exact kN _ _ _ _ ts2 hl3 hlen2 hok2 (P13.mono (by omega)) K13
        · walk_at "e c2_law_take c2_law_line yz"
          exact kN _ _ _ _ ts2 hl3 hlen2 hok2 (P13.mono (by omega)) K13
      have two : ∀ (o u : Int) (N : Ev.Env → Stt → Prop), 0 ≤ o → o < n → 0 ≤ u → u < n → o ≠ u → (∀ a7 a8 a9 s (ts : List Tie), stLst s L = some (ts.map tieD) → ts.length = i + 1 → (∀ t ∈ ts, SnOk n t) → Pt3 s p (c + 10 + 15 * (i + 1)) → Keep p st s → N [some (.loc p), some (.int hs), some (.int mo), some (.int sh), some (.int wy), some (.int n), some (.loc L), a7, a8, a9] s) →
          Ws (evSs G2 l_law_net_4t3 [some (.loc p), some (.int hs), some (.int mo), some (.int sh), some (.int wy), some (.int n), some (.loc L), some (.int I), some (.int o), some (.int u)] s10) N Q (fun c fs x s => E c fs s) := by
        intro o u N o0 o1 u0 u1 ou kN
        by_cases c1 : sh = 2
        · subst c1
          have nz1 : n - 1 ≠ 0 := by omega
          have f1 := Int.fmod_nonneg_of_pos I (show 0 < n - 1 by omega)
          have f2 := Int.fmod_lt_of_pos I (show 0 < n - 1 by omega)
          generalize hq : I.fmod (n - 1) = q at *
          walk_at "nx c2_law_take c2_law_line "
          have h9 := hK
          walk_at "nx c2_law_take c2_law_line nz1 hq"
          (try refine h9 _ _ ?_)
          exact app _ _ _ (by omega) (by omega) (by omega) (by omega) (by omega) kN
        · walk_at "nx c2_law_take c2_law_line c1"
          exact app _ _ _ o0 o1 u0 u1 ou kN
      have fini : ∀ a7 a8 a9 s (ts : List Tie), stLst s L = some (ts.map tieD) → ts.length = i + 1 → (∀ t ∈ ts, SnOk n t) → Pt3 s p (c + 10 + 15 * (i + 1)) → Keep p st s → (fun (i : Nat) (e : Ev.Env) s => i ≤ (m * z).toNat ∧ (∃ a7 a8 a9, e = [some (.loc p), some (.int hs), some (.int mo), some (.int sh), some (.int wy), some (.int n), some (.loc L), a7, a8, a9]) ∧ ∃ ts : List Tie, stLst s L = some (ts.map tieD) ∧ ts.length = i ∧ (∀ t ∈ ts, SnOk n t) ∧ Pt3 s p (c + 10 + 15 * i) ∧ Keep p st s) (i + 1) [some (.loc p), some (.int hs), some (.int mo), some (.int sh), some (.int wy), some (.int n), some (.loc L), a7, a8, a9] s := fun a7 a8 a9 s ts h1 h2 h3 h4 h5 => ⟨by omega, ⟨_, _, _, rfl⟩, ts, h1, h2, h3, h4, h5⟩
      by_cases c1 : sh = 1
      · subst c1
        by_cases c2 : I < n - 1
        · walk_at "nx c2_law_take c2_law_line c2"
          have h9 := hK
          walk_at "nx c2_law_take c2_law_line "
          (try refine h9 _ _ ?_)
          first | exact two _ _ _ i0 (by omega) (by omega) (by omega) (by omega) fini | exact app _ _ _ i0 (by omega) (by omega) (by omega) (by omega) fini
        · walk_at "nx c2_law_take c2_law_line c2"
          exact two _ _ _ o0 o1 u0.1 u0.2.1 u0.2.2 fini
      · walk_at "nx c2_law_take c2_law_line c1"
        exact two _ _ _ o0 o1 u0.1 u0.2.1 u0.2.2 fini
    · rintro e s ⟨_, ⟨a7, a8, a9, rfl⟩, ts, hl, hlen, hok, P8, K8⟩
      refine hK _ _ ?_
      walk_at "nx c2_law_take c2_law_line hl"
      exact k _ ts s ⟨by omega, by omega, by omega, fun t ht => (hok t ht).1⟩ (fun t ht => (hok t ht).2) (by omega) (by omega) (P8.mono (by omega)) K8
  by_cases hn : 1 < n
  · have hr : rngOk (m * 1) = true := decide_eq_true (by omega)
    walk_at "e c2_law_take c2_law_line hn"
    refine ⟨mulB_of (a := 64) (b := 64) (by omega) (by decide) (by decide), ?_⟩
    rw [hr]
    walk_at "e c2_law_take c2_law_line "
    exact fin 1 (.inr ⟨rfl, hn⟩)
  · have hr : rngOk (m * 0) = true := decide_eq_true (by omega)
    walk_at "e c2_law_take c2_law_line hn"
    refine ⟨mulB_of (a := 64) (b := 64) (by omega) (by decide) (by decide), ?_⟩
    rw [hr]
    walk_at "e c2_law_take c2_law_line "
    exact fin 0 (.inl rfl)
end K74
namespace K74
open PySem Ev
theorem wp_law_pot {d : D} {st : Stt} {ns : List Int} {i : Int} {Q : D → Stt → Prop} {E : Str → List D → Stt → Prop} (h : lstOf st (.d d) = some (ns.map D.int)) (i0 : 0 ≤ i) (i1 : i ≤ 1000) (k : ∀ s, Pt3 s st.length 0 → Sub st s → Q (.loc st.length) s) : Wp (F_law_pot [d, .int i] st) Q E := by
  have hl := scr_len h
  rw [List.length_map] at hl
  have hx := fun i : Int => scr_ix (i := i) h
  have m2 : mulB 7919 i := mulB_of (a := 64) (b := 64) (by decide) (by omega) (by decide)
  have m3 : mulB 9973 i := mulB_of (a := 64) (b := 64) (by decide) (by omega) (by decide)
  have fin : ∀ c : Int, Ws (evSs G3 r_law_pot_2 [some d, some (.int i), some (.int c)] st) (fun x s => Q .non s) Q (fun c fs x s => E c fs s) := by
    intro c
    have f1 := fm_pos (i := c) (show (0 : Int) < 2147483629 by decide)
    walk_at "nx m3"
    exact k _ ⟨_, _, _, stLst_last, by split <;> omega, by omega, by omega, by decide, by decide⟩ Sub.app
  unfold F_law_pot; refine evF_i rfl ?_
  walk_at "nx m2"
  by_cases z : i < ns.length
  · obtain ⟨x, e⟩ := at_map2 i0 z
    walk_at "nx hl z"
    have h0 := hK
    walk_at "nx hx e"
    refine h0 _ _ ?_
    exact fin _
  · walk_at "nx hl z"
    exact fin _
end K74
namespace K74
open PySem Ev
theorem is_whole_ok {p : List Nat} {m : Nat} {st : Stt} {d : D} (h : Okd p m st d) : F_is_whole [d] st = .ok (.bl (isWhole d)) st := by
  refine eq_of_wp ?_
  unfold F_is_whole; refine evF_i rfl ?_
  have i1 := fun G => h.isi_int (G := G)
  have i2 := fun G => h.isi_bool (G := G)
  rw [isWhole_eq]
  walk_at "nx i1 i2"
  cases isInt d <;> simp [wp_ok, al_d]
end K74
namespace K74
open PySem Ev
theorem are_wholes_ok {p : List Nat} {m : Nat} {st : Stt} {d : D} {n : Int} (h : Okd p m st d) (hm : m ≤ 1000000) : F_are_wholes [d, .int n] st = .ok (.bl (areWholes d n)) st := by
  refine eq_of_wp ?_
  unfold F_are_wholes; refine evF_i rfl ?_
  have i1 := fun G => h.isi_tuple (G := G)
  cases q : isTpD d with
  | false =>
    walk_at "nx c5_is_whole i1 q"
    cases d <;> first | (simp [isTpD] at q; done) | exact ⟨rfl, rfl⟩
  | true =>
    obtain ⟨xs, rfl⟩ := isTpD_of q
    obtain ⟨h1, h2⟩ := h.tup_in
    walk_at "nx c5_is_whole i1 q"
    by_cases e : (xs.length : Int) = n
    · walk_at "e c5_is_whole e"
      walk_at "nx c5_is_whole "
      rw [lc_mp (f := fun x => .bl (isWhole x))]
      · walk_at "e c5_is_whole bools_map"
        rw [if_pos (show xs.length ≤ 1000000 by omega)]
        walk_at "e c5_is_whole bools_map"
        simp [areWholes, e]
      · intro x hx
        refine eq_of_wp ?_
        have := is_whole_ok (h2 x hx)
        walk_at "e c5_is_whole this"
    · walk_at "e c5_is_whole e"
      walk_at "nx c5_is_whole "
      simp [areWholes, e]
end K74
namespace K74
open PySem Ev
theorem is_both_ways_ok {p : List Nat} {m : Nat} {st : Stt} {d : D} {n : Int} (h : Okd p m st d) (hm : m ≤ 1000000) : F_is_both_ways [.int n, d] st = .ok (.bl (isBothD n d)) st := by
  have h1 := are_wholes_ok (n := 4) h hm
  refine eq_of_wp ?_
  unfold F_is_both_ways; refine evF_i rfl ?_
  cases q : areWholes d 4 with
  | false =>
    walk_at "nx c6_are_wholes v6_MOST_NUMBER h1 q"
    walk_at "nx c6_are_wholes v6_MOST_NUMBER "
    unfold isBothD
    split
    · simp [areWholes, isWhole] at q
    · rfl
  | true =>
    obtain ⟨ns, rfl, hl⟩ := areWholes_of (n := 4) q
    match ns, hl with
    | [a, b, c, e], _ =>
      simp only [List.map_cons, List.map_nil] at h1 q ⊢
      rw [q] at h1
      walk_at "nx c6_are_wholes v6_MOST_NUMBER h1"
      by_cases z1 : 0 ≤ a <;> by_cases z2 : a < b <;> by_cases z3 : b < n
      all_goals (walk_at "e c6_are_wholes v6_MOST_NUMBER z1 z2 z3 decide_false Bool.and_true Bool.and_false Bool.and_self")
      all_goals (walk_at "nx c6_are_wholes v6_MOST_NUMBER ")
      all_goals (try (simp only [isBothD, z1, z2, z3, false_and, and_false, true_and, decide_false]; done))
      rw [abs_of c, abs_of e]
      by_cases z6 : c.natAbs ≤ 1000000
      · have z6' : (c.natAbs : Int) ≤ 1000000 := by omega
        walk_at "e c6_are_wholes v6_MOST_NUMBER z6'"
        simp [isBothD, z1, z2, z3, z6]
        try omega
      · have z6' : ¬ (c.natAbs : Int) ≤ 1000000 := by omega
        walk_at "e c6_are_wholes v6_MOST_NUMBER z6'"
        simp [isBothD, z6]
end K74
namespace K74
open PySem Ev
theorem is_net_ok {p : List Nat} {m : Nat} {st : Stt} {d : D} (h : Okd p m st d) (hm : m ≤ 1000000) : F_is_net [d] st = .ok (.bl (isNetD d)) st := by
  have i1 := fun G => h.isi_tuple (G := G)
  refine eq_of_wp ?_
  unfold F_is_net; refine evF_i rfl ?_
  cases q : isTpD d with
  | false =>
    walk_at "nx c7_is_whole c7_is_both_ways v7_MOST_HOUSES v7_MOST_TIES i1 q"
    walk_at "nx c7_is_whole c7_is_both_ways v7_MOST_HOUSES v7_MOST_TIES "
    cases d <;> first | (simp [isTpD] at q; done) | rfl
  | true =>
    obtain ⟨xs, rfl⟩ := isTpD_of q
    obtain ⟨h1, h2⟩ := h.tup_in
    by_cases e : (xs.length : Int) = 2
    · obtain ⟨x, y, rfl⟩ := two_of e
      have hx := h2 x (by simp)
      have hy := h2 y (by simp)
      have w1 := is_whole_ok hx
      have i2 := fun G => hy.isi_tuple (G := G)
      cases qx : isWhole x with
      | false =>
        walk_at "nx c7_is_whole c7_is_both_ways v7_MOST_HOUSES v7_MOST_TIES i1 q w1 qx"
        walk_at "nx c7_is_whole c7_is_both_ways v7_MOST_HOUSES v7_MOST_TIES "
        unfold isNetD
        split
        · rename_i heq; cases heq; simp [isWhole] at qx
        · rfl
      | true =>
        obtain ⟨n, rfl⟩ := isWhole_of qx
        walk_at "nx c7_is_whole c7_is_both_ways v7_MOST_HOUSES v7_MOST_TIES i1 q w1 qx"
        walk_at "nx c7_is_whole c7_is_both_ways v7_MOST_HOUSES v7_MOST_TIES "
        cases qy : isTpD y with
        | false =>
          have r : isNetD (.tup [.int n, y]) = false := by
            unfold isNetD
            split
            · rename_i heq; cases heq; simp [isTpD] at qy
            · rfl
          rw [r]
          by_cases z1 : 1 ≤ n
          · by_cases z2 : n ≤ 8
            · walk_at "nx c7_is_whole c7_is_both_ways v7_MOST_HOUSES v7_MOST_TIES z1 z2 i2 qy"
              walk_at "nx c7_is_whole c7_is_both_ways v7_MOST_HOUSES v7_MOST_TIES "
            · walk_at "nx c7_is_whole c7_is_both_ways v7_MOST_HOUSES v7_MOST_TIES z1 z2"
              walk_at "nx c7_is_whole c7_is_both_ways v7_MOST_HOUSES v7_MOST_TIES "
          · walk_at "nx c7_is_whole c7_is_both_ways v7_MOST_HOUSES v7_MOST_TIES z1"
            walk_at "nx c7_is_whole c7_is_both_ways v7_MOST_HOUSES v7_MOST_TIES "
        | true =>
          obtain ⟨ts, rfl⟩ := isTpD_of qy
          obtain ⟨h3, h4⟩ := hy.tup_in
          by_cases z1 : 1 ≤ n
          · by_cases z2 : n ≤ 8
            · by_cases z3 : (20 : Int) < ts.length
              · walk_at "nx c7_is_whole c7_is_both_ways v7_MOST_HOUSES v7_MOST_TIES z1 z2 z3 i2 qy"
                walk_at "nx c7_is_whole c7_is_both_ways v7_MOST_HOUSES v7_MOST_TIES "
                have : ¬ ts.length ≤ 20 := by omega
                simp [isNetD, this]
              · walk_at "nx c7_is_whole c7_is_both_ways v7_MOST_HOUSES v7_MOST_TIES z1 z2 z3 i2 qy"
                walk_at "nx c7_is_whole c7_is_both_ways v7_MOST_HOUSES v7_MOST_TIES "
                rw [lc_mp (f := fun x => .bl (isBothD n x))]
                · walk_at "e c7_is_whole c7_is_both_ways v7_MOST_HOUSES v7_MOST_TIES "
                  rw [if_pos (by omega)]
                  walk_at "e c7_is_whole c7_is_both_ways v7_MOST_HOUSES v7_MOST_TIES bools_map"
                  have : ts.length ≤ 20 := by omega
                  simp [isNetD, z1, z2, this]
                · intro x hx
                  refine eq_of_wp ?_
                  have := is_both_ways_ok (n := n) (h4 x hx) hm
                  walk_at "e c7_is_whole c7_is_both_ways v7_MOST_HOUSES v7_MOST_TIES this"
            · walk_at "nx c7_is_whole c7_is_both_ways v7_MOST_HOUSES v7_MOST_TIES z1 z2"
              walk_at "nx c7_is_whole c7_is_both_ways v7_MOST_HOUSES v7_MOST_TIES "
              simp [isNetD, z2]
          · walk_at "nx c7_is_whole c7_is_both_ways v7_MOST_HOUSES v7_MOST_TIES z1"
            walk_at "nx c7_is_whole c7_is_both_ways v7_MOST_HOUSES v7_MOST_TIES "
            simp [isNetD, z1]
    · walk_at "nx c7_is_whole c7_is_both_ways v7_MOST_HOUSES v7_MOST_TIES i1 q e"
      walk_at "nx c7_is_whole c7_is_both_ways v7_MOST_HOUSES v7_MOST_TIES "
      unfold isNetD
      split
      · rename_i heq; cases heq; simp at e
      · rfl
end K74
namespace K74
open PySem Ev
theorem need_net_ok {st : Stt} {n : Int} {ts : List Tie} (w : NetOk n ts) : F_need_net [webD n ts] st = .ok .non st := by
  have h := is_net_ok (p := []) (st := st) (okd_web (T := []) (m := 20) (n := n) (by decide) w.len) (by decide)
  rw [isNet_web w] at h
  refine eq_of_wp ?_
  unfold F_need_net; refine evF_i rfl ?_
  walk_at "nx c8_is_net h"
  exact ⟨rfl, rfl⟩
end K74
namespace K74
open PySem Ev
noncomputable def lnT (t : Tie) : D := .tup [.int t.2.2.1, .int t.2.2.2]
theorem tie_lines_ok {ts : List Tie} (hl : ts.length ≤ 1000) (st : Stt) : F_tie_lines [.tup (ts.map tieD)] st = .ok (.loc st.length) (st ++ [.lst (ts.map lnT)]) := by
  refine eq_of_wp ?_
  unfold F_tie_lines; refine evF_i rfl ?_
  walk_at "nx "
  rw [lc_mp (f := fun d => match d with | .tup [_, _, a, b] => .tup [a, b] | _ => .non)]
  · have e : (ts.map tieD).map (fun d => match d with | .tup [_, _, a, b] => D.tup [a, b] | _ => .non) = ts.map lnT := by
      rw [List.map_map]; rfl
    rw [e]
    walk_at "e "
    rw [if_pos (by rw [List.length_map]; omega)]
    walk_at "e "
  · intro d hd
    obtain ⟨t, _, rfl⟩ := List.mem_map.mp hd
    refine eq_of_wp ?_
    have c := cut_tie (a := t.1) (b := t.2.1) (c := t.2.2.1) (d := t.2.2.2)
    unfold tieD
    walk_at "e c"
end K74
namespace K74
open PySem Ev
theorem need_shares_ok {ts : List Tie} {l : Nat} {st : Stt} (hl : stLst st l = some (ts.map lnT)) (ln : ts.length ≤ 1000) (sv : Sv ts) : F_need_shares [.loc l] st = .ok .non st := by
  have lv : liveOk st [(l, ts.map lnT)] = true := by simp only [liveOk, List.all_cons, List.all_nil, Bool.and_true, hl, sames_refl]
  refine eq_of_wp ?_
  unfold F_need_shares; refine evF_i rfl ?_
  refine ws_next ?_
  intro KK hK
  walk_at "e hl"
  rw [lc_mpf (f := fun _ => none) lv]
  · have e : (ts.map lnT).filterMap (fun _ => (none : Option D)) = [] := by
      induction ts with
      | nil => rfl
      | cons t r ih => simp
    rw [e]
    walk_at "e "
    (try rw [if_pos (by rw [List.length_map]; omega)])
    walk_at "e "
    (try exact ⟨rfl, rfl⟩)
  · intro d hd
    obtain ⟨t, ht, rfl⟩ := List.mem_map.mp hd
    have := sv t ht
    have n1 : ¬ t.2.2.2 < 1 := by omega
    refine eq_of_wp ?_
    unfold lnT
    walk_at "e n1"
end K74
namespace K74
open PySem Ev
theorem divisor_ok (a b : Int) (st : Stt) : F_divisor_of [.int a, .int b] st = .ok (.int (Int.gcd a b)) st := by
  refine eq_of_wp ?_
  unfold F_divisor_of
  rw [wp_evF (by rfl : [D.int a, D.int b].length = 2)]
  unfold b_divisor_of r_divisor_of_1
  walk_at "ev l_divisor_of_0 "
  refine ws_whl (I := fun n e s => ∃ a' b', e = [some (.int a'), some (.int b')] ∧ s = st ∧ n = b'.natAbs ∧ Int.gcd a' b' = Int.gcd a b) b.natAbs ⟨a, b, rfl, rfl, rfl, rfl⟩ ?_
  rintro n e s ⟨a', b', rfl, rfl, rfl, hg⟩
  walk_at "ev l_divisor_of_0 "
  split
  · rename_i hb
    exact ⟨hb, _, fmod_abs a' b' hb, _, _, rfl, rfl, (gcd_step a' b').trans hg⟩
  · rename_i hb
    have hb : b' = 0 := by omega
    subst hb
    rw [Int.gcd_zero_right] at hg
    rw [← hg, abs_if]
end K74
namespace K74
open PySem Ev
theorem is_fraction_ok {p : List Nat} {m : Nat} {st : Stt} {d : D} (h : Okd p m st d) (hm : m ≤ 1000000) : F_is_fraction [d] st = .ok (.bl (isFr d)) st := by
  refine eq_of_wp ?_
  unfold F_is_fraction; refine evF_i rfl ?_
  have h1 := are_wholes_ok (n := 2) h hm
  have h2 := divisor_ok
  walk_at "nx c12_are_wholes c12_divisor_of h1"
  cases q : areWholes d 2 with
  | false => simp only [Bool.false_eq_true, if_false, wp_ok, al_d, isFr_no q, and_self]
  | true =>
    obtain ⟨ns, rfl, hl⟩ := areWholes_of (n := 2) q
    match ns, hl with
    | [a, b], _ =>
      walk_at "e c12_are_wholes c12_divisor_of h2"
      by_cases b0 : 0 < b
      · walk_at "e c12_are_wholes c12_divisor_of b0"
        simp only [wp_ok, isFr, b0, decide_true, Bool.true_and, true_and]
        congr 2; apply propext; omega
      · walk_at "e c12_are_wholes c12_divisor_of b0"
        simp [isFr, b0]
end K74
namespace K74
open PySem Ev
theorem need_price_ok {a b : Int} {st : Stt} (h1 : 0 < b) (h2 : Int.gcd a b = 1) : F_need_price [.tup [.int a, .int b]] st = .ok .non st := by
  have h := is_fraction_ok (p := []) (m := 2) (st := st) (d := .tup [.int a, .int b]) (okd_fr (Nat.le_refl _)) (by decide)
  rw [isFr_yes h1 h2] at h
  refine eq_of_wp ?_
  unfold F_need_price; refine evF_i rfl ?_
  walk_at "nx c13_is_fraction h"
  exact ⟨rfl, rfl⟩
end K74
namespace K74
open PySem Ev
theorem grown_step {n : Int} {ts : List Tie} {x0 x1 x5 x6 x7 x8 : Option D} {lm lf i : Nat} {t : Tie} {m : List Int} {F : List Nat} {st : Stt} {N : Ev.Env → Stt → Prop} {R : D → Stt → Prop} {E : Str → List D → Ev.Env → Stt → Prop}
    (h0 : x0 = some (.tup [.int n, .tup (ts.map tieD)])) (w : BothOk n t) (ht : ts[i]? = some t) (hm : stLst st lm = some (m.map D.int)) (hf : stLst st lf = some (rowD F)) (ml : (m.length : Int) = n) (n8 : n ≤ 8) (fl : F.length ≤ 1000) (ne : lf ≠ lm)
    (k : ∀ lm' x5 x6 s, lf ≠ lm' → (lm' = lm ∨ st.length ≤ lm') → stLst s lm' = some ((growS ts (m, F) i).1.map D.int) → stLst s lf = some (rowD (growS ts (m, F) i).2) → Kp [lf] st s → N [x0, x1, some (.loc lm'), some (.loc lf), some (.int (i : Nat)), x5, x6, x7, x8] s) :
    Ws (evSs G14 l_grown_2 [x0, x1, some (.loc lm), some (.loc lf), some (.int (i : Nat)), x5, x6, x7, x8] st) N R E := by
  subst h0
  obtain ⟨w1, w2, w3, _⟩ := w
  have a1 := at_ties ht
  have e0 : tieD t = .tup [.int t.1, .int t.2.1, .int t.2.2.1, .int t.2.2.2] := rfl
  have b1 := at_mark (m := m) (i := t.1) (by omega) (by omega)
  have b2 := at_mark (m := m) (i := t.2.1) (by omega) (by omega)
  have lv := live1 hm
  have hlt := stLst_lt hf
  have hlm := stLst_lt hm
  walk_at "nx a1 hm b1 b2 e0"
  by_cases q : m.getD t.1.toNat 0 = m.getD t.2.1.toNat 0
  · have g := growS_no (F := F) ht q
    rw [g] at k
    generalize m.getD t.1.toNat 0 = u at *
    generalize m.getD t.2.1.toNat 0 = v at *
    subst q
    walk_at "nx "
    exact k lm _ _ _ ne (.inl rfl) hm hf Kp.refl
  · have g := growS_yes (F := F) ht q
    rw [g] at k
    have rl := relab_D (a := m.getD t.1.toNat 0) (b := m.getD t.2.1.toNat 0) (m := m)
    have rlen := relab_len (a := m.getD t.1.toNat 0) (b := m.getD t.2.1.toNat 0) (m := m)
    generalize m.getD t.1.toNat 0 = u at *
    generalize m.getD t.2.1.toNat 0 = v at *
    have fr : rowD F ++ [D.int ((i : Nat) : Int)] = rowD (F ++ [i]) := by unfold rowD; simp
    have rfl' : (rowD F).length ≤ 1000000 := by unfold rowD; rw [List.length_map]; omega
    have rc : (stLst st lf).isSome = true := by rw [hf]; rfl
    generalize hI : ((i : Nat) : Int) = I at *
    walk_at "nx q"
    have h9 := hK
    walk_at "nx rc hf"
    rw [if_pos rfl', fr]
    refine hK _ _ ?_
    have hm2 : stLst (st.set lf (.lst (rowD (F ++ [i])))) lm = some (m.map D.int) := by rw [stLst_ne ne]; exact hm
    have hf2 : stLst (st.set lf (.lst (rowD (F ++ [i])))) lf = some (rowD (F ++ [i])) := stLst_same hlt
    have K2 : Kp [lf] st (st.set lf (.lst (rowD (F ++ [i])))) := Kp.set (by simp)
    have lv := live1 hm2
    generalize st.set lf (.lst (rowD (F ++ [i]))) = s2 at *
    refine ws_next ?_
    intro KK hK
    walk_at "e hm2"
    rw [lc_mapL lv (f := rlF u v)]
    · walk_at "ep "
      rw [if_pos (by rw [List.length_map]; omega)]
      walk_at "e "
      rw [rl]
      (try refine hK _ _ ?_)
      simp only [ws_nil]
      refine h9 _ _ ?_
      simp only [ws_nil]
      have l2 := K2.1
      have hf3 := stLst_lt hf2
      refine k s2.length _ _ _ (by omega) (.inr l2) stLst_last ?_ (K2.trans Kp.app)
      rw [stLst_app hf3]
      exact hf2
    · intro x hx
      obtain ⟨z, _, rfl⟩ := List.mem_map.mp hx
      refine eq_of_wp ?_
      by_cases c : z = v
      · subst c
        walk_at "e "
        (try simp [rlF])
      · walk_at "e c"
        (try simp [rlF, c])
theorem grown_ok {n : Int} {ts : List Tie} {lo : Nat} {os : List Nat} {st : Stt} (w : NetOk n ts) (ho : stLst st lo = some (rowD os)) (hb : ∀ i ∈ os, i < ts.length) (hl : os.length ≤ 900) : ∃ s, F_grown [webD n ts, .loc lo] st = .ok (.tup (rowD (grownF n.toNat ts os))) s ∧ Kp [] st s := by
  have h := ex_of_wp (m := F_grown [webD n ts, .loc lo] st) (P := fun d s => d = .tup (rowD (grownF n.toNat ts os)) ∧ Kp [] st s) ?_
  · obtain ⟨_, s, e, rfl, h⟩ := h
    exact ⟨s, e, h⟩
  have n0 := w.lo
  have n8 := w.hi
  have lol := stLst_lt ho
  unfold webD
  unfold grownF
  unfold F_grown; refine evF_i rfl ?_
  walk_at "nx "
  refine ⟨rg_0n (by omega) (by omega), ?_⟩
  refine hK _ _ ?_
  walk_at "nx "
  have m0 : stLst (st ++ [Ob.lst (rngI 0 n.toNat)] ++ [Ob.lst []]) st.length = some ((mk0 n.toNat).map D.int) := by rw [stLst_app (by simp), stLst_last, mk0_D]
  have f0 : stLst (st ++ [Ob.lst (rngI 0 n.toNat)] ++ [Ob.lst []]) (st ++ [Ob.lst (rngI 0 n.toNat)]).length = some (rowD []) := stLst_last
  have nn : (st ++ [Ob.lst (rngI 0 n.toNat)]).length ≠ st.length := by simp
  have K0 : Kp [(st ++ [Ob.lst (rngI 0 n.toNat)]).length] st (st ++ [Ob.lst (rngI 0 n.toNat)] ++ [Ob.lst []]) := Kp.app.trans Kp.app
  have nf : st.length ≤ (st ++ [Ob.lst (rngI 0 n.toNat)]).length := by simp
  have nm : st.length ≤ st.length := Nat.le_refl _
  have nl : (mk0 n.toNat).length = n.toNat := mk0_len
  generalize (st ++ [Ob.lst (rngI 0 n.toNat)]).length = lf at *
  generalize st ++ [Ob.lst (rngI 0 n.toNat)] ++ [Ob.lst []] = s0 at *
  generalize hlm : st.length = lm at m0 nn nm ⊢
  generalize hG : mk0 n.toNat = M at *
  have ho0 : stLst s0 lo = some (rowD os) := K0.lst (by simp; omega) ho
  walk_at "nx ho0"
  refine for_L (fun i e s => (∃ lm x4 x5 x6, st.length ≤ lm ∧ lf ≠ lm ∧ e = [some (.tup [.int n, .tup (ts.map tieD)]), some (.loc lo), some (.loc lm), some (.loc lf), x4, x5, x6, none, none] ∧ stLst s lm = some ((growL ts (M, []) (os.take i)).1.map D.int)) ∧ stLst s lf = some (rowD (growL ts (M, []) (os.take i)).2) ∧ Kp [lf] st s) ⟨⟨lm, _, _, _, by omega, nn, rfl, m0⟩, f0, K0⟩ ?_ ?_ ?_
  · rintro i e s ⟨_, _, K⟩
    exact K.lst (by simp; omega) ho
  · rintro i x e s hx ⟨⟨lm, x4, x5, x6, lm0, ne, rfl, hm⟩, hf, K⟩
    have hi : i < os.length := by
      have := (List.getElem?_eq_some_iff.mp hx).1
      simpa [rowD] using this
    have hx2 : x = .int (os[i] : Nat) := by
      unfold rowD at hx
      rw [List.getElem?_map, List.getElem?_eq_getElem hi] at hx
      cases hx; rfl
    subst hx2
    have ht := List.getElem?_eq_getElem (hb _ (List.getElem_mem hi))
    generalize ts[os[i]]'(hb _ (List.getElem_mem hi)) = t at ht
    have gt := growL_take (ts := ts) (s := (M, [])) (List.getElem?_eq_getElem hi)
    rw [gt]
    have gl := growL_len (ts := ts) (os := os.take i) (s := (M, []))
    have gf := growL_fl (ts := ts) (os := os.take i) (s := (M, []))
    rw [List.length_take] at gf
    simp only [List.length_nil] at gf
    generalize growL ts (M, []) (os.take i) = S at *
    obtain ⟨m, F⟩ := S
    refine ⟨_, rfl, ?_⟩
    simp only [List.set_cons_succ, List.set_cons_zero]
    have gl : m.length = M.length := gl
    have gf : F.length ≤ 0 + min i os.length := gf
    have q1 : (m.length : Int) = n := by rw [gl, nl]; omega
    have q2 : F.length ≤ 1000 := by omega
    refine grown_step rfl (w.ok t (List.mem_of_getElem? ht)) ht hm hf q1 n8 q2 ne fun lm' x5 x6 s' h1 h2 h3 h4 h5 => ?_
    exact ⟨⟨lm', _, _, _, by have := K.1; omega, h1, rfl, h3⟩, h4, K.trans h5⟩
  · rintro e s ⟨⟨lm, x4, x5, x6, lm0, ne, rfl, hm⟩, hf, K⟩
    have ol : (rowD os).length = os.length := List.length_map _
    rw [ol, List.take_length] at hf
    refine hK _ _ ?_
    have bs := bi_sortL hf
    walk_at "nx bs"
    exact K.mono fun l hl => .inr (by rw [List.mem_singleton] at hl; subst hl; exact nf)
end K74
namespace K74
open PySem Ev
theorem cheapest_ok {n : Int} {ts : List Tie} {l : Nat} {ws : List Int} {st : Stt} (w : NetOk n ts) (hl : stLst st l = some (ws.map D.int)) (len : ws.length = ts.length) : ∃ s, F_cheapest [webD n ts, .loc l] st = .ok (.tup (rowD (leastN n.toNat ts ws))) s ∧ Kp [] st s := by
  have main := ex_of_wp (m := F_cheapest [webD n ts, .loc l] st) (P := fun x s => x = .tup (rowD (leastN n.toNat ts ws)) ∧ Kp [] st s) ?_
  · obtain ⟨_, s, e, rfl, h⟩ := main
    exact ⟨s, e, h⟩
  have tl := w.len
  have l0 : stLst (st ++ [Ob.lst (rowD (srtN ws))]) st.length = some (rowD (srtN ws)) := stLst_last
  obtain ⟨s2, e2, K2⟩ := grown_ok w l0 (fun i hi => by rw [← len]; exact srtN_mem.mp hi) (by rw [srtN_len]; omega)
  have hw : (ws.map D.int).length = ws.length := List.length_map _
  have hc : capsOf0 [some (webD n ts), some (D.loc l)] [1] = some [D.loc l] := rfl
  have hs : srtI true (.d (.int ((ws.length : Nat) : Int))) st = some (rngI 0 ws.length) := by
    unfold srtI
    rw [if_pos rfl]
    simp only
    rw [if_pos (rg_0n (by omega) (by omega)), Int.toNat_natCast]
  have sr := srt_row (ks := ws) (k := ws.length) rfl
  have fin : leastN n.toNat ts ws = grownF n.toNat ts (srtN ws) := rfl
  rw [fin]
  generalize webD n ts = W at *
  unfold F_cheapest; refine evF_i rfl ?_
  refine ws_next ?_
  intro KK hK
  walk_at "ep c15_grown ev_srtk hl hw hc hs"
  rw [keys_map (f := getF ws)]
  rotate_left
  · intro x hx
    obtain ⟨i, hi, rfl⟩ := rng_mem hx
    have a1 := at_mark (m := ws) (i := ((i : Nat) : Int)) (by omega) (by omega)
    refine key_int ?_
    refine eq_of_wp ?_
    walk_at "e c15_grown hl a1"
    rfl
  rw [rng_getF]
  walk_at "ep c15_grown sr e2"
  exact Kp.app.trans K2
end K74
namespace K74
open PySem Ev
theorem weight_ok {a b p q : Int} (h1 : mulB a q) (h2 : mulB b p) (st : Stt) : F_weight [.tup [.int a, .int b], .tup [.int p, .int q]] st = .ok (.int (a * q + b * p)) st := by
  refine eq_of_wp ?_
  unfold F_weight; refine evF_i rfl ?_
  walk_at "nx h1 h2"
end K74
namespace K74
open PySem Ev
theorem worths_at_ok {n : Int} {ts : List Tie} {p : Fr} {st : Stt} (w : NetOk n ts) (hp : p.1.natAbs < 2 ^ 150 ∧ p.2.natAbs < 2 ^ 150) : ∃ l s, F_worths_at [webD n ts, frD p] st = .ok (.loc l) s ∧ st.length ≤ l ∧ stLst s l = some ((wtsN ts p).map D.int) ∧ Kp [] st s := by
  have h := ex_of_wp (m := F_worths_at [webD n ts, frD p] st) (P := fun d s => ∃ l, d = .loc l ∧ st.length ≤ l ∧ stLst s l = some ((wtsN ts p).map D.int) ∧ Kp [] st s) ?_
  · obtain ⟨_, s, e, l, rfl, h1, h2, h3⟩ := h
    exact ⟨l, s, e, h1, h2, h3⟩
  have tl := w.len
  have hL : (ts.map tieD).length = ts.length := List.length_map _
  have pw : 1000000 < 2 ^ 150 := by decide
  have hm : ∀ t ∈ ts, mulB t.2.2.1 p.2 ∧ mulB t.2.2.2 p.1 := fun t ht => by
    obtain ⟨_, _, _, b1, b2, b3, b4⟩ := w.ok t ht
    exact ⟨mulB_of (a := 150) (b := 150) (by omega) (by omega) (by decide), mulB_of (a := 150) (b := 150) (by omega) (by omega) (by decide)⟩
  have mp : (ts.map tieD).map (fun d => match d with | .tup [_, _, .int a, .int b] => D.int (wt (a, b) p) | _ => .non) = (wtsN ts p).map D.int := by
    unfold wtsN
    rw [List.map_map, List.map_map]
    rfl
  unfold webD frD
  unfold F_worths_at; refine evF_i rfl ?_
  walk_at "nx c17_weight "
  rw [lc_mp (f := fun d => match d with | .tup [_, _, .int a, .int b] => D.int (wt (a, b) p) | _ => .non)]
  · rw [mp]
    walk_at "ep c17_weight "
    rw [if_pos (by omega)]
    walk_at "e c17_weight "
    exact ⟨Nat.le_refl _, Kp.app⟩
  · intro d hd
    obtain ⟨t, ht, rfl⟩ := List.mem_map.mp hd
    obtain ⟨m1, m2⟩ := hm t ht
    have e1 := weight_ok m1 m2 st
    have e0 : tieD t = .tup [.int t.1, .int t.2.1, .int t.2.2.1, .int t.2.2.2] := rfl
    refine eq_of_wp ?_
    walk_at "e c17_weight e0 cut_tie e1"
    rfl
end K74
namespace K74
open PySem Ev
theorem least_forest_ok {n : Int} {ts : List Tie} {p : Fr} {st : Stt} (w : NetOk n ts) (hp : OkP p) : ∃ s, F_least_forest [webD n ts, frD p] st = .ok (.tup (rowD (leastN n.toNat ts (wtsN ts p)))) s ∧ Kp [] st s := by
  obtain ⟨p1, p2, p3, p4⟩ := hp
  have e1 := need_net_ok (st := st) w
  have e2 := need_price_ok (st := st) p1 p2
  obtain ⟨l, s3, e3, _, h3, K3⟩ := worths_at_ok (st := st) w ⟨p3, p4⟩
  obtain ⟨s4, e4, K4⟩ := cheapest_ok w h3 wtsN_len
  refine ⟨s4, ?_, K3.trans K4⟩
  refine eq_of_wp ?_
  have ef : frD p = .tup [.int p.1, .int p.2] := rfl
  rw [← ef] at e2
  generalize webD n ts = W at *
  generalize leastN n.toNat ts (wtsN ts p) = B at *
  generalize frD p = PD at *
  unfold F_least_forest; refine evF_i rfl ?_
  walk_at "nxp c18_need_net c18_need_price c18_cheapest c18_worths_at e1"
  walk_at "nxp c18_need_net c18_need_price c18_cheapest c18_worths_at e2"
  walk_at "nxp c18_need_net c18_need_price c18_cheapest c18_worths_at e3 e4"
  try exact ⟨rfl, rfl⟩
end K74
namespace K74
open PySem Ev
theorem lowest_ok {p q : Int} (hq : q ≠ 0) (hb : q.natAbs < 2 ^ 250) (st : Stt) : F_lowest [.int p, .int q] st = .ok (.tup [.int (p.fdiv (fq p q)), .int (q.fdiv (fq p q))]) st := by
  have hd := divisor_ok p q st
  obtain ⟨h0, _, _, _, _, _, h2⟩ := frac_facts (p := p) hq
  have dv : divB (fq p q) := divB_of (b := 250) h0 (by omega) (by decide)
  refine eq_of_wp ?_
  unfold F_lowest
  rw [wp_evF (by rfl : [D.int p, D.int q].length = 2)]
  unfold b_lowest r_lowest_1 r_lowest_2
  unfold fq at dv ⊢
  by_cases z : q < 0
  · rw [if_pos z] at dv ⊢
    walk_at "ev c19_divisor_of *"
  · rw [if_neg z] at dv ⊢
    walk_at "ev c19_divisor_of *"
end K74
namespace K74
open PySem Ev
theorem fraction_of_ok {p q : Int} (hq : q ≠ 0) (hb : q.natAbs < 2 ^ 200) (st : Stt) : F_fraction_of [.int p, .int q] st = .ok (lowF p q) st := by
  have hl := lowest_ok (p := p) hq (by omega) st
  refine eq_of_wp ?_
  unfold F_fraction_of; refine evF_i rfl ?_
  walk_at "nx c20_lowest hq"
  walk_at "nx c20_lowest hl"
  rfl
end K74
namespace K74
open PySem Ev
theorem share_of_ok {L : Fr} (h : 0 < L.2) (hb : L.2.natAbs < 2 ^ 200) (st : Stt) : F_share_of [frD L] st = .ok (frD (shP L)) st := by
  have f := fraction_of_ok (p := L.1) (q := L.2) (by omega) hb st
  rw [lowF_eq] at f
  have e : frD L = .tup [.int L.1, .int L.2] := rfl
  unfold shP
  generalize frD (lowP L.1 L.2) = R at *
  refine eq_of_wp ?_
  unfold F_share_of; refine evF_i rfl ?_
  walk_at "nx c21_fraction_of e f"
  try first | exact ⟨rfl, rfl⟩ | rfl
end K74
namespace K74
open PySem Ev
theorem is_tie_of_ok {p : List Nat} {m : Nat} {st : Stt} {d : D} {n : Int} {ts : List Tie} (h : Okd p m st d) : F_is_tie_of [webD n ts, d] st = .ok (.bl (isNum d ts.length)) st := by
  have h1 := is_whole_ok h
  have hl : (ts.map tieD).length = ts.length := List.length_map _
  unfold webD
  refine eq_of_wp ?_
  unfold F_is_tie_of; refine evF_i rfl ?_
  cases q : isWhole d with
  | false =>
    walk_at "nx c22_is_whole h1 q"
    cases d <;> first | (simp [isWhole] at q; done) | rfl
  | true =>
    obtain ⟨i, rfl⟩ := isWhole_of q
    walk_at "nx c22_is_whole h1 q"
    by_cases z : 0 ≤ i
    · walk_at "e c22_is_whole z hl"
      simp [isNum, z]
    · walk_at "e c22_is_whole z hl"
      simp [isNum, z]
end K74
namespace K74
open PySem Ev
theorem are_ties_of_ok {T : List Nat} {m : Nat} {st : Stt} {d : D} {n : Int} {ts : List Tie} (hd : Okd T m st d) (hm : m ≤ 900) : F_are_ties_of [webD n ts, d] st = .ok (.bl (isRowD ts.length d && match d with | .tup xs => riseB (natsOf xs) | _ => false)) st := by
  have i1 := fun G => hd.isi_tuple (G := G)
  refine eq_of_wp ?_
  cases q : isTpD d with
  | false =>
    have hB : isRowD ts.length d = false := by cases d <;> first | rfl | (simp [isTpD] at q; done)
    rw [hB]
    unfold F_are_ties_of; refine evF_i rfl ?_
    walk_at "nx c23_is_tie_of i1 q"
    walk_at "nx c23_is_tie_of "
    first | rfl | exact ⟨rfl, rfl⟩
  | true =>
    obtain ⟨xs, rfl⟩ := isTpD_of q
    obtain ⟨x1, x2⟩ := hd.tup_in
    have hA : isRowD ts.length (.tup xs) = (xs.all fun x => isNum x ts.length) := rfl
    show Wp _ _ _
    have it := fun x hx => is_tie_of_ok (n := n) (ts := ts) (x2 x hx)
    generalize webD n ts = W at *
    unfold F_are_ties_of; refine evF_i rfl ?_
    refine ws_next ?_
    intro KK hK
    walk_at "e c23_is_tie_of i1 q"
    rw [lc_mp (f := fun x => .bl (isNum x ts.length))]
    · walk_at "ep c23_is_tie_of "
      rw [if_pos (by omega)]
      walk_at "e c23_is_tie_of bools_map"
      have ai : (xs.map fun x => isNum x ts.length).all id = isRowD ts.length (.tup xs) := by rw [List.all_map]; rfl
      rw [ai]
      cases z : isRowD ts.length (.tup xs) with
      | false =>
        walk_at "e c23_is_tie_of "
        walk_at "nx c23_is_tie_of "
        first | rfl | exact ⟨rfl, rfl⟩
      | true =>
        obtain ⟨r, e, hr⟩ := isRowD_of z
        cases e
        walk_at "e c23_is_tie_of "
        (try refine hK _ _ ?_)
        have hc : cutD (rowD r) (some 1) none = (rowD r).drop 1 := by
          exact cut_dr1
        have rl : (rowD r).length = r.length := List.length_map _
        have zl : (List.zipWith (fun u w => D.tup [u, w]) (rowD r) ((rowD r).drop 1)).length ≤ 1000000 := by simp only [List.length_zipWith]; omega
        walk_at "nx c23_is_tie_of hc"
        rw [lc_mp (f := fun d => .bl (risF d))]
        · walk_at "ep c23_is_tie_of "
          rw [if_pos zl]
          walk_at "e c23_is_tie_of bools_map"
          rw [zip_rise, all_rise, z, Bool.true_and, natsOf_row]
          (try first | rfl | exact ⟨rfl, rfl⟩)
        · intro x hx
          obtain ⟨i, hi, rfl⟩ := List.mem_iff_getElem.mp hx
          simp only [List.getElem_zipWith, List.getElem_drop, rowD, List.getElem_map]
          refine eq_of_wp ?_
          walk_at "e c23_is_tie_of "
          rfl
    · intro x hx
      have := it x hx
      refine eq_of_wp ?_
      walk_at "e c23_is_tie_of this"
end K74
namespace K74
open PySem Ev
theorem is_forest_of_ok {T : List Nat} {m : Nat} {st : Stt} {d : D} {n : Int} {ts : List Tie} (w : NetOk n ts) (hd : Okd T m st d) (hm : m ≤ 800) : ∃ s, F_is_forest_of [webD n ts, d] st = .ok (.bl (isForD n.toNat ts d)) s ∧ Kp [] st s := by
  have main := ex_of_wp (m := F_is_forest_of [webD n ts, d] st) (P := fun x s => x = .bl (isForD n.toNat ts d) ∧ Kp [] st s) ?_
  · obtain ⟨_, s, e, rfl, h⟩ := main
    exact ⟨s, e, h⟩
  have h1 := are_ties_of_ok (n := n) (ts := ts) hd (by omega)
  have tl := w.len
  cases q : isRowD ts.length d with
  | false =>
    rw [q, Bool.false_and] at h1
    rw [for_no q]
    generalize webD n ts = W at *
    unfold F_is_forest_of; refine evF_i rfl ?_
    walk_at "nx c24_are_ties_of c24_grown h1"
    exact Kp.refl
  | true =>
    obtain ⟨r, rfl, hr⟩ := isRowD_of q
    obtain ⟨x1, x2⟩ := hd.tup_in
    have rl : (rowD r).length = r.length := List.length_map _
    rw [q, Bool.true_and] at h1
    have h1 : F_are_ties_of [webD n ts, .tup (rowD r)] st = .ok (.bl (riseB (natsOf (rowD r)))) st := h1
    rw [natsOf_row] at h1
    rw [for_row hr]
    cases z : riseB r with
    | false =>
      rw [z] at h1
      have f : forB n.toNat ts r = false := by
        cases f : forB n.toNat ts r with
        | false => rfl
        | true => rw [for_rise w hr f] at z; cases z
      rw [f]
      generalize webD n ts = W at *
      unfold F_is_forest_of; refine evF_i rfl ?_
      walk_at "nx c24_are_ties_of c24_grown h1"
      exact Kp.refl
    | true =>
      rw [z] at h1
      have hL : (ts.map tieD).length = ts.length := List.length_map _
      have rg : rgOk 0 ((ts.length : Nat) : Int) = true := rg_0n (by omega) (by omega)
      have tn : (((ts.length : Nat) : Int)).toNat = ts.length := by omega
      have ra : rowD r ++ rngI 0 ts.length = rowD (r ++ List.range ts.length) := by rw [rngI_row]; unfold rowD; rw [List.map_append]
      have l0 : stLst (st ++ [Ob.lst (rowD (r ++ List.range ts.length))]) st.length = some (rowD (r ++ List.range ts.length)) := stLst_last
      obtain ⟨s, e2, K2⟩ := grown_ok w l0 (fun i hi => by
        rcases List.mem_append.mp hi with hi | hi
        · exact hr i hi
        · exact List.mem_range.mp hi) (by rw [List.length_append, List.length_range]; omega)
      have gl := grown_len (n := n.toNat) (ts := ts) (os := r ++ List.range ts.length)
      rw [List.length_append, List.length_range] at gl
      have eq := eq_row (st := s) (r := grownF n.toNat ts (r ++ List.range ts.length)) (q := r) (by omega) (by omega)
      have K3 : Kp [] st s := Kp.app.trans K2
      have ew : webD n ts = .tup [.int n, .tup (ts.map tieD)] := rfl
      unfold forB
      generalize grownF n.toNat ts (r ++ List.range ts.length) = G at *
      rw [ew] at h1 e2 ⊢
      unfold F_is_forest_of; refine evF_i rfl ?_
      refine ws_next ?_
      intro KK hK
      walk_at "e c24_are_ties_of c24_grown h1 hL"
      generalize ((ts.length : Nat) : Int) = TL at *
      walk_at "e c24_are_ties_of c24_grown rg tn ra e2 eq"
      exact ⟨by rw [rngI_len]; omega, K3⟩
end K74
namespace K74
open PySem Ev
theorem need_forest_ok {T : List Nat} {m : Nat} {st : Stt} {d : D} {n : Int} {ts : List Tie} (w : NetOk n ts) (hd : Okd T m st d) (hm : m ≤ 800) (q : isForD n.toNat ts d = true) : ∃ s, F_need_forest [webD n ts, d] st = .ok .non s ∧ Kp [] st s := by
  have e1 := need_net_ok (st := st) w
  obtain ⟨s, e2, K⟩ := is_forest_of_ok (st := st) w hd hm
  rw [q] at e2
  refine ⟨s, ?_, K⟩
  refine eq_of_wp ?_
  generalize webD n ts = W at *
  unfold F_need_forest; refine evF_i rfl ?_
  walk_at "nxp c25_need_net c25_is_forest_of e1"
  walk_at "nxp c25_need_net c25_is_forest_of e2"
  try exact ⟨rfl, rfl⟩
end K74
namespace Ev
open PySem
noncomputable def lineD (p : Int × Int) : D := .tup [.int p.1, .int p.2]
end Ev
namespace K74
open PySem Ev
theorem sum_of_loc {ls : List (Int × Int)} {l : Nat} {st : Stt} (hl : ls.length ≤ 1000000) (h : stLst st l = some (ls.map lineD)) : F_sum_of [.loc l] st = .ok (.tup [.int (ls.map (·.1)).sum, .int (ls.map (·.2)).sum]) st := by
  have hl2 : (ls.map lineD).length ≤ 1000000 := by rw [List.length_map]; omega
  have lv := live_of h
  have go : ∀ (f : Int × Int → Int) (step : D → Stt → Rs (Option D)), (∀ p ∈ ls, step (lineD p) st = .ok (some (.int (f p))) st) → lcGo [(l, ls.map lineD)] step (ls.map lineD) st = .ok (ls.map fun p => D.int (f p)) st := by
    intro f step hs
    have e : ls.map (fun p => D.int (f p)) = (ls.map lineD).map (fun d => match d with | .tup [.int a, .int b] => D.int (f (a, b)) | _ => .non) := by
      rw [List.map_map]; rfl
    rw [e]
    refine lc_mapL lv fun x hx => ?_
    obtain ⟨p, hp, rfl⟩ := List.mem_map.mp hx
    exact hs p hp
  refine eq_of_wp ?_
  unfold F_sum_of; refine evF_i rfl ?_
  walk_at "nx h"
  rw [go (fun p => p.1)]
  · walk_at "e "
    rw [if_pos hl2]
    walk_at "e ints_map h"
    rw [go (fun p => p.2)]
    · walk_at "e "
      rw [if_pos hl2]
      walk_at "e ints_map"
    · intro p hp
      refine eq_of_wp ?_
      unfold lineD
      walk_at "e "
  · intro p hp
    refine eq_of_wp ?_
    unfold lineD
    walk_at "e "
end K74
namespace K74
open PySem Ev
theorem line_of_forest_ok {n : Int} {ts : List Tie} {r : List Nat} (hr : ∀ i ∈ r, i < ts.length) (hl : r.length ≤ 1000) (st : Stt) : ∃ s, F_line_of_forest [webD n ts, .tup (rowD r)] st = .ok (frD (lineW ts r)) s ∧ Kp [] st s := by
  have h := ex_of_wp (m := F_line_of_forest [webD n ts, .tup (rowD r)] st) (P := fun d s => d = frD (lineW ts r) ∧ Kp [] st s) ?_
  · obtain ⟨_, s, e, rfl, h⟩ := h
    exact ⟨s, e, h⟩
  have hlen : (rowD r).length = r.length := List.length_map _
  have rz : (rowD r).length ≤ 1000000 := by rw [hlen]; omega
  have e1 : (rowD r).map (fun d => match d with | .int i => lineD (lnOf ts i.toNat) | _ => .non) = (r.map (lnOf ts)).map lineD := by
    unfold rowD
    rw [List.map_map, List.map_map]
    rfl
  have e2 : frD (lineW ts r) = .tup [.int ((r.map (lnOf ts)).map (·.1)).sum, .int ((r.map (lnOf ts)).map (·.2)).sum] := by
    rw [List.map_map, List.map_map]
    rfl
  rw [e2]
  have ll : (r.map (lnOf ts)).length ≤ 1000000 := by rw [List.length_map]; omega
  have fs := fun s => sum_of_loc (l := st.length) (st := s) ll
  generalize hL : r.map (lnOf ts) = L at *
  unfold webD
  unfold F_line_of_forest; refine evF_i rfl ?_
  walk_at "nx c27_sum_of "
  rw [lc_mp (f := fun d => match d with | .int i => lineD (lnOf ts i.toNat) | _ => .non)]
  · rw [e1]
    have q0 : stLst (st ++ [Ob.lst (L.map lineD)]) st.length = some (L.map lineD) := stLst_last
    have f := fs _ q0
    walk_at "ep c27_sum_of "
    rw [if_pos rz]
    walk_at "e c27_sum_of f"
    exact Kp.app
  · intro d hd
    unfold rowD at hd
    obtain ⟨j, hj, rfl⟩ := List.mem_map.mp hd
    have ht := List.getElem?_eq_getElem (hr j hj)
    generalize ts[j]'(hr j hj) = t at ht
    have a1 := at_ties ht
    have e2 : (((j : Nat) : Int)).toNat = j := by omega
    have e3 : tieD t = .tup [.int t.1, .int t.2.1, .int t.2.2.1, .int t.2.2.2] := rfl
    have e4 : lineD (t.2.2.1, t.2.2.2) = .tup [.int t.2.2.1, .int t.2.2.2] := rfl
    refine eq_of_wp ?_
    have e5 := lnOf_some ht
    walk_at "e c27_sum_of a1 e2 e3 e4 e5 cut_tie"
end K74
namespace K74
open PySem Ev
theorem forest_line_ok {n : Int} {ts : List Tie} {r : List Nat} {st : Stt} (w : NetOk n ts) (hr : ∀ i ∈ r, i < ts.length) (hl : r.length ≤ 800) (q : forB n.toNat ts r = true) : ∃ s, F_forest_line [webD n ts, .tup (rowD r)] st = .ok (frD (lineW ts r)) s ∧ Kp [] st s := by
  have ok : Okd [] 800 st (.tup (rowD r)) := .tup (by unfold rowD; rw [List.length_map]; exact hl) fun x hx => by
    obtain ⟨i, _, rfl⟩ := List.mem_map.mp hx
    exact .int _
  obtain ⟨s1, e1, K1⟩ := need_forest_ok (st := st) w ok (by decide) (by rw [for_row hr]; exact q)
  obtain ⟨s2, e2, K2⟩ := line_of_forest_ok (n := n) hr (by omega) s1
  refine ⟨s2, ?_, K1.trans K2⟩
  refine eq_of_wp ?_
  generalize webD n ts = W at *
  generalize frD (lineW ts r) = B at *
  unfold F_forest_line; refine evF_i rfl ?_
  walk_at "nxp c28_need_forest c28_line_of_forest e1"
  walk_at "nxp c28_need_forest c28_line_of_forest e2"
  try exact ⟨rfl, rfl⟩
end K74
namespace K74
open PySem Ev
theorem price_of_ok (s : Fr) (st : Stt) : F_price_of [frD s] st = .ok (frD (prS s)) st := by
  have e : frD s = .tup [.int s.1, .int s.2] := rfl
  refine eq_of_wp ?_
  unfold F_price_of; refine evF_i rfl ?_
  walk_at "nx e"
  first | exact ⟨rfl, rfl⟩ | rfl
end K74
namespace K74
open PySem Ev
theorem worth_ok {a b p q : Int} (hq : 0 < q) (hg : Int.gcd p q = 1) (h1 : mulB a q) (h2 : mulB b p) (st : Stt) : F_worth [.tup [.int a, .int b], .tup [.int p, .int q]] st = .ok (.int (a * q + b * p)) st := by
  have n1 := need_price_ok (st := st) hq hg
  have n2 := weight_ok h1 h2
  refine eq_of_wp ?_
  unfold F_worth; refine evF_i rfl ?_
  walk_at "nx c30_need_price c30_weight n1"
  walk_at "nx c30_need_price c30_weight n2"
end K74
namespace K74
open PySem Ev
theorem least_forest_share_none {n : Int} {st : Stt} (w : NetOk n []) : ∃ s, F_least_forest_share [webD n []] st = .ok .non s ∧ Kp [] st s := by
  have main := ex_of_wp (m := F_least_forest_share [webD n []] st) (P := fun x s => x = .non ∧ Kp [] st s) ?_
  · obtain ⟨_, s, e, rfl, h⟩ := main
    exact ⟨s, e, h⟩
  have f1 := need_net_ok (st := st) w
  have f2 := tie_lines_ok (ts := []) (by decide) st
  have f3 := need_shares_ok (ts := []) (l := st.length) (st := st ++ [.lst []]) stLst_last (by decide) (by intro t ht; cases ht)
  have ixW : ∀ s, ixA (.d (webD n [])) (.d (.int 1)) s = some (.d (.tup [])) := fun s => rfl
  have e0 : ∀ s, eqB s (.d (.tup [])) (.d (.tup [])) = some true := fun s => rfl
  simp only [List.map_nil] at f2
  generalize webD n [] = W at *
  unfold F_least_forest_share; refine evF_i rfl ?_
  walk_at "nxp c31_need_net c31_need_shares c31_tie_lines c31_least_forest c31_share_of c31_forest_line c31_price_of c31_worth f1"
  walk_at "nxp c31_need_net c31_need_shares c31_tie_lines c31_least_forest c31_share_of c31_forest_line c31_price_of c31_worth ixW f2 f3"
  walk_at "nxp c31_need_net c31_need_shares c31_tie_lines c31_least_forest c31_share_of c31_forest_line c31_price_of c31_worth ixW e0"
  walk_at "nxp c31_need_net c31_need_shares c31_tie_lines c31_least_forest c31_share_of c31_forest_line c31_price_of c31_worth "
  exact Kp.app
theorem least_forest_share_ok {n : Int} {ts : List Tie} (w : NetOk n ts) (sv : Sv ts) (ne : ts ≠ []) (st : Stt) : ∃ d s, F_least_forest_share [webD n ts] st = .ok d s ∧ Kp [] st s ∧ FShTold n.toNat ts d := by
  refine ex_of_wp (P := fun d s => Kp [] st s ∧ FShTold n.toNat ts d) ?_
  have tl := w.len
  have ok := net_ts w
  have f1 := need_net_ok (st := st) w
  have f2 := tie_lines_ok (ts := ts) (by omega) st
  have f3 := need_shares_ok (ts := ts) (l := st.length) (st := st ++ [.lst (ts.map lnT)]) stLst_last (by omega) sv
  have K1 : Kp [] st (st ++ [.lst (ts.map lnT)]) := Kp.app
  have ixW : ∀ s, ixA (.d (webD n ts)) (.d (.int 1)) s = some (.d (.tup (ts.map tieD))) := fun s => rfl
  have e0 : ∀ s, eqB s (.d (.tup (ts.map tieD))) (.d (.tup [])) = some false := fun s => by
    cases ts with
    | nil => exact absurd rfl ne
    | cons t r => rfl
  have lf : ∀ p s, OkP p → ∃ s', F_least_forest [webD n ts, frD p] s = .ok (.tup (rowD (leastN n.toNat ts (wtsN ts p)))) s' ∧ Kp [] s s' := fun p s hp => least_forest_ok w hp
  have good : ∀ p, Frst n.toNat ts (leastN n.toNat ts (wtsN ts p)) ∧ Opt ts (wAt ts p) (leastN n.toNat ts (wtsN ts p)) ∧ (∀ i ∈ leastN n.toNat ts (wtsN ts p), i < ts.length) ∧ forB n.toNat ts (leastN n.toNat ts (wtsN ts p)) = true := fun p => by
    obtain ⟨g1, g2⟩ := least_opt (n := n.toNat) (ws := wtsN ts p) ok wtsN_len
    have mem : ∀ i, i ∈ srtN (wtsN ts p) ↔ i < ts.length := fun i => by rw [srtN_mem, wtsN_len]
    exact ⟨g1, g2, g1.tr.2.1, decide_eq_true (grown_forest ok mem)⟩
  have step : ∀ (r : List Nat) s, (∀ i ∈ r, i < ts.length) → forB n.toNat ts r = true → Frst n.toNat ts r → ∃ s' q s'' s3, F_forest_line [webD n ts, .tup (rowD r)] s = .ok (frD (lineW ts r)) s' ∧ F_share_of [frD (lineW ts r)] s' = .ok (frD (shP (lineW ts r))) s' ∧ F_price_of [frD (shP (lineW ts r))] s' = .ok (frD (prS (shP (lineW ts r)))) s' ∧ F_least_forest [webD n ts, frD (prS (shP (lineW ts r)))] s' = .ok (.tup (rowD q)) s'' ∧ F_forest_line [webD n ts, .tup (rowD q)] s'' = .ok (frD (lineW ts q)) s3 ∧ F_price_of [frD (shP (lineW ts r))] s3 = .ok (frD (prS (shP (lineW ts r)))) s3 ∧ F_worth [frD (lineW ts q), frD (prS (shP (lineW ts r)))] s3 = .ok (.int (wt (lineW ts q) (prS (shP (lineW ts r))))) s3 ∧ Kp [] s s3 ∧ (∀ i ∈ q, i < ts.length) ∧ forB n.toNat ts q = true ∧ Frst n.toNat ts q ∧ (wt (lineW ts q) (prS (shP (lineW ts r))) = 0 → FShTold n.toNat ts (.tup [frD (shP (lineW ts r)), .tup (rowD q)])) ∧ (wt (lineW ts q) (prS (shP (lineW ts r))) ≠ 0 → muU (prS (shP (lineW ts q))) < muU (prS (shP (lineW ts r)))) := by
    intro r s hr fb f
    have n8 := w.hi
    have rl := frst_len f
    obtain ⟨L0, okp, z0, _⟩ := fshare_step (p := (0, 1)) w sv f ne
    obtain ⟨f1, f2, f3, f4, f5⟩ := pr_facts L0
    obtain ⟨s', e1, K1⟩ := forest_line_ok (st := s) w hr (by omega) fb
    have b2 : (lineW ts r).2.natAbs ≤ 8000000 := by
      have := (netline w (r := r)).2
      omega
    have pw : 8000000 < 2 ^ 200 := by decide
    have e2 := share_of_ok (L := lineW ts r) L0 (by omega) s'
    have e3 := price_of_ok (shP (lineW ts r)) s'
    obtain ⟨s'', e4, K4⟩ := lf _ s' okp
    obtain ⟨g1, g2, g3, g4⟩ := good (prS (shP (lineW ts r)))
    have ql := frst_len g1
    obtain ⟨Q0, okq, _, mu⟩ := fshare_step (p := prS (shP (lineW ts r))) w sv g1 ne
    obtain ⟨s3, e5, K5⟩ := forest_line_ok (st := s'') w g3 (by omega) g4
    have e6 := price_of_ok (shP (lineW ts r)) s3
    have qb := netline w (r := leastN n.toNat ts (wtsN ts (prS (shP (lineW ts r)))))
    have pw2 : 8000000 < 2 ^ 150 := by decide
    have e7 := worth_ok (a := (lineW ts (leastN n.toNat ts (wtsN ts (prS (shP (lineW ts r)))))).1) (b := (lineW ts (leastN n.toNat ts (wtsN ts (prS (shP (lineW ts r)))))).2) okp.1 okp.2.1 (mulB_of (a := 150) (b := 150) (by omega) okp.2.2.2 (by decide)) (mulB_of (a := 150) (b := 150) (by omega) okp.2.2.1 (by decide)) s3
    have le := (least_iff ok f g1 g2).1
    rw [wAt_line hr, wAt_line g3, z0] at le
    refine ⟨s', _, s'', s3, e1, e2, e3, e4, e5, e6, e7, K1.trans (K4.trans K5), g3, g4, g1, fun z => ?_, fun z => mu okp.1 (by omega)⟩
    have es := shP_of L0 Q0 z
    refine ⟨_, by rw [es], g3, g4, ?_⟩
    rw [es]
    exact g2
  obtain ⟨s1, e1, K2⟩ := lf (0, 1) (st ++ [.lst (ts.map lnT)]) ⟨by decide, by decide, by decide, by decide⟩
  obtain ⟨g1, g2, g3, g4⟩ := good (0, 1)
  have pe : frD (0, 1) = .tup [.int 0, .int 1] := rfl
  rw [pe] at e1
  clear lf good ok tl sv
  generalize leastN n.toNat ts (wtsN ts (0, 1)) = r0 at *
  generalize webD n ts = W at *
  generalize ts.map tieD = TD at *
  generalize st ++ [.lst (ts.map lnT)] = s0 at *
  unfold F_least_forest_share; refine evF_i rfl ?_
  walk_at "nxp c31_need_net c31_need_shares c31_tie_lines c31_least_forest c31_share_of c31_forest_line c31_price_of c31_worth f1"
  walk_at "nxp c31_need_net c31_need_shares c31_tie_lines c31_least_forest c31_share_of c31_forest_line c31_price_of c31_worth ixW f2 f3"
  walk_at "nxp c31_need_net c31_need_shares c31_tie_lines c31_least_forest c31_share_of c31_forest_line c31_price_of c31_worth ixW e0"
  walk_at "nxp c31_need_net c31_need_shares c31_tie_lines c31_least_forest c31_share_of c31_forest_line c31_price_of c31_worth e1"
  refine ws_next ?_
  intro KK hK
  refine ws_whl (fun mm e s => ∃ r x2 x3, e = [some W, some (.tup (rowD r)), x2, x3] ∧ Kp [] st s ∧ (∀ i ∈ r, i < ts.length) ∧ forB n.toNat ts r = true ∧ Frst n.toNat ts r ∧ mm = muU (prS (shP (lineW ts r)))) _ ⟨r0, _, _, rfl, K1.trans K2, g3, g4, g1, rfl⟩ ?_
  rintro mm e s ⟨r, x2, x3, rfl, K, hr, fb, f, rfl⟩
  obtain ⟨s', q, s'', s3, c1, c2, c3, c4, c5, c6, c7, K3, hq, qb, fq, t1, t2⟩ := step r s hr fb f
  simp only [wp_tst, ev_c, wp_ok, tr_bl, if_true]
  have fin : wt (lineW ts q) (prS (shP (lineW ts r))) ≠ 0 → ∀ x2 x3, ∃ m', m' < muU (prS (shP (lineW ts r))) ∧ ∃ r x2' x3', [some W, some (.tup (rowD q)), x2, x3] = [some W, some (.tup (rowD r)), x2', x3'] ∧ Kp [] st s3 ∧ (∀ i ∈ r, i < ts.length) ∧ forB n.toNat ts r = true ∧ Frst n.toNat ts r ∧ m' = muU (prS (shP (lineW ts r))) := fun z x2 x3 => ⟨_, t2 z, q, _, _, rfl, K.trans K3, hq, qb, fq, rfl⟩
  generalize wt (lineW ts q) (prS (shP (lineW ts r))) = ww at *
  generalize muU (prS (shP (lineW ts r))) = MU at *
  generalize frD (prS (shP (lineW ts r))) = PD at *
  generalize frD (shP (lineW ts r)) = SD at *
  generalize frD (lineW ts q) = QD at *
  generalize frD (lineW ts r) = LD at *
  by_cases z : ww = 0
  · subst z
    have t1 := t1 rfl
    walk_at "nxp c31_need_net c31_need_shares c31_tie_lines c31_least_forest c31_share_of c31_forest_line c31_price_of c31_worth c1 c2"
    walk_at "nxp c31_need_net c31_need_shares c31_tie_lines c31_least_forest c31_share_of c31_forest_line c31_price_of c31_worth c3 c4"
    walk_at "nxp c31_need_net c31_need_shares c31_tie_lines c31_least_forest c31_share_of c31_forest_line c31_price_of c31_worth c5 c6 c7"
    walk_at "nxp c31_need_net c31_need_shares c31_tie_lines c31_least_forest c31_share_of c31_forest_line c31_price_of c31_worth "
    exact ⟨K.trans K3, t1⟩
  · have fin := fin z
    walk_at "nxp c31_need_net c31_need_shares c31_tie_lines c31_least_forest c31_share_of c31_forest_line c31_price_of c31_worth c1 c2"
    walk_at "nxp c31_need_net c31_need_shares c31_tie_lines c31_least_forest c31_share_of c31_forest_line c31_price_of c31_worth c3 c4"
    walk_at "nxp c31_need_net c31_need_shares c31_tie_lines c31_least_forest c31_share_of c31_forest_line c31_price_of c31_worth c5 c6 c7 z"
    walk_at "nxp c31_need_net c31_need_shares c31_tie_lines c31_least_forest c31_share_of c31_forest_line c31_price_of c31_worth "
    exact fin _ _
end K74
namespace Ev
open PySem
section
variable {st s : Stt}
mutual
theorem toPyR_kp (K : Kp [] st s) : ∀ (f : Nat) (d : D) (p : PyData), toPyR st f d = some p → toPyR s f d = some p
  | 0, _, _, h => by simp [toPyR] at h
  | n + 1, d, p, h => by
    cases d with
    | tup xs =>
      simp only [toPyR, Option.map_eq_some_iff] at h ⊢
      obtain ⟨ps, h, rfl⟩ := h
      exact ⟨ps, toPysR_kp K n xs ps h, rfl⟩
    | loc l =>
      simp only [toPyR] at h ⊢
      cases q : st[l]? with
      | none => rw [q] at h; cases h
      | some o =>
        have q2 : s[l]? = some o := (K.2 l (by simp) ((List.getElem?_eq_some_iff.mp q).1)).trans q
        rw [q] at h
        rw [q2]
        cases o with
        | lst xs =>
          simp only [Option.map_eq_some_iff] at h ⊢
          obtain ⟨ps, h, rfl⟩ := h
          exact ⟨ps, toPysR_kp K n xs ps h, rfl⟩
        | dic kvs =>
          cases kvs with
          | nil => exact h
          | cons a b => simp at h
        | _ => simp at h
    | _ => exact h
theorem toPysR_kp (K : Kp [] st s) : ∀ (f : Nat) (xs : List D) (ps : List PyData), toPysR st f xs = some ps → toPysR s f xs = some ps
  | 0, _, _, h => by simp [toPysR] at h
  | n + 1, [], ps, h => by simpa [toPysR] using h
  | n + 1, x :: xs, ps, h => by
    simp only [toPysR] at h ⊢
    split at h
    · rename_i a b e1 e2
      cases h
      rw [toPyR_kp K n x a e1, toPysR_kp K n xs b e2]
    · cases h
end
end
/-- the text of a thing, at any later state -/
theorem Rp.text {T : List Nat} {st : Stt} {d : D} (h : Rp T st 50 30 6 900000 d) : ∃ x, ∀ s, Kp [] st s → biA "repr" [.d d] s = .ok (.d (.str x)) s := by
  obtain ⟨P, e1, e2, e3, e4⟩ := h.py (by decide) 1000 (by decide)
  exact ⟨P.shown, fun s K => bi_repr (toPyR_kp K _ _ _ e1) e2 (by omega) (by omega)⟩
end Ev
namespace Ev
open PySem
/-- small whole numbers -/
noncomputable def IR (xs : List D) : Prop := ∀ x ∈ xs, ∃ i : Int, x = .int i ∧ i.natAbs < 1000
section
variable {xs ys : List D} {lo hi : Option Int} {i : Int} {T : List Nat} {s : Stt} {l : Nat}
theorem IR.app (h : IR xs) (k : IR ys) : IR (xs ++ ys) := fun x hx => (List.mem_append.mp hx).elim (h x) (k x)
theorem IR.rev (h : IR xs) : IR xs.reverse := fun x hx => h x (List.mem_reverse.mp hx)
theorem IR.nil : IR [] := fun x hx => by cases hx
theorem IR.one (h : i.natAbs < 1000) : IR [.int i] := fun x hx => by
  rw [List.mem_singleton] at hx; subst hx; exact ⟨i, rfl, h⟩
theorem IR.row {r : List Nat} (h : ∀ i ∈ r, i < 1000) : IR (rowD r) := fun x hx => by
  obtain ⟨i, hi, rfl⟩ := List.mem_map.mp hx
  have := h i hi
  exact ⟨_, rfl, by omega⟩
theorem IR.ints : ∀ {xs : List D}, IR xs → ∃ is : List Int, intsOf xs = some is ∧ is.length = xs.length ∧ ∀ i ∈ is, i.natAbs < 1000
  | [], _ => ⟨[], rfl, rfl, by simp⟩
  | x :: xs, h => by
    obtain ⟨i, rfl, hi⟩ := h x (by simp)
    obtain ⟨is, e, l, q⟩ := IR.ints (xs := xs) fun y hy => h y (List.mem_cons_of_mem _ hy)
    exact ⟨i :: is, by simp [intsOf, e], by simp [l], fun j hj => by
      rcases List.mem_cons.mp hj with rfl | hj
      · exact hi
      · exact q j hj⟩
theorem IR.rng {n : Nat} (h : n ≤ 1000) : IR (rngI 0 n) := fun x hx => by
  unfold rngI at hx
  obtain ⟨k, hk, rfl⟩ := List.mem_map.mp hx
  have := List.mem_range.mp hk
  exact ⟨_, rfl, by omega⟩
end
end Ev
namespace Ev
open PySem
/-- a small price -/
structure FrB (x : Fr) : Prop where
  pos : 0 < x.2
  gcd : Int.gcd x.1 x.2 = 1
  top : x.1.natAbs ≤ 1000000
  bot : x.2 ≤ 1000000
theorem FrB.pk {x : Fr} (h : FrB x) : PK 20 x := ⟨h.pos, h.gcd, by have := h.top; omega, by have := h.bot; have := h.pos; omega⟩
theorem FrB.ok {x : Fr} (h : FrB x) : OkP x := h.pk.ok (by decide)
/-- a price's line at a stretch's end -/
noncomputable def spF (r : Int) (d : D) : D := match d with
  | .tup [.int p, .int q] => .int (0 - (r * p).fdiv q)
  | _ => .non
end Ev
namespace Ev
open PySem
theorem eq_loc2 {st : Stt} {l m : Nat} {xs ys : List Int} (h : stLst st l = some (xs.map D.int)) (h2 : stLst st m = some (ys.map D.int)) (hl : xs.length ≤ 900) (hl2 : ys.length ≤ 900) : eqB st (.d (.loc l)) (.d (.loc m)) = some (decide (xs = ys)) := by
  have pl : ∀ zs : List Int, ∀ x ∈ zs.map D.int, Pl 1 0 x := fun zs x hx => by
    obtain ⟨i, _, rfl⟩ := List.mem_map.mp hx
    exact .int i
  have p1 := toPys_of (st := st) (F := 1) (xs := ys.map D.int) (g := 999) (fun x hx2 f hf => toPy_of (pl ys x hx2) f (by omega)) (by rw [List.length_map]; omega)
  have p2 := toPys_of (st := st) (F := 1) (xs := xs.map D.int) (g := 999) (fun x hx2 f hf => toPy_of (pl xs x hx2) f (by omega)) (by rw [List.length_map]; omega)
  have e2 : toPy st 1000 (.loc l) = some (.list (pysD (xs.map D.int))) := by
    simp only [toPy, h, p2, Option.map_some]
  have e1 : toPy st 1000 (.loc m) = some (.list (pysD (ys.map D.int))) := by
    simp only [toPy, h2, p1, Option.map_some]
  have sh : ∀ zs : List Int, SeqAt.shaped (.list (pysD (zs.map D.int))) = true := fun zs => by
    unfold SeqAt.shaped
    simp only [PyData.canLay0, PyData.depth, lay_all fun x hx2 => lay_pl (pl zs x hx2), Bool.true_and, decide_eq_true_eq]
    refine decide_eq_true ?_
    exact Nat.le_trans (Nat.succ_le_succ (dep_all (k := 0) fun x hx2 => dep_pl (pl zs x hx2))) (show 1 ≤ 64 by decide)
  have a : eqA st (.d (.loc l)) (.d (.loc m)) = some (decide (xs = ys)) := by
    unfold eqA toPyA
    try unfold toPyX
    simp only [e1, Option.map_some, e2, sh, and_self, if_true, PyData.eqv, eqvAll_ints]
  unfold eqB
  cases e : emp2 st (.d (.loc l)) (.d (.loc m)) with
  | none => exact a
  | some b =>
    simp only [emp2, tupOf, lstOf, h, h2] at e
    split at e
    · rename_i q
      cases e
      show some (decide ((List.map D.int xs).length = (List.map D.int ys).length)) = some (decide (xs = ys))
      congr 1
      rw [Bool.eq_iff_iff, decide_eq_true_eq, decide_eq_true_eq, List.length_map, List.length_map]
      simp only [Bool.or_eq_true, List.isEmpty_iff, List.map_eq_nil_iff] at q
      rcases q with rfl | rfl
      · constructor
        · intro h
          exact (List.length_eq_zero_iff.mp h.symm).symm
        · rintro rfl; rfl
      · constructor
        · intro h
          exact List.length_eq_zero_iff.mp h
        · rintro rfl; rfl
    · cases e
end Ev
namespace K74
open PySem Ev
theorem lots_step {n : Int} {ts : List Tie} {x0 x1 x4 x5 x6 x7 x8 : Option D} {lm i : Nat} {t : Tie} {m : List Int} {st : Stt} {N : Ev.Env → Stt → Prop} {R : D → Stt → Prop} {E : Str → List D → Ev.Env → Stt → Prop}
    (h0 : x0 = some (.tup [.int n, .tup (ts.map tieD)])) (w : BothOk n t) (ht : ts[i]? = some t) (hm : stLst st lm = some (m.map D.int)) (ml : (m.length : Int) = n) (n8 : n ≤ 8)
    (k : ∀ lm' x4 x5 s, (lm' = lm ∨ st.length ≤ lm') → stLst s lm' = some ((relab (min (m.getD t.1.toNat 0) (m.getD t.2.1.toNat 0)) (max (m.getD t.1.toNat 0) (m.getD t.2.1.toNat 0)) m).map D.int) → Kp [] st s → N [x0, x1, some (.loc lm'), some (.int ((i : Nat) : Int)), x4, x5, x6, x7, x8] s) :
    Ws (evSs G32 l_law_lots_1 [x0, x1, some (.loc lm), some (.int ((i : Nat) : Int)), x4, x5, x6, x7, x8] st) N R E := by
  subst h0
  obtain ⟨w1, w2, w3, _⟩ := w
  have a1 := at_ties ht
  have e0 : tieD t = .tup [.int t.1, .int t.2.1, .int t.2.2.1, .int t.2.2.2] := rfl
  have b1 := at_mark (m := m) (i := t.1) (by omega) (by omega)
  have b2 := at_mark (m := m) (i := t.2.1) (by omega) (by omega)
  have lv := live1 hm
  have hlm := stLst_lt hm
  have c2 : cutD [D.int t.1, .int t.2.1, .int t.2.2.1, .int t.2.2.2] none (some 2) = [.int t.1, .int t.2.1] := rfl
  refine ws_next ?_
  intro KK hK
  walk_at "e a1 e0 c2"
  rw [lc_mp (f := mkF m)]
  rotate_left
  · intro x hx
    simp only [List.mem_cons, List.not_mem_nil, or_false] at hx
    rcases hx with rfl | rfl
    · refine eq_of_wp ?_
      walk_at "e hm b1"
      rfl
    · refine eq_of_wp ?_
      walk_at "e hm b2"
      rfl
  have mp : [D.int t.1, D.int t.2.1].map (mkF m) = [.int (m.getD t.1.toNat 0), .int (m.getD t.2.1.toNat 0)] := rfl
  have ll : ∀ (st : Stt) (xs : List D), lstOf st (.l xs) = some xs := fun _ _ => rfl
  have bs := fun s => bi_sort2 (st := s) (a := m.getD t.1.toNat 0) (b := m.getD t.2.1.toNat 0)
  have rl := relab_D (a := min (m.getD t.1.toNat 0) (m.getD t.2.1.toNat 0)) (b := max (m.getD t.1.toNat 0) (m.getD t.2.1.toNat 0)) (m := m)
  have rlen := relab_len (a := min (m.getD t.1.toNat 0) (m.getD t.2.1.toNat 0)) (b := max (m.getD t.1.toNat 0) (m.getD t.2.1.toNat 0)) (m := m)
  walk_at "ep mp bs ll"
  (try refine hK _ _ ?_)
  clear mp b1 b2 bs
  generalize min (m.getD t.1.toNat 0) (m.getD t.2.1.toNat 0) = u at *
  generalize max (m.getD t.1.toNat 0) (m.getD t.2.1.toNat 0) = v at *
  refine ws_next ?_
  intro KK hK
  walk_at "e hm"
  rw [lc_mapL lv (f := rlF u v)]
  · walk_at "ep "
    rw [if_pos (by rw [List.length_map]; omega)]
    walk_at "e "
    rw [rl]
    (try refine hK _ _ ?_)
    (try simp only [ws_nil])
    exact k st.length _ _ _ (.inr (Nat.le_refl _)) stLst_last Kp.app
  · intro x hx
    obtain ⟨z, _, rfl⟩ := List.mem_map.mp hx
    refine eq_of_wp ?_
    by_cases c : z = v
    · subst c
      walk_at "e "
      (try simp [rlF])
    · walk_at "e c"
      (try simp [rlF, c])
theorem lots_loop {n : Int} {ts : List Tie} {x1 x3 x4 x5 x6 x7 x8 : Option D} {os : List Nat} {st s0 : Stt} {i x : Nat} {lm : Nat} {K0 : Kp [] st s0} (w : NetOk n ts) (hb : ∀ i ∈ os, i < ts.length) (hx : os[i]? = some x) (hm : stLst s0 lm = some ((lotsN n.toNat ts (os.take i)).map D.int)) (lm0 : st.length ≤ lm) {N : Ev.Env → Stt → Prop} {R : D → Stt → Prop} {E : Str → List D → Ev.Env → Stt → Prop}
    (k : ∀ lm' x4 x5 s, st.length ≤ lm' → stLst s lm' = some ((lotsN n.toNat ts (os.take (i + 1))).map D.int) → Kp [] st s → N [some (webD n ts), x1, some (.loc lm'), some (.int ((x : Nat) : Int)), x4, x5, x6, x7, x8] s) :
    Ws (evSs G32 l_law_lots_1 [some (webD n ts), x1, some (.loc lm), some (.int ((x : Nat) : Int)), x4, x5, x6, x7, x8] s0) N R E := by
  have n0 := w.lo
  have ht := List.getElem?_eq_getElem (hb _ (List.mem_of_getElem? hx))
  generalize ts[x]'(hb _ (List.mem_of_getElem? hx)) = t at ht
  have gt := lotsN_take (n := n.toNat) (ts := ts) (os := os) hx ht
  rw [gt] at k
  have gl := lotsN_len (n := n.toNat) (ts := ts) (os := os.take i)
  generalize lotsN n.toNat ts (os.take i) = m at *
  refine lots_step rfl (w.ok t (List.mem_of_getElem? ht)) ht hm (by omega) w.hi fun lm' x4 x5 s' h1 h2 h3 => ?_
  exact k lm' _ _ s' (by have := K0.1; omega) h2 (K0.trans h3)
theorem law_lots_tup {n : Int} {ts : List Tie} {os : List Nat} {st : Stt} (w : NetOk n ts) (hb : ∀ i ∈ os, i < ts.length) : ∃ lm s, F_law_lots [webD n ts, .tup (rowD os)] st = .ok (.loc lm) s ∧ stLst s lm = some ((lotsN n.toNat ts os).map D.int) ∧ Kp [] st s := by
  have h := ex_of_wp (m := F_law_lots [webD n ts, .tup (rowD os)] st) (P := fun d s => ∃ lm, d = .loc lm ∧ stLst s lm = some ((lotsN n.toNat ts os).map D.int) ∧ Kp [] st s) ?_
  · obtain ⟨_, s, e, lm, rfl, h1, h2⟩ := h
    exact ⟨lm, s, e, h1, h2⟩
  have n0 := w.lo
  have n8 := w.hi
  have hN : ∀ s, ixA (.d (webD n ts)) (.d (.int 0)) s = some (.d (.int n)) := fun s => rfl
  have loop := fun {x1 x3 x4 x5 x6 x7 x8 : Option D} {s0 : Stt} {i x lm : Nat} (K0 : Kp [] st s0) => lots_loop (x1 := x1) (x3 := x3) (x4 := x4) (x5 := x5) (x6 := x6) (x7 := x7) (x8 := x8) (i := i) (x := x) (lm := lm) (K0 := K0) w hb
  generalize webD n ts = W at *
  unfold F_law_lots; refine evF_i rfl ?_
  walk_at "nx hN"
  refine ⟨rg_0n (by omega) (by omega), ?_⟩
  refine hK _ _ ?_
  have m0 : stLst (st ++ [Ob.lst (rngI 0 n.toNat)]) st.length = some ((lotsN n.toNat ts (os.take 0)).map D.int) := by rw [stLst_last]; exact congrArg some mk0_D.symm
  have K0 : Kp [] st (st ++ [Ob.lst (rngI 0 n.toNat)]) := Kp.app
  generalize st ++ [Ob.lst (rngI 0 n.toNat)] = s0 at *
  walk_at "nx "
  refine for_I (fun i e s => (∃ lm x3 x4 x5, st.length ≤ lm ∧ e = [some W, some (.tup (rowD os)), some (.loc lm), x3, x4, x5, none, none, none] ∧ stLst s lm = some ((lotsN n.toNat ts (os.take i)).map D.int)) ∧ Kp [] st s) ⟨⟨_, _, _, _, Nat.le_refl _, rfl, m0⟩, K0⟩ ?_ ?_
  · rintro i x e s hx ⟨⟨lm, x3, x4, x5, lm0, rfl, hm⟩, K⟩
    obtain ⟨o, ho, ex⟩ : ∃ o, os[i]? = some o ∧ x = .int ((o : Nat) : Int) := by
      unfold rowD at hx
      rw [List.getElem?_map, Option.map_eq_some_iff] at hx
      obtain ⟨i, h1, h2⟩ := hx
      exact ⟨i, h1, h2.symm⟩
    subst ex
    refine ⟨_, rfl, ?_⟩
    simp only [List.set_cons_succ, List.set_cons_zero]
    refine loop (x3 := x3) K ho hm lm0 fun lm' x4 x5 s' h1 h2 h3 => ?_
    exact ⟨⟨lm', _, _, _, h1, rfl, h2⟩, h3⟩
  · rintro e s ⟨⟨lm, x3, x4, x5, lm0, rfl, hm⟩, K⟩
    have ol : (rowD os).length = os.length := List.length_map _
    rw [ol, List.take_length] at hm
    refine hK _ _ ?_
    walk_at "nx "
    exact ⟨hm, K⟩
theorem law_lots_loc {n : Int} {ts : List Tie} {os : List Nat} {lo : Nat} {st : Stt} (w : NetOk n ts) (ho : stLst st lo = some (rowD os)) (hb : ∀ i ∈ os, i < ts.length) : ∃ lm s, F_law_lots [webD n ts, .loc lo] st = .ok (.loc lm) s ∧ stLst s lm = some ((lotsN n.toNat ts os).map D.int) ∧ Kp [] st s := by
  have h := ex_of_wp (m := F_law_lots [webD n ts, .loc lo] st) (P := fun d s => ∃ lm, d = .loc lm ∧ stLst s lm = some ((lotsN n.toNat ts os).map D.int) ∧ Kp [] st s) ?_
  · obtain ⟨_, s, e, lm, rfl, h1, h2⟩ := h
    exact ⟨lm, s, e, h1, h2⟩
  have n0 := w.lo
  have n8 := w.hi
  have hN : ∀ s, ixA (.d (webD n ts)) (.d (.int 0)) s = some (.d (.int n)) := fun s => rfl
  have loop := fun {x1 x3 x4 x5 x6 x7 x8 : Option D} {s0 : Stt} {i x lm : Nat} (K0 : Kp [] st s0) => lots_loop (x1 := x1) (x3 := x3) (x4 := x4) (x5 := x5) (x6 := x6) (x7 := x7) (x8 := x8) (i := i) (x := x) (lm := lm) (K0 := K0) w hb
  generalize webD n ts = W at *
  unfold F_law_lots; refine evF_i rfl ?_
  walk_at "nx hN"
  refine ⟨rg_0n (by omega) (by omega), ?_⟩
  refine hK _ _ ?_
  have m0 : stLst (st ++ [Ob.lst (rngI 0 n.toNat)]) st.length = some ((lotsN n.toNat ts (os.take 0)).map D.int) := by rw [stLst_last]; exact congrArg some mk0_D.symm
  have K0 : Kp [] st (st ++ [Ob.lst (rngI 0 n.toNat)]) := Kp.app
  generalize st ++ [Ob.lst (rngI 0 n.toNat)] = s0 at *
  have ho0 : stLst s0 lo = some (rowD os) := K0.lst (by simp) ho
  walk_at "nx ho0"
  refine for_L (fun i e s => (∃ lm x3 x4 x5, st.length ≤ lm ∧ e = [some W, some (.loc lo), some (.loc lm), x3, x4, x5, none, none, none] ∧ stLst s lm = some ((lotsN n.toNat ts (os.take i)).map D.int)) ∧ Kp [] st s) ⟨⟨_, _, _, _, Nat.le_refl _, rfl, m0⟩, K0⟩ (fun i e s h => h.2.lst (by simp) ho) ?_ ?_
  · rintro i x e s hx ⟨⟨lm, x3, x4, x5, lm0, rfl, hm⟩, K⟩
    obtain ⟨o, ho, ex⟩ : ∃ o, os[i]? = some o ∧ x = .int ((o : Nat) : Int) := by
      unfold rowD at hx
      rw [List.getElem?_map, Option.map_eq_some_iff] at hx
      obtain ⟨i, h1, h2⟩ := hx
      exact ⟨i, h1, h2.symm⟩
    subst ex
    refine ⟨_, rfl, ?_⟩
    simp only [List.set_cons_succ, List.set_cons_zero]
    refine loop (x3 := x3) K ho hm lm0 fun lm' x4 x5 s' h1 h2 h3 => ?_
    exact ⟨⟨lm', _, _, _, h1, rfl, h2⟩, h3⟩
  · rintro e s ⟨⟨lm, x3, x4, x5, lm0, rfl, hm⟩, K⟩
    have ol : (rowD os).length = os.length := List.length_map _
    rw [ol, List.take_length] at hm
    refine hK _ _ ?_
    walk_at "nx "
    exact ⟨hm, K⟩
end K74
namespace K74
open PySem Ev
theorem law_is_forest_yes {n : Int} {ts : List Tie} {F : List Nat} {st : Stt} (w : NetOk n ts) (f : Frst n.toNat ts F) (rise : F.Pairwise (· < ·)) : ∃ s, F_law_is_forest [webD n ts, .tup (rowD F)] st = .ok (.bl true) s ∧ Kp [] st s := by
  have main := ex_of_wp (m := F_law_is_forest [webD n ts, .tup (rowD F)] st) (P := fun x s => x = .bl true ∧ Kp [] st s) ?_
  · obtain ⟨_, s, e, rfl, h⟩ := main
    exact ⟨s, e, h⟩
  have tl := w.len
  have n8 := w.hi
  have ok := net_ts w
  have hF := f.tr.2.1
  have nd := f.tr.1
  have fl := frst_len f
  obtain ⟨TL, hTL⟩ : ∃ TL : Int, TL = ((ts.length : Nat) : Int) := ⟨_, rfl⟩
  have hW : ∀ s, ixA (.d (webD n ts)) (.d (.int 1)) s = some (.d (.tup (ts.map tieD))) := fun s => rfl
  have hT : ∀ s, biA "len" [.d (.tup (ts.map tieD))] s = .ok (.d (.int TL)) s := fun s => by rw [bi_len_tup, List.length_map, hTL]
  have rlF : (rowD F).length = F.length := List.length_map _
  have lots : ∀ k s, ∃ lm s', F_law_lots [webD n ts, .tup (rowD (F.take k))] s = .ok (.loc lm) s' ∧ stLst s' lm = some ((lotsN n.toNat ts (F.take k)).map D.int) ∧ Kp [] s s' := fun k s => law_lots_tup w fun i hi => hF i (List.mem_of_mem_take hi)
  have part : ∀ k i t, F[k]? = some i → ts[i]? = some t → (lotsN n.toNat ts (F.take k)).getD t.1.toNat 0 ≠ (lotsN n.toNat ts (F.take k)).getD t.2.1.toNat 0 := fun k i t hk ht => by
    obtain ⟨o1, o2⟩ := ok t (List.mem_of_getElem? ht)
    have m := (lots_mk ok (os := F.take k) fun i hi => hF i (List.mem_of_mem_take hi)).1
    intro q
    refine tree_cut ok f.tr (List.mem_of_getElem? hk) ht (((m.ker _ _ o1 o2).mp q).mono fun j hj => ⟨List.mem_of_mem_take hj, fun z => ?_⟩)
    subst z
    obtain ⟨k', hk', e⟩ := List.getElem_of_mem hj
    rw [List.getElem_take] at e
    have hk2 : k' < k := by
      rw [List.length_take] at hk'
      omega
    have h1 := (List.getElem?_eq_some_iff.mp hk).1
    have h2 := List.pairwise_iff_getElem.mp rise k' k (by omega) h1 hk2
    rw [e, (List.getElem?_eq_some_iff.mp hk).2] at h2
    omega
  have ll : ∀ k, (lotsN n.toNat ts (F.take k)).length = n.toNat := fun k => lotsN_len
  have fin := lots_forest ok hF f
  have l1 : ∀ s, ∃ lm s', F_law_lots [webD n ts, .tup (rowD F)] s = .ok (.loc lm) s' ∧ stLst s' lm = some ((lotsN n.toNat ts F).map D.int) ∧ Kp [] s s' := fun s => law_lots_tup w hF
  have l2 : ∀ lo s, stLst s lo = some (rngI 0 TL.toNat) → ∃ lm s', F_law_lots [webD n ts, .loc lo] s = .ok (.loc lm) s' ∧ stLst s' lm = some ((lotsN n.toNat ts F).map D.int) ∧ Kp [] s s' := fun lo s h => by
    rw [fin]
    rw [show TL.toNat = ts.length by omega, rngI_row] at h
    exact law_lots_loc w h fun i hi => List.mem_range.mp hi
  have lf : (lotsN n.toNat ts F).length ≤ 900 := by rw [lotsN_len]; omega
  have rgT : rgOk 0 TL = true := rg_0n (by omega) (by omega)
  generalize lotsN n.toNat ts F = LF at *
  generalize webD n ts = W at *
  unfold F_law_is_forest; refine evF_i rfl ?_
  walk_at "nxp c33_law_lots "
  refine ws_next ?_
  intro KK hK
  walk_at "ep c33_law_lots "
  refine for_I (fun i e s => (∃ x2 x3 x4, e = [some W, some (.tup (rowD F)), x2, x3, x4]) ∧ Kp [] st s) ⟨⟨_, _, _, rfl⟩, Kp.refl⟩ ?_ ?_
  · rintro k x e s hx ⟨⟨x2, x3, x4, rfl⟩, K⟩
    rw [enumI_get] at hx
    unfold rowD at hx
    rw [List.getElem?_map] at hx
    simp only [Option.map_eq_some_iff] at hx
    obtain ⟨_, ⟨i, hi, rfl⟩, rfl⟩ := hx
    rw [show ((0 + k : Nat) : Int) = ((k : Nat) : Int) by omega]
    have hit := hF i (List.mem_of_getElem? hi)
    have ht := List.getElem?_eq_getElem hit
    generalize ts[i] = t at ht
    obtain ⟨w1, w2, w3, _⟩ := w.ok t (List.mem_of_getElem? ht)
    have a1 := at_ties ht
    have e0 : tieD t = .tup [.int t.1, .int t.2.1, .int t.2.2.1, .int t.2.2.2] := rfl
    have i0 : 0 ≤ ((i : Nat) : Int) := by omega
    have i1 : ((i : Nat) : Int) < TL := by omega
    have pt := part k i t hi ht
    have llk := ll k
    have v0 : 0 ≤ t.2.1 := by omega
    have u1 : t.1 < ((lotsN n.toNat ts (F.take k)).length : Int) := by omega
    have v1 : t.2.1 < ((lotsN n.toNat ts (F.take k)).length : Int) := by omega
    obtain ⟨lm, s2, e2, h2, K2⟩ := lots k s
    have ct := cut_take (xs := rowD F) (k := k)
    have rt : (rowD F).take k = rowD (F.take k) := by unfold rowD; rw [List.map_take]
    rw [rt] at ct
    have prev : 0 < ((k : Nat) : Int) → ∃ J : Int, L2.atI (rowD F) (((k : Nat) : Int) - 1) = some (.int J) ∧ ¬ J ≥ ((i : Nat) : Int) := fun k0 => by
      have kl := (List.getElem?_eq_some_iff.mp hi).1
      have hj := List.getElem?_eq_getElem (show k - 1 < F.length by omega)
      have lt := List.pairwise_iff_getElem.mp rise (k - 1) k (by omega) kl (by omega)
      rw [(List.getElem?_eq_some_iff.mp hi).2] at lt
      generalize F[k - 1] = j at hj lt
      refine ⟨((j : Nat) : Int), ?_, by omega⟩
      have rw1 : (rowD F)[k - 1]? = some (.int ((j : Nat) : Int)) := by
        unfold rowD
        rw [List.getElem?_map, hj]
        rfl
      rw [show ((k : Nat) : Int) - 1 = ((k - 1 : Nat) : Int) by omega]
      exact L2.atI_nat rw1
    clear part ll lots l1 l2 fin
    generalize lotsN n.toNat ts (F.take k) = m at *
    have b1 := at_mark (m := m) (i := t.1) w1 u1
    have b2 := at_mark (m := m) (i := t.2.1) v0 v1
    refine ⟨_, rfl, ?_⟩
    simp only [List.set_cons_succ, List.set_cons_zero]
    generalize hI : ((i : Nat) : Int) = I at *
    generalize hk : ((k : Nat) : Int) = KI at *
    walk_at "nxp c33_law_lots hW hT i0 i1"
    by_cases z : 0 < KI
    · obtain ⟨J, aJ, nJ⟩ := prev z
      walk_at "nxp c33_law_lots z aJ nJ"
      walk_at "nxp c33_law_lots slt ct e2"
      walk_at "nxp c33_law_lots hW a1 e0 h2 b1 b2 pt"
      (try simp only [ws_nil])
      exact ⟨⟨_, _, _, rfl⟩, K.trans K2⟩
    · walk_at "nxp c33_law_lots z"
      walk_at "nxp c33_law_lots slt ct e2"
      walk_at "nxp c33_law_lots hW a1 e0 h2 b1 b2 pt"
      (try simp only [ws_nil])
      exact ⟨⟨_, _, _, rfl⟩, K.trans K2⟩
  · rintro e s ⟨⟨x2, x3, x4, rfl⟩, K⟩
    refine hK _ _ ?_
    obtain ⟨lm, s2, e2, h2, K2⟩ := l1 s
    have lo : stLst (s2 ++ [Ob.lst (rngI 0 TL.toNat)]) s2.length = some (rngI 0 TL.toNat) := stLst_last
    obtain ⟨lm2, s3, e3, h3, K3⟩ := l2 s2.length _ lo
    have K23 : Kp [] s2 s3 := Kp.app.trans K3
    have eq := eq_loc2 (K23.lst (by simp) h2) h3 lf lf
    rw [decide_eq_true rfl] at eq
    refine ws_next ?_
    intro KK hK
    walk_at "ep c33_law_lots e2 hW hT"
    refine ⟨rgT, ?_⟩
    walk_at "ep c33_law_lots e3 eq"
    exact K.trans (K2.trans K23)
end K74
namespace K74
open PySem Ev
noncomputable def colF (ts : List Tie) (b : Bool) (d : D) : D := match d with
  | .int i => .int (if b = true then (lnOf ts i.toNat).2 else (lnOf ts i.toNat).1)
  | _ => .non
theorem law_sum_ok {ts : List Tie} {r : List Nat} (hr : ∀ i ∈ r, i < ts.length) (hl : r.length ≤ 1000) (st : Stt) : F_law_sum [.tup (ts.map tieD), .tup (rowD r)] st = .ok (frD (lineW ts r)) st := by
  have rl : (rowD r).length = r.length := List.length_map _
  have mp : ∀ b, (rowD r).map (colF ts b) = r.map fun i => D.int (if b = true then (lnOf ts i).2 else (lnOf ts i).1) := fun b => by
    unfold rowD
    rw [List.map_map]
    apply List.map_congr_left
    intro i _
    show D.int _ = _
    simp
  have st1 : ∀ i ∈ r, ∃ t, ts[i]? = some t ∧ lnOf ts i = (t.2.2.1, t.2.2.2) := fun i hi => by
    have e := List.getElem?_eq_getElem (hr i hi)
    exact ⟨_, e, lnOf_some e⟩
  refine eq_of_wp ?_
  unfold F_law_sum; refine evF_i rfl ?_
  walk_at "nx "
  rw [lc_mp (f := colF ts false)]
  · rw [mp]
    have i1 : intsOf (r.map fun i => D.int (lnOf ts i).1) = some (r.map fun i => (lnOf ts i).1) := ints_map
    walk_at "e i1"
    rw [if_pos (by omega)]
    walk_at "e i1"
    rw [lc_mp (f := colF ts true)]
    · rw [mp]
      have i2 : intsOf (r.map fun i => D.int (lnOf ts i).2) = some (r.map fun i => (lnOf ts i).2) := ints_map
      walk_at "e i2"
      rw [if_pos (by omega)]
      walk_at "e i2"
      (try first | rfl | exact ⟨rfl, rfl⟩)
    · intro d hd
      unfold rowD at hd
      obtain ⟨i, hi, rfl⟩ := List.mem_map.mp hd
      obtain ⟨t, ht, hn⟩ := st1 i hi
      have a1 := at_ties ht
      have e1 : colF ts true (.int ((i : Nat) : Int)) = .int t.2.2.2 := by
        show D.int (if true = true then (lnOf ts ((i : Nat) : Int).toNat).2 else _) = _
        rw [if_pos rfl, show ((i : Nat) : Int).toNat = i by omega, hn]
      rw [e1]
      refine eq_of_wp ?_
      have e0 : tieD t = .tup [.int t.1, .int t.2.1, .int t.2.2.1, .int t.2.2.2] := rfl
      walk_at "e a1 e0"
  · intro d hd
    unfold rowD at hd
    obtain ⟨i, hi, rfl⟩ := List.mem_map.mp hd
    obtain ⟨t, ht, hn⟩ := st1 i hi
    have a1 := at_ties ht
    have e1 : colF ts false (.int ((i : Nat) : Int)) = .int t.2.2.1 := by
      show D.int (if false = true then _ else (lnOf ts ((i : Nat) : Int).toNat).1) = _
      rw [if_neg (by decide), show ((i : Nat) : Int).toNat = i by omega, hn]
    rw [e1]
    refine eq_of_wp ?_
    have e0 : tieD t = .tup [.int t.1, .int t.2.1, .int t.2.2.1, .int t.2.2.2] := rfl
    walk_at "e a1 e0"
end K74
namespace K74
open PySem Ev
theorem law_common_ok (a b : Int) (st : Stt) : F_law_common [.int a, .int b] st = .ok (.int (Int.gcd a b)) st := by
  refine eq_of_wp ?_
  unfold F_law_common; refine evF_i rfl ?_
  walk_at "nx "
  have g0 : Int.gcd (if a < 0 then -a else a) (if b < 0 then -b else b) = Int.gcd a b := by
    have h1 : ∀ x : Int, (if x < 0 then -x else x) = (x.natAbs : Int) := fun x => by split <;> omega
    rw [h1, h1]; rfl
  have p0 : 0 ≤ (if a < 0 then -a else a) := by split <;> omega
  have p1 : 0 ≤ (if b < 0 then -b else b) := by split <;> omega
  generalize (if a < 0 then -a else a) = x at *
  generalize (if b < 0 then -b else b) = y at *
  refine ws_next ?_
  intro KK hK
  refine ws_whl (I := fun n e s => ∃ a' b', e = [some (.int a'), some (.int b')] ∧ s = st ∧ n = b'.natAbs ∧ 0 ≤ a' ∧ 0 ≤ b' ∧ Int.gcd a' b' = Int.gcd a b) y.natAbs ⟨x, y, rfl, rfl, rfl, p0, p1, g0⟩ ?_
  rintro n e s ⟨a', b', rfl, rfl, rfl, h0, h1, hg⟩
  by_cases c : 0 < b'
  · walk_at "e c"
    have c2 : b' ≠ 0 := by omega
    walk_at "nx c2"
    refine ⟨_, fmod_abs a' b' c2, _, _, rfl, rfl, rfl, h1, Int.fmod_nonneg_of_pos _ c, (gcd_step a' b').trans hg⟩
  · walk_at "e c"
    have c2 : b' = 0 := by omega
    subst c2
    walk_at "nx "
    have : Int.gcd a' 0 = a'.natAbs := by simp
    rw [← hg, this]; omega
end K74
namespace K74
open PySem Ev
theorem law_fraction_ok {a b : Int} (hb : 0 < b) (h2 : b.natAbs < 2 ^ 250) (st : Stt) : F_law_fraction [.int a, .int b] st = .ok (frD (lowP a b)) st := by
  have f := law_common_ok a b st
  obtain ⟨h0, _, _, _, _, _, h3⟩ := frac_facts (p := a) (show b ≠ 0 by omega)
  have e : fq a b = Int.gcd a b := by unfold fq; rw [if_neg (by omega)]
  have dv : divB (Int.gcd a b : Int) := divB_of (b := 250) (by rw [← e]; exact h0) (by rw [← e]; omega) (by decide)
  have mb : mulB (Int.gcd a b : Int) 1 := mulB_of (a := 250) (b := 64) (by rw [← e]; omega) (by decide) (by decide)
  have nb : ¬ b < 0 := by omega
  unfold lowP
  rw [e]
  generalize (Int.gcd a b : Int) = g at *
  have m1 : g * 1 = g := Int.mul_one g
  refine eq_of_wp ?_
  unfold F_law_fraction; refine evF_i rfl ?_
  walk_at "nx c36_law_common f nb mb m1"
  walk_at "nx c36_law_common dv"
  all_goals (try first | exact ⟨rfl, rfl⟩ | rfl)
end K74
namespace K74
open PySem Ev
theorem own_step {n : Int} {ts : List Tie} {p : Fr} {F : List Nat} {o L : Nat} {c : Int} {G : List Nat} {x2 x3 x4 x5 x6 x7 x11 x12 : Option D} {st : Stt} {N : Ev.Env → Stt → Prop} {R : D → Stt → Prop} {E : Str → List D → Ev.Env → Stt → Prop} (w : NetOk n ts) (hp : p.1.natAbs < 2 ^ 150 ∧ p.2.natAbs < 2 ^ 150) (ho : o < ts.length) (hl : stLst st L = some (rowD G)) (gl : G.length ≤ 900)
    (k : ∀ x11 s, stLst s L = some (rowD (if decide (wAt ts p o ≤ c) = true then G ++ [o] else G)) → Kp [L] st s → N [some (webD n ts), some (frD p), x2, x3, x4, x5, x6, x7, some (.int c), some (.loc L), some (.int ((o : Nat) : Int)), x11, x12] s) :
    Ws (evSs G37 l_law_least_forest_0x2 [some (webD n ts), some (frD p), x2, x3, x4, x5, x6, x7, some (.int c), some (.loc L), some (.int ((o : Nat) : Int)), x11, x12] st) N R E := by
  have ht := List.getElem?_eq_getElem ho
  generalize ts[o] = t at ht
  have a1 := at_ties ht
  have e0 : tieD t = .tup [.int t.1, .int t.2.1, .int t.2.2.1, .int t.2.2.2] := rfl
  have ep : frD p = .tup [.int p.1, .int p.2] := rfl
  have hW : ∀ s, ixA (.d (webD n ts)) (.d (.int 1)) s = some (.d (.tup (ts.map tieD))) := fun s => rfl
  obtain ⟨m1, m2⟩ : mulB t.2.2.1 p.2 ∧ mulB t.2.2.2 p.1 := by
    obtain ⟨_, _, _, b1, b2, b3, b4⟩ := w.ok t (List.mem_of_getElem? ht)
    have pw : 1000000 < 2 ^ 150 := by decide
    exact ⟨mulB_of (a := 150) (b := 150) (by omega) (by omega) (by decide), mulB_of (a := 150) (b := 150) (by omega) (by omega) (by decide)⟩
  have rlG : (rowD G).length = G.length := List.length_map _
  have gr : rowD G ++ [D.int ((o : Nat) : Int)] = rowD (G ++ [o]) := by unfold rowD; rw [List.map_append]; rfl
  have wa : t.2.2.1 * p.2 + t.2.2.2 * p.1 = wAt ts p o := by rw [wAt_some ht]; rfl
  have rc : (stLst st L).isSome = true := by rw [hl]; rfl
  generalize webD n ts = W at *
  walk_at "nxp c37_law_lots hW a1 e0 cut_tie"
  by_cases z : wAt ts p o ≤ c
  · rw [if_pos (decide_eq_true z)] at k
    generalize wAt ts p o = v at *
    walk_at "nxp c37_law_lots ep m1 m2 wa z"
    have h9 := hK
    walk_at "nxp c37_law_lots rc hl gr"
    rw [if_pos (by omega)]
    (try refine hK _ _ ?_)
    (try simp only [ws_nil])
    (try refine h9 _ _ ?_)
    (try simp only [ws_nil])
    exact k _ _ (stLst_same (stLst_lt hl)) (Kp.set (by simp))
  · rw [if_neg (by simpa using z)] at k
    generalize wAt ts p o = v at *
    walk_at "nxp c37_law_lots ep m1 m2 wa z"
    (try simp only [ws_nil])
    exact k _ _ hl Kp.refl
theorem law_least_forest_yes {n : Int} {ts : List Tie} {p : Fr} {F : List Nat} {st : Stt} (w : NetOk n ts) (hp : p.1.natAbs < 2 ^ 150 ∧ p.2.natAbs < 2 ^ 150) (hF : ∀ i ∈ F, i < ts.length) (fl : F.length ≤ 20) (opt : Opt ts (wAt ts p) F) : ∃ s, F_law_least_forest [webD n ts, frD p, .tup (rowD F)] st = .ok (.bl true) s ∧ Kp [] st s := by
  have main := ex_of_wp (m := F_law_least_forest [webD n ts, frD p, .tup (rowD F)] st) (P := fun x s => x = .bl true ∧ Kp [] st s) ?_
  · obtain ⟨_, s, e, rfl, h⟩ := main
    exact ⟨s, e, h⟩
  have tl := w.len
  have n8 := w.hi
  have ok := net_ts w
  have rlF : (rowD F).length = F.length := List.length_map _
  have hW : ∀ s, ixA (.d (webD n ts)) (.d (.int 1)) s = some (.d (.tup (ts.map tieD))) := fun s => rfl
  have ep : frD p = .tup [.int p.1, .int p.2] := rfl
  have lots : ∀ c lo s, stLst s lo = some (rowD (upTo (wAt ts p) F c)) → ∃ lm s', F_law_lots [webD n ts, .loc lo] s = .ok (.loc lm) s' ∧ stLst s' lm = some ((lotsN n.toNat ts (upTo (wAt ts p) F c)).map D.int) ∧ Kp [] s s' := fun c lo s h => law_lots_loc w h fun i hi => hF i (mem_upTo.mp hi).1
  have same : ∀ i t, ts[i]? = some t → (lotsN n.toNat ts (upTo (wAt ts p) F (wAt ts p i))).getD t.1.toNat 0 = (lotsN n.toNat ts (upTo (wAt ts p) F (wAt ts p i))).getD t.2.1.toNat 0 := fun i t ht => by
    obtain ⟨o1, o2⟩ := ok t (List.mem_of_getElem? ht)
    have m := (lots_mk ok (os := upTo (wAt ts p) F (wAt ts p i)) fun i hi => hF i (mem_upTo.mp hi).1).1
    exact (m.ker _ _ o1 o2).mpr ((opt i t ht).mono fun j hj => mem_upTo.mpr hj)
  have ll : ∀ c, (lotsN n.toNat ts (upTo (wAt ts p) F c)).length = n.toNat := fun c => lotsN_len
  have tk : ∀ c j o, F[j]? = some o → upTo (wAt ts p) (F.take (j + 1)) c = if decide (wAt ts p o ≤ c) = true then upTo (wAt ts p) (F.take j) c ++ [o] else upTo (wAt ts p) (F.take j) c := by
    intro c j o h
    unfold Ev.upTo
    rw [List.take_add_one, h, Option.toList_some, List.filter_append, List.filter_cons, List.filter_nil]
    split <;> simp
  have tlen : ∀ c j, (upTo (wAt ts p) (F.take j) c).length ≤ 900 := fun c j => by
    have h1 := List.length_filter_le (fun i => decide (wAt ts p i ≤ c)) (F.take j)
    rw [List.length_take] at h1
    unfold Ev.upTo
    omega
  have own := fun {o L : Nat} {c : Int} {G : List Nat} {x2 x3 x4 x5 x6 x7 x11 x12 : Option D} {st : Stt} {N : Ev.Env → Stt → Prop} {R : D → Stt → Prop} {E : Str → List D → Ev.Env → Stt → Prop} (ho : o < ts.length) => own_step (o := o) (L := L) (c := c) (G := G) (F := F) (x2 := x2) (x3 := x3) (x4 := x4) (x5 := x5) (x6 := x6) (x7 := x7) (x11 := x11) (x12 := x12) (st := st) (N := N) (R := R) (E := E) w hp ho
  have tel : (enumI 0 (ts.map tieD)).length = ts.length := by rw [enumI_length, List.length_map]
  have ml : ∀ t ∈ ts, mulB t.2.2.1 p.2 ∧ mulB t.2.2.2 p.1 := fun t ht => by
    obtain ⟨_, _, _, b1, b2, b3, b4⟩ := w.ok t ht
    have pw : 1000000 < 2 ^ 150 := by decide
    exact ⟨mulB_of (a := 150) (b := 150) (by omega) (by omega) (by decide), mulB_of (a := 150) (b := 150) (by omega) (by omega) (by decide)⟩
  generalize webD n ts = W at *
  unfold F_law_least_forest; refine evF_i rfl ?_
  refine ws_next ?_
  intro KK hK
  walk_at "ep c37_law_lots hW"
  refine for_I (fun i e s => (∃ x3 x4 x5 x6 x7 x8 x9 x10 x11 x12, e = [some W, some (frD p), some (.tup (rowD F)), x3, x4, x5, x6, x7, x8, x9, x10, x11, x12]) ∧ Kp [] st s) ⟨⟨_, _, _, _, _, _, _, _, _, _, rfl⟩, Kp.refl⟩ ?_ ?_
  · rintro i z e s hz ⟨⟨x3, x4, x5, x6, x7, x8, x9, x10, x11, x12, rfl⟩, K⟩
    rw [enumI_get, List.getElem?_map] at hz
    simp only [Option.map_eq_some_iff] at hz
    obtain ⟨_, ⟨t, ht, rfl⟩, rfl⟩ := hz
    obtain ⟨w1, w2, w3, _⟩ := w.ok t (List.mem_of_getElem? ht)
    obtain ⟨m1, m2⟩ := ml t (List.mem_of_getElem? ht)
    have sm := same i t ht
    have wa : t.2.2.1 * p.2 + t.2.2.2 * p.1 = wAt ts p i := by rw [wAt_some ht]; rfl
    have e0 : tieD t = .tup [.int t.1, .int t.2.1, .int t.2.2.1, .int t.2.2.2] := rfl
    have v0 : 0 ≤ t.2.1 := by omega
    have lc := ll (wAt ts p i)
    have u1 : t.1 < ((lotsN n.toNat ts (upTo (wAt ts p) F (wAt ts p i))).length : Int) := by omega
    have v1 : t.2.1 < ((lotsN n.toNat ts (upTo (wAt ts p) F (wAt ts p i))).length : Int) := by omega
    have b1 := at_mark (m := lotsN n.toNat ts (upTo (wAt ts p) F (wAt ts p i))) (i := t.1) w1 u1
    have b2 := at_mark (m := lotsN n.toNat ts (upTo (wAt ts p) F (wAt ts p i))) (i := t.2.1) v0 v1
    have lts := lots (wAt ts p i)
    have tki := tk (wAt ts p i)
    have tli := tlen (wAt ts p i)
    rw [sm] at b1
    generalize wAt ts p i = c at *
    generalize (lotsN n.toNat ts (upTo (wAt ts p) F c)).getD t.2.1.toNat 0 = mv at *
    generalize lotsN n.toNat ts (upTo (wAt ts p) F c) = m at *
    rw [e0]
    refine ⟨_, rfl, ?_⟩
    simp only [List.set_cons_succ, List.set_cons_zero]
    walk_at "nxp c37_law_lots ep m1 m2 wa"
    walk_at "nxp c37_law_lots "
    have l0 : stLst (s ++ [Ob.lst []]) s.length = some (rowD (upTo (wAt ts p) (F.take 0) c)) := stLst_last
    have K0 : Kp [s.length] s (s ++ [Ob.lst []]) := Kp.app
    have gs := K.1
    generalize s ++ [Ob.lst []] = s0 at *
    generalize hL : s.length = L at l0 K0 ⊢
    walk_at "nxp c37_law_lots "
    refine for_I (fun j e s' => (∃ x10 x11, e = [some W, some (frD p), some (.tup (rowD F)), some (.int ((0 + i : Nat) : Int)), some (.int t.1), some (.int t.2.1), some (.int t.2.2.1), some (.int t.2.2.2), some (.int c), some (.loc L), x10, x11, x12]) ∧ stLst s' L = some (rowD (upTo (wAt ts p) (F.take j) c)) ∧ Kp [L] s s') ⟨⟨_, _, rfl⟩, l0, K0⟩ ?_ ?_
    · rintro j x e s1 hx ⟨⟨x10, x11, rfl⟩, hl, K1⟩
      obtain ⟨o, ho, ex⟩ : ∃ o, F[j]? = some o ∧ x = .int ((o : Nat) : Int) := by
        unfold rowD at hx
        rw [List.getElem?_map, Option.map_eq_some_iff] at hx
        obtain ⟨i, h1, h2⟩ := hx
        exact ⟨i, h1, h2.symm⟩
      subst ex
      refine ⟨_, rfl, ?_⟩
      simp only [List.set_cons_succ, List.set_cons_zero]
      rw [tki j o ho]
      refine own (hF o (List.mem_of_getElem? ho)) hl (tli j) fun x11 s' h1 h2 => ?_
      exact ⟨⟨_, _, rfl⟩, h1, K1.trans h2⟩
    · rintro e s1 ⟨⟨x10, x11, rfl⟩, hl, K1⟩
      rw [rlF, List.take_length] at hl
      refine hK _ _ ?_
      obtain ⟨lm, s2, e2, h2, K2⟩ := lts L s1 hl
      walk_at "nxp c37_law_lots e2"
      walk_at "nxp c37_law_lots h2 b1 b2"
      (try simp only [ws_nil])
      exact ⟨⟨_, _, _, _, _, _, _, _, _, _, rfl⟩, K.trans ((K1.trans (K2.mono (by simp))).mono fun l hl => .inr (by rw [List.mem_singleton] at hl; omega))⟩
  · rintro e s ⟨⟨x3, x4, x5, x6, x7, x8, x9, x10, x11, x12, rfl⟩, K⟩
    refine hK _ _ ?_
    walk_at "nxp c37_law_lots "
    exact K
end K74
namespace K74
open PySem Ev
theorem law_forest_share_yes {n : Int} {ts : List Tie} {d : D} {st : Stt} (w : NetOk n ts) (sv : Sv ts) (ne : ts ≠ []) (hd : FShTold n.toNat ts d) : ∃ s, F_law_forest_share [webD n ts, d] st = .ok (.bl true) s ∧ Kp [] st s := by
  have main := ex_of_wp (m := F_law_forest_share [webD n ts, d] st) (P := fun x s => x = .bl true ∧ Kp [] st s) ?_
  · obtain ⟨_, s, e, rfl, h⟩ := main
    exact ⟨s, e, h⟩
  obtain ⟨r, rfl, hr, fb, opt⟩ := hd
  have ok := net_ts w
  have f := frst_of ok hr fb
  have n8 := w.hi
  have rl := frst_len f
  obtain ⟨L0, okp, z0, _⟩ := fshare_step (p := (0, 1)) w sv f ne
  have bd := netline w (r := r)
  have pw : 8000000 < 2 ^ 250 := by decide
  have hW : ∀ s, ixA (.d (webD n ts)) (.d (.int 1)) s = some (.d (.tup (ts.map tieD))) := fun s => rfl
  have e0 : ∀ s, eqB s (.d (.tup (ts.map tieD))) (.d (.tup [])) = some false := fun s => by
    cases ts with
    | nil => exact absurd rfl ne
    | cons t r => rfl
  obtain ⟨s1, e1, K1⟩ := law_is_forest_yes (st := st) w f (forB_rise ok hr fb)
  have e2 := law_sum_ok (ts := ts) (r := r) hr (by omega) s1
  have e3 := law_fraction_ok (a := (lineW ts r).1) (b := (lineW ts r).2) L0 (by omega) s1
  have eL : frD (lineW ts r) = .tup [.int (lineW ts r).1, .int (lineW ts r).2] := rfl
  have eS : frD (lowP (lineW ts r).1 (lineW ts r).2) = frD (shP (lineW ts r)) := rfl
  have eS2 : frD (shP (lineW ts r)) = .tup [.int (shP (lineW ts r)).1, .int (shP (lineW ts r)).2] := rfl
  have eP : frD (prS (shP (lineW ts r))) = .tup [.int (0 - (shP (lineW ts r)).1), .int (shP (lineW ts r)).2] := rfl
  obtain ⟨s2, e4, K2⟩ := law_least_forest_yes (st := s1) w okp.2.2 hr (by omega) opt
  obtain ⟨tx, ht⟩ : ∃ x, ∀ s, biA "repr" [.d (frD (shP (lineW ts r)))] s = .ok (.d (.str x)) s := by
    obtain ⟨f1, f2, f3, f4, f5⟩ := lowP_facts (p := (lineW ts r).1) L0
    have pw3 : (8000000 : Nat) < 10 ^ 40 := by decide +kernel
    have : Rp [] [] 170 30 1 600 (frD (shP (lineW ts r))) := .tup (k := 170) (by simp) (by
      simp only [List.mem_cons, List.not_mem_nil, or_false, forall_eq_or_imp, forall_eq]
      exact ⟨.int (by show (lowP (lineW ts r).1 (lineW ts r).2).1.natAbs < _; omega) (by decide), .int (by show (lowP (lineW ts r).1 (lineW ts r).2).2.natAbs < _; omega) (by decide)⟩) (by decide) (by simp)
    obtain ⟨x, h⟩ := (this.le (b' := 50) (m' := 30) (n' := 6) (k' := 900000) (by decide) (by decide) (by decide) (by decide)).text
    exact ⟨x, fun s => h s ⟨Nat.zero_le _, fun l _ q => absurd q (Nat.not_lt_zero _)⟩⟩
  have q1 : ∀ s, eqB s (.d (.str tx)) (.d (.str tx)) = some true := fun s => eq_ss2.trans (by rw [decide_eq_true rfl])
  have ix0 : ∀ a b s, ixA (.d (.tup [a, b])) (.d (.int 0)) s = some (.d a) := fun _ _ _ => rfl
  have ix1 : ∀ a b s, ixA (.d (.tup [a, b])) (.d (.int 1)) s = some (.d b) := fun _ _ _ => rfl
  rw [eS, eS2] at e3
  rw [eL] at e2
  rw [eS2] at ht
  rw [eP] at e4
  rw [eS2]
  have isT : ∀ xs : List D, isiA G38 s1 (.d (.tup xs)) ["tuple"] = some true := fun _ => rfl
  clear hr fb opt f rl okp z0 bd sv ne eS eS2 eP eL
  generalize (shP (lineW ts r)).1 = a at *
  generalize (shP (lineW ts r)).2 = b at *
  generalize (lineW ts r).1 = A at *
  generalize (lineW ts r).2 = B at *
  generalize rowD r = RD at *
  generalize webD n ts = W at *
  generalize ts.map tieD = TD at *
  unfold F_law_forest_share; refine evF_i rfl ?_
  walk_at "nxp c38_law_is_forest c38_law_sum c38_law_fraction c38_law_least_forest hW e0 e1"
  walk_at "nxp c38_law_is_forest c38_law_sum c38_law_fraction c38_law_least_forest hW e2"
  walk_at "nxp c38_law_is_forest c38_law_sum c38_law_fraction c38_law_least_forest e3"
  walk_at "nxp c38_law_is_forest c38_law_sum c38_law_fraction c38_law_least_forest ht q1 e4"
  exact K1.trans K2
end K74
namespace K74
open PySem Ev
theorem net_four : NetOk 4 [] := ⟨by decide, by decide, by decide, fun t ht => by cases ht⟩
theorem law_turn {d : D} {ns : List Int} {j : Nat} {s : Stt} {b2 b3 : Option D} (hd : lstOf s (.d d) = some (ns.map D.int)) (hi : j ≤ 100) :
    Ws (evSs G39 l_law_0 [some d, some (.int j), b2, b3] s) (fun e s' => ∃ a1 a2 a3, e = [some d, a1, a2, a3] ∧ Sub s s') (fun d _ => d = .bl true) (fun _ _ _ _ => False) := by
  refine ws_next ?_
  intro KK hK
  walk_at "ep c39_law_net c39_law_pot c39_least_forest_share c39_law_forest_share "
  refine wp_law_pot hd (by omega) (by omega) fun s1 P1 S1 => ?_
  generalize hp : s.length = p at *
  walk_at "ep c39_law_net c39_law_pot c39_least_forest_share c39_law_forest_share "
  refine wp_law_net P1 (by decide) (by decide) (by decide) (by decide) (by decide) fun n ts s2 w sv _ _ P2 K2 => ?_
  have S2 : Sub s s2 := S1.kp K2.kp1 (by simp; omega)
  (try refine hK _ _ ?_)
  have hW : ∀ s, ixA (.d (webD n ts)) (.d (.int 1)) s = some (.d (.tup (ts.map tieD))) := fun s => rfl
  have isn : ∀ s, cmpA .IsNot (.d .non) (.d .non) s = some false := fun s => rfl
  cases ts with
  | nil =>
    obtain ⟨s3, e3, K3⟩ := least_forest_share_none (st := s2) w
    have e0 : ∀ s, eqB s (.d (.tup ([].map tieD))) (.d (.tup [])) = some true := fun s => rfl
    generalize webD n [] = W at *
    walk_at "nxp c39_law_net c39_law_pot c39_least_forest_share c39_law_forest_share e3"
    walk_at "nxp c39_law_net c39_law_pot c39_least_forest_share c39_law_forest_share hW e0 isn"
    (try simp only [ws_nil])
    (try refine hK _ _ ?_)
    (try simp only [ws_nil])
    exact ⟨_, _, _, rfl, S2.kp K3 (by simp)⟩
  | cons t r =>
    obtain ⟨x, s3, e3, K3, told⟩ := least_forest_share_ok w sv (by simp) s2
    obtain ⟨s4, e4, K4⟩ := law_forest_share_yes (st := s3) w sv (by simp) told
    have e0 : ∀ s, eqB s (.d (.tup ((t :: r).map tieD))) (.d (.tup [])) = some false := fun s => rfl
    generalize webD n (t :: r) = W at *
    generalize (t :: r).map tieD = TD at *
    walk_at "nxp c39_law_net c39_law_pot c39_least_forest_share c39_law_forest_share e3"
    walk_at "nxp c39_law_net c39_law_pot c39_least_forest_share c39_law_forest_share hW e0"
    have h9 := hK
    walk_at "nxp c39_law_net c39_law_pot c39_least_forest_share c39_law_forest_share e4"
    (try simp only [ws_nil])
    (try refine h9 _ _ ?_)
    (try simp only [ws_nil])
    exact ⟨_, _, _, rfl, S2.kp (K3.trans K4) (by simp)⟩
theorem law_ok (d : D) (st : Stt) (ns : List Int) (h : lstOf st (.d d) = some (ns.map D.int)) (hl : ns.length ≤ 63) : ∃ st', F_law [d] st = .ok (.bl true) st' := by
  have hlen := scr_len h
  rw [List.length_map] at hlen
  have main : Wp (F_law [d] st) (fun d s => d = .bl true) (fun _ _ _ => False) := by
    unfold F_law; refine evF_i rfl ?_
    walk_at "nx c39_law_net c39_law_pot c39_least_forest_share c39_law_forest_share hlen"
    generalize hv : (if (12 : Int) < (ns.length : Int) then (12 : Int) else (ns.length : Int)) + 1 = v
    have hv2 : v ≤ 13 := by rw [← hv]; split <;> omega
    have hv0 : 0 ≤ v := by rw [← hv]; split <;> omega
    rw [if_pos (show rngOk v = true from decide_eq_true (by omega))]
    refine for_R (fun i e s => i ≤ 13 ∧ ∃ a1 a2 a3, e = [some d, a1, a2, a3] ∧ Sub st s) ⟨by decide, _, _, _, rfl, Sub.refl⟩ ?_ ?_
    · rintro i e s hi ⟨_, a1, a2, a3, rfl, S⟩
      refine ⟨by simp, ?_⟩
      simp only [List.set_cons_succ, List.set_cons_zero, Int.zero_add]
      refine ws_mono (law_turn (S.lst h) (by omega)) ?_ (fun _ _ h => h) (fun _ _ _ _ h => h)
      rintro e s' ⟨a1, a2, a3, rfl, S'⟩
      exact ⟨by omega, _, _, _, rfl, S.trans S'⟩
    · rintro e s ⟨_, a1, a2, a3, rfl, S⟩
      refine hK _ _ ?_
      obtain ⟨s1, e1, K1⟩ := least_forest_share_none (st := s) net_four
      have ew : webD 4 [] = .tup [.int 4, .tup []] := rfl
      rw [ew] at e1
      have isn : ∀ s, cmpA .Is (.d .non) (.d .non) s = some true := fun s => rfl
      refine ws_next ?_
      intro KK hK
      walk_at "ep c39_law_net c39_law_pot c39_least_forest_share c39_law_forest_share e1 isn"
      try rfl
  obtain ⟨a, s, h1, rfl⟩ := ex_of_wp main
  exact ⟨s, h1⟩
end K74
namespace K74
open PySem PySem.Spec PyProof.Rows L2 Ev
noncomputable def topS (i : Nat) : Stmt := PySem.Challenge.pw_tollmoves_k74_forest_shares.main.body.getD i (.Pass ⟨0, 0, 0, 0⟩)
theorem e_law_take : trDF none false 60 (["_law_pot_here", "_law_many", "_law_digit", "_law_one", "_law_other"] : List Str) G0.cl (topS 45) = b_law_take := by kernel_rfl!
theorem s_law_take : FnScope (["_law_pot_here", "_law_many", "_law_digit", "_law_one", "_law_other"] : List Str) (["_law_pot_here", "_law_many"] : List Str) (defScope (topS 45)) := scope_by (by decide +kernel)
theorem e_law_line : trDF none false 60 (["_law_pot_here", "_law_way", "_law_base", "_law_rise"] : List Str) G1.cl (topS 49) = b_law_line := by kernel_rfl!
theorem s_law_line : FnScope (["_law_pot_here", "_law_way", "_law_base", "_law_rise"] : List Str) (["_law_pot_here", "_law_way"] : List Str) (defScope (topS 49)) := scope_by (by decide +kernel)
theorem e_law_net : trDF none false 60 (["_law_pot_here", "_law_most", "_law_ties_most", "_law_shape", "_law_way", "_law_many", "_law_ties", "_law_k", "_law_one", "_law_other"] : List Str) G2.cl (topS 50) = b_law_net := by kernel_rfl!
theorem s_law_net : FnScope (["_law_pot_here", "_law_most", "_law_ties_most", "_law_shape", "_law_way", "_law_many", "_law_ties", "_law_k", "_law_one", "_law_other"] : List Str) (["_law_pot_here", "_law_most", "_law_ties_most"] : List Str) (defScope (topS 50)) := scope_by (by decide +kernel)
theorem e_law_pot : trDF none false 60 (["_law_script", "_law_k", "_law_cell"] : List Str) G3.cl (topS 44) = b_law_pot := by kernel_rfl!
theorem s_law_pot : FnScope (["_law_script", "_law_k", "_law_cell"] : List Str) (["_law_script", "_law_k"] : List Str) (defScope (topS 44)) := scope_by (by decide +kernel)
theorem e_is_whole : trDF none false 60 (["thing"] : List Str) G4.cl (topS 7) = b_is_whole := by kernel_rfl!
theorem s_is_whole : FnScope (["thing"] : List Str) (["thing"] : List Str) (defScope (topS 7)) := scope_by (by decide +kernel)
theorem e_are_wholes : trDF none false 60 (["thing", "many", ".0", "number"] : List Str) G5.cl (topS 8) = b_are_wholes := by kernel_rfl!
theorem s_are_wholes : FnScope (["thing", "many", ".0", "number"] : List Str) (["thing", "many"] : List Str) (defScope (topS 8)) := scope_by (by decide +kernel)
theorem e_is_both_ways : trDF none false 60 (["many", "thing"] : List Str) G6.cl (topS 27) = b_is_both_ways := by kernel_rfl!
theorem s_is_both_ways : FnScope (["many", "thing"] : List Str) (["many", "thing"] : List Str) (defScope (topS 27)) := scope_by (by decide +kernel)
theorem e_is_net : trDF none false 60 (["thing", "many", "ties", ".0", "tie"] : List Str) G7.cl (topS 28) = b_is_net := by kernel_rfl!
theorem s_is_net : FnScope (["thing", "many", "ties", ".0", "tie"] : List Str) (["thing"] : List Str) (defScope (topS 28)) := scope_by (by decide +kernel)
theorem e_need_net : trDF none false 60 (["thing"] : List Str) G8.cl (topS 29) = b_need_net := by kernel_rfl!
theorem s_need_net : FnScope (["thing"] : List Str) (["thing"] : List Str) (defScope (topS 29)) := scope_by (by decide +kernel)
theorem e_need_shares : trDF none false 60 (["lines", ".0", "base", "rise"] : List Str) G9.cl (topS 19) = b_need_shares := by kernel_rfl!
theorem s_need_shares : FnScope (["lines", ".0", "base", "rise"] : List Str) (["lines"] : List Str) (defScope (topS 19)) := scope_by (by decide +kernel)
theorem e_tie_lines : trDF none false 60 (["ties", ".0", "tie"] : List Str) G10.cl (topS 22) = b_tie_lines := by kernel_rfl!
theorem s_tie_lines : FnScope (["ties", ".0", "tie"] : List Str) (["ties"] : List Str) (defScope (topS 22)) := scope_by (by decide +kernel)
theorem e_divisor_of : trDF none false 60 (["one", "other"] : List Str) G11.cl (topS 9) = b_divisor_of := by kernel_rfl!
theorem s_divisor_of : FnScope (["one", "other"] : List Str) (["one", "other"] : List Str) (defScope (topS 9)) := scope_by (by decide +kernel)
theorem e_is_fraction : trDF none false 60 (["thing"] : List Str) G12.cl (topS 10) = b_is_fraction := by kernel_rfl!
theorem s_is_fraction : FnScope (["thing"] : List Str) (["thing"] : List Str) (defScope (topS 10)) := scope_by (by decide +kernel)
theorem e_need_price : trDF none false 60 (["thing"] : List Str) G13.cl (topS 11) = b_need_price := by kernel_rfl!
theorem s_need_price : FnScope (["thing"] : List Str) (["thing"] : List Str) (defScope (topS 11)) := scope_by (by decide +kernel)
theorem e_grown : trDF none false 60 (["net", "order", "marks", "found", "tie", "one", "other", ".0", "mark"] : List Str) G14.cl (topS 32) = b_grown := by kernel_rfl!
theorem s_grown : FnScope (["net", "order", "marks", "found", "tie", "one", "other", ".0", "mark"] : List Str) (["net", "order"] : List Str) (defScope (topS 32)) := scope_by (by decide +kernel)
theorem e_cheapest : trDF none true 60 (["net", "worths"] : List Str) G15.cl (topS 39) = b_cheapest := by kernel_rfl!
theorem s_cheapest : FnScope (["net", "worths"] : List Str) (["net", "worths"] : List Str) (defScope (topS 39)) := scope_by (by decide +kernel)
theorem e_weight : trDF none false 60 (["line", "price"] : List Str) G16.cl (topS 15) = b_weight := by kernel_rfl!
theorem s_weight : FnScope (["line", "price"] : List Str) (["line", "price"] : List Str) (defScope (topS 15)) := scope_by (by decide +kernel)
theorem e_worths_at : trDF none false 60 (["net", "price", ".0", "tie"] : List Str) G17.cl (topS 38) = b_worths_at := by kernel_rfl!
theorem s_worths_at : FnScope (["net", "price", ".0", "tie"] : List Str) (["net", "price"] : List Str) (defScope (topS 38)) := scope_by (by decide +kernel)
theorem e_least_forest : trDF none false 60 (["net", "price"] : List Str) G18.cl (topS 40) = b_least_forest := by kernel_rfl!
theorem s_least_forest : FnScope (["net", "price"] : List Str) (["net", "price"] : List Str) (defScope (topS 40)) := scope_by (by decide +kernel)
theorem e_lowest : trDF none false 60 (["p", "q", "by"] : List Str) G19.cl (topS 12) = b_lowest := by kernel_rfl!
theorem s_lowest : FnScope (["p", "q", "by"] : List Str) (["p", "q"] : List Str) (defScope (topS 12)) := scope_by (by decide +kernel)
theorem e_fraction_of : trDF none false 60 (["p", "q"] : List Str) G20.cl (topS 13) = b_fraction_of := by kernel_rfl!
theorem s_fraction_of : FnScope (["p", "q"] : List Str) (["p", "q"] : List Str) (defScope (topS 13)) := scope_by (by decide +kernel)
theorem e_share_of : trDF none false 60 (["line"] : List Str) G21.cl (topS 20) = b_share_of := by kernel_rfl!
theorem s_share_of : FnScope (["line"] : List Str) (["line"] : List Str) (defScope (topS 20)) := scope_by (by decide +kernel)
theorem e_is_tie_of : trDF none false 60 (["net", "thing"] : List Str) G22.cl (topS 30) = b_is_tie_of := by kernel_rfl!
theorem s_is_tie_of : FnScope (["net", "thing"] : List Str) (["net", "thing"] : List Str) (defScope (topS 30)) := scope_by (by decide +kernel)
theorem e_are_ties_of : trDF none false 60 (["net", "thing", ".0", "tie", "one", "other"] : List Str) G23.cl (topS 31) = b_are_ties_of := by kernel_rfl!
theorem s_are_ties_of : FnScope (["net", "thing", ".0", "tie", "one", "other"] : List Str) (["net", "thing"] : List Str) (defScope (topS 31)) := scope_by (by decide +kernel)
theorem e_is_forest_of : trDF none false 60 (["net", "thing"] : List Str) G24.cl (topS 33) = b_is_forest_of := by kernel_rfl!
theorem s_is_forest_of : FnScope (["net", "thing"] : List Str) (["net", "thing"] : List Str) (defScope (topS 33)) := scope_by (by decide +kernel)
theorem e_need_forest : trDF none false 60 (["net", "thing"] : List Str) G25.cl (topS 34) = b_need_forest := by kernel_rfl!
theorem s_need_forest : FnScope (["net", "thing"] : List Str) (["net", "thing"] : List Str) (defScope (topS 34)) := scope_by (by decide +kernel)
theorem e_sum_of : trDF none false 60 (["lines", ".0", "line"] : List Str) G26.cl (topS 17) = b_sum_of := by kernel_rfl!
theorem s_sum_of : FnScope (["lines", ".0", "line"] : List Str) (["lines"] : List Str) (defScope (topS 17)) := scope_by (by decide +kernel)
theorem e_line_of_forest : trDF none false 60 (["net", "forest", ".0", "tie"] : List Str) G27.cl (topS 35) = b_line_of_forest := by kernel_rfl!
theorem s_line_of_forest : FnScope (["net", "forest", ".0", "tie"] : List Str) (["net", "forest"] : List Str) (defScope (topS 35)) := scope_by (by decide +kernel)
theorem e_forest_line : trDF none false 60 (["net", "forest"] : List Str) G28.cl (topS 36) = b_forest_line := by kernel_rfl!
theorem s_forest_line : FnScope (["net", "forest"] : List Str) (["net", "forest"] : List Str) (defScope (topS 36)) := scope_by (by decide +kernel)
theorem e_price_of : trDF none false 60 (["share"] : List Str) G29.cl (topS 21) = b_price_of := by kernel_rfl!
theorem s_price_of : FnScope (["share"] : List Str) (["share"] : List Str) (defScope (topS 21)) := scope_by (by decide +kernel)
theorem e_worth : trDF none false 60 (["line", "price"] : List Str) G30.cl (topS 16) = b_worth := by kernel_rfl!
theorem s_worth : FnScope (["line", "price"] : List Str) (["line", "price"] : List Str) (defScope (topS 16)) := scope_by (by decide +kernel)
theorem e_least_forest_share : trDF none false 60 (["net", "forest", "share", "less"] : List Str) G31.cl (topS 42) = b_least_forest_share := by kernel_rfl!
theorem s_least_forest_share : FnScope (["net", "forest", "share", "less"] : List Str) (["net"] : List Str) (defScope (topS 42)) := scope_by (by decide +kernel)
theorem e_law_lots : trDF none false 60 (["_law_net_here", "_law_some", "_law_found", "_law_tie", "_law_one", "_law_other", ".0", "_law_house", "_law_lot"] : List Str) G32.cl (topS 51) = b_law_lots := by kernel_rfl!
theorem s_law_lots : FnScope (["_law_net_here", "_law_some", "_law_found", "_law_tie", "_law_one", "_law_other", ".0", "_law_house", "_law_lot"] : List Str) (["_law_net_here", "_law_some"] : List Str) (defScope (topS 51)) := scope_by (by decide +kernel)
theorem e_law_is_forest : trDF none false 60 (["_law_net_here", "_law_thing", "_law_k", "_law_tie", "_law_lots_here"] : List Str) G33.cl (topS 52) = b_law_is_forest := by kernel_rfl!
theorem s_law_is_forest : FnScope (["_law_net_here", "_law_thing", "_law_k", "_law_tie", "_law_lots_here"] : List Str) (["_law_net_here", "_law_thing"] : List Str) (defScope (topS 52)) := scope_by (by decide +kernel)
theorem e_law_sum : trDF none false 60 (["_law_ties", "_law_some", ".0", "_law_tie"] : List Str) G34.cl (topS 48) = b_law_sum := by kernel_rfl!
theorem s_law_sum : FnScope (["_law_ties", "_law_some", ".0", "_law_tie"] : List Str) (["_law_ties", "_law_some"] : List Str) (defScope (topS 48)) := scope_by (by decide +kernel)
theorem e_law_common : trDF none false 60 (["_law_one", "_law_other"] : List Str) G35.cl (topS 46) = b_law_common := by kernel_rfl!
theorem s_law_common : FnScope (["_law_one", "_law_other"] : List Str) (["_law_one", "_law_other"] : List Str) (defScope (topS 46)) := scope_by (by decide +kernel)
theorem e_law_fraction : trDF none false 60 (["_law_p", "_law_q", "_law_by"] : List Str) G36.cl (topS 47) = b_law_fraction := by kernel_rfl!
theorem s_law_fraction : FnScope (["_law_p", "_law_q", "_law_by"] : List Str) (["_law_p", "_law_q"] : List Str) (defScope (topS 47)) := scope_by (by decide +kernel)
theorem e_law_least_forest : trDF none false 60 (["_law_net_here", "_law_price", "_law_forest", "_law_tie", "_law_one", "_law_other", "_law_base", "_law_rise", "_law_most", "_law_some", "_law_own", "_law_line_here", "_law_lots_here"] : List Str) G37.cl (topS 53) = b_law_least_forest := by kernel_rfl!
theorem s_law_least_forest : FnScope (["_law_net_here", "_law_price", "_law_forest", "_law_tie", "_law_one", "_law_other", "_law_base", "_law_rise", "_law_most", "_law_some", "_law_own", "_law_line_here", "_law_lots_here"] : List Str) (["_law_net_here", "_law_price", "_law_forest"] : List Str) (defScope (topS 53)) := scope_by (by decide +kernel)
theorem e_law_forest_share : trDF none false 60 (["_law_net_here", "_law_thing", "_law_base", "_law_rise", "_law_p", "_law_q"] : List Str) G38.cl (topS 54) = b_law_forest_share := by kernel_rfl!
theorem s_law_forest_share : FnScope (["_law_net_here", "_law_thing", "_law_base", "_law_rise", "_law_p", "_law_q"] : List Str) (["_law_net_here", "_law_thing"] : List Str) (defScope (topS 54)) := scope_by (by decide +kernel)
theorem e_law : trDF none false 60 (["_law_script", "_law_k", "_law_net_here", "_law_told"] : List Str) G39.cl (topS 55) = b_law := by kernel_rfl!
theorem s_law : FnScope (["_law_script", "_law_k", "_law_net_here", "_law_told"] : List Str) (["_law_script"] : List Str) (defScope (topS 55)) := scope_by (by decide +kernel)
theorem all_mk {l : PySem.W.OpenLaw} {w : World} {K : PySem.W.Frag} {h : Heap} {mg : Str → Option Value} {fa : Addr} (X : K.In h) (G : h.Ns mainGlobals mg) (hfa : mg "law" = some (.ref fa))
    {f0 : Addr} {od0 an0 : Option Addr} {sl0 : Array (Option Value)} {oc0 kV0 dc0 pm0 cd0 ct0 : Value} (a0 : PySem.W.nsIn K mainGlobals "_law_take" = some (some (.ref f0))) (l0 : K.lookup f0 = some ⟨oc0, od0, .func (PySem.W.fnOf "_law_take" "_law_take" (defArgs (topS 45)) (defBody (topS 45)) (defScope (topS 45)) .none kV0 dc0 pm0 an0 cd0 ct0), sl0⟩) (c0 : PySem.W.codeIn K cd0 "_law_take" = true) (k0 : PySem.W.keepIn K (.ref f0) = true)
    {f1 : Addr} {od1 an1 : Option Addr} {sl1 : Array (Option Value)} {oc1 kV1 dc1 pm1 cd1 ct1 : Value} (a1 : PySem.W.nsIn K mainGlobals "_law_line" = some (some (.ref f1))) (l1 : K.lookup f1 = some ⟨oc1, od1, .func (PySem.W.fnOf "_law_line" "_law_line" (defArgs (topS 49)) (defBody (topS 49)) (defScope (topS 49)) .none kV1 dc1 pm1 an1 cd1 ct1), sl1⟩) (c1 : PySem.W.codeIn K cd1 "_law_line" = true) (k1 : PySem.W.keepIn K (.ref f1) = true)
    {f2 : Addr} {od2 an2 : Option Addr} {sl2 : Array (Option Value)} {oc2 kV2 dc2 pm2 cd2 ct2 : Value} (a2 : PySem.W.nsIn K mainGlobals "_law_net" = some (some (.ref f2))) (l2 : K.lookup f2 = some ⟨oc2, od2, .func (PySem.W.fnOf "_law_net" "_law_net" (defArgs (topS 50)) (defBody (topS 50)) (defScope (topS 50)) .none kV2 dc2 pm2 an2 cd2 ct2), sl2⟩) (c2 : PySem.W.codeIn K cd2 "_law_net" = true) (k2 : PySem.W.keepIn K (.ref f2) = true)
    {f3 : Addr} {od3 an3 : Option Addr} {sl3 : Array (Option Value)} {oc3 kV3 dc3 pm3 cd3 ct3 : Value} (a3 : PySem.W.nsIn K mainGlobals "_law_pot" = some (some (.ref f3))) (l3 : K.lookup f3 = some ⟨oc3, od3, .func (PySem.W.fnOf "_law_pot" "_law_pot" (defArgs (topS 44)) (defBody (topS 44)) (defScope (topS 44)) .none kV3 dc3 pm3 an3 cd3 ct3), sl3⟩) (c3 : PySem.W.codeIn K cd3 "_law_pot" = true) (k3 : PySem.W.keepIn K (.ref f3) = true)
    {f4 : Addr} {od4 an4 : Option Addr} {sl4 : Array (Option Value)} {oc4 kV4 dc4 pm4 cd4 ct4 : Value} (a4 : PySem.W.nsIn K mainGlobals "is_whole" = some (some (.ref f4))) (l4 : K.lookup f4 = some ⟨oc4, od4, .func (PySem.W.fnOf "is_whole" "is_whole" (defArgs (topS 7)) (defBody (topS 7)) (defScope (topS 7)) .none kV4 dc4 pm4 an4 cd4 ct4), sl4⟩) (c4 : PySem.W.codeIn K cd4 "is_whole" = true) (k4 : PySem.W.keepIn K (.ref f4) = true)
    {f5 : Addr} {od5 an5 : Option Addr} {sl5 : Array (Option Value)} {oc5 kV5 dc5 pm5 cd5 ct5 : Value} (a5 : PySem.W.nsIn K mainGlobals "are_wholes" = some (some (.ref f5))) (l5 : K.lookup f5 = some ⟨oc5, od5, .func (PySem.W.fnOf "are_wholes" "are_wholes" (defArgs (topS 8)) (defBody (topS 8)) (defScope (topS 8)) .none kV5 dc5 pm5 an5 cd5 ct5), sl5⟩) (c5 : PySem.W.codeIn K cd5 "are_wholes" = true) (k5 : PySem.W.keepIn K (.ref f5) = true)
    {f6 : Addr} {od6 an6 : Option Addr} {sl6 : Array (Option Value)} {oc6 kV6 dc6 pm6 cd6 ct6 : Value} (a6 : PySem.W.nsIn K mainGlobals "is_both_ways" = some (some (.ref f6))) (l6 : K.lookup f6 = some ⟨oc6, od6, .func (PySem.W.fnOf "is_both_ways" "is_both_ways" (defArgs (topS 27)) (defBody (topS 27)) (defScope (topS 27)) .none kV6 dc6 pm6 an6 cd6 ct6), sl6⟩) (c6 : PySem.W.codeIn K cd6 "is_both_ways" = true) (k6 : PySem.W.keepIn K (.ref f6) = true)
    {f7 : Addr} {od7 an7 : Option Addr} {sl7 : Array (Option Value)} {oc7 kV7 dc7 pm7 cd7 ct7 : Value} (a7 : PySem.W.nsIn K mainGlobals "is_net" = some (some (.ref f7))) (l7 : K.lookup f7 = some ⟨oc7, od7, .func (PySem.W.fnOf "is_net" "is_net" (defArgs (topS 28)) (defBody (topS 28)) (defScope (topS 28)) .none kV7 dc7 pm7 an7 cd7 ct7), sl7⟩) (c7 : PySem.W.codeIn K cd7 "is_net" = true) (k7 : PySem.W.keepIn K (.ref f7) = true)
    {f8 : Addr} {od8 an8 : Option Addr} {sl8 : Array (Option Value)} {oc8 kV8 dc8 pm8 cd8 ct8 : Value} (a8 : PySem.W.nsIn K mainGlobals "need_net" = some (some (.ref f8))) (l8 : K.lookup f8 = some ⟨oc8, od8, .func (PySem.W.fnOf "need_net" "need_net" (defArgs (topS 29)) (defBody (topS 29)) (defScope (topS 29)) .none kV8 dc8 pm8 an8 cd8 ct8), sl8⟩) (c8 : PySem.W.codeIn K cd8 "need_net" = true) (k8 : PySem.W.keepIn K (.ref f8) = true)
    {f9 : Addr} {od9 an9 : Option Addr} {sl9 : Array (Option Value)} {oc9 kV9 dc9 pm9 cd9 ct9 : Value} (a9 : PySem.W.nsIn K mainGlobals "need_shares" = some (some (.ref f9))) (l9 : K.lookup f9 = some ⟨oc9, od9, .func (PySem.W.fnOf "need_shares" "need_shares" (defArgs (topS 19)) (defBody (topS 19)) (defScope (topS 19)) .none kV9 dc9 pm9 an9 cd9 ct9), sl9⟩) (c9 : PySem.W.codeIn K cd9 "need_shares" = true) (k9 : PySem.W.keepIn K (.ref f9) = true)
    {f10 : Addr} {od10 an10 : Option Addr} {sl10 : Array (Option Value)} {oc10 kV10 dc10 pm10 cd10 ct10 : Value} (a10 : PySem.W.nsIn K mainGlobals "tie_lines" = some (some (.ref f10))) (l10 : K.lookup f10 = some ⟨oc10, od10, .func (PySem.W.fnOf "tie_lines" "tie_lines" (defArgs (topS 22)) (defBody (topS 22)) (defScope (topS 22)) .none kV10 dc10 pm10 an10 cd10 ct10), sl10⟩) (c10 : PySem.W.codeIn K cd10 "tie_lines" = true) (k10 : PySem.W.keepIn K (.ref f10) = true)
    {f11 : Addr} {od11 an11 : Option Addr} {sl11 : Array (Option Value)} {oc11 kV11 dc11 pm11 cd11 ct11 : Value} (a11 : PySem.W.nsIn K mainGlobals "divisor_of" = some (some (.ref f11))) (l11 : K.lookup f11 = some ⟨oc11, od11, .func (PySem.W.fnOf "divisor_of" "divisor_of" (defArgs (topS 9)) (defBody (topS 9)) (defScope (topS 9)) .none kV11 dc11 pm11 an11 cd11 ct11), sl11⟩) (c11 : PySem.W.codeIn K cd11 "divisor_of" = true) (k11 : PySem.W.keepIn K (.ref f11) = true)
    {f12 : Addr} {od12 an12 : Option Addr} {sl12 : Array (Option Value)} {oc12 kV12 dc12 pm12 cd12 ct12 : Value} (a12 : PySem.W.nsIn K mainGlobals "is_fraction" = some (some (.ref f12))) (l12 : K.lookup f12 = some ⟨oc12, od12, .func (PySem.W.fnOf "is_fraction" "is_fraction" (defArgs (topS 10)) (defBody (topS 10)) (defScope (topS 10)) .none kV12 dc12 pm12 an12 cd12 ct12), sl12⟩) (c12 : PySem.W.codeIn K cd12 "is_fraction" = true) (k12 : PySem.W.keepIn K (.ref f12) = true)
    {f13 : Addr} {od13 an13 : Option Addr} {sl13 : Array (Option Value)} {oc13 kV13 dc13 pm13 cd13 ct13 : Value} (a13 : PySem.W.nsIn K mainGlobals "need_price" = some (some (.ref f13))) (l13 : K.lookup f13 = some ⟨oc13, od13, .func (PySem.W.fnOf "need_price" "need_price" (defArgs (topS 11)) (defBody (topS 11)) (defScope (topS 11)) .none kV13 dc13 pm13 an13 cd13 ct13), sl13⟩) (c13 : PySem.W.codeIn K cd13 "need_price" = true) (k13 : PySem.W.keepIn K (.ref f13) = true)
    {f14 : Addr} {od14 an14 : Option Addr} {sl14 : Array (Option Value)} {oc14 kV14 dc14 pm14 cd14 ct14 : Value} (a14 : PySem.W.nsIn K mainGlobals "grown" = some (some (.ref f14))) (l14 : K.lookup f14 = some ⟨oc14, od14, .func (PySem.W.fnOf "grown" "grown" (defArgs (topS 32)) (defBody (topS 32)) (defScope (topS 32)) .none kV14 dc14 pm14 an14 cd14 ct14), sl14⟩) (c14 : PySem.W.codeIn K cd14 "grown" = true) (k14 : PySem.W.keepIn K (.ref f14) = true)
    {f15 : Addr} {od15 an15 : Option Addr} {sl15 : Array (Option Value)} {oc15 kV15 dc15 pm15 cd15 ct15 : Value} (a15 : PySem.W.nsIn K mainGlobals "cheapest" = some (some (.ref f15))) (l15 : K.lookup f15 = some ⟨oc15, od15, .func (PySem.W.fnOf "cheapest" "cheapest" (defArgs (topS 39)) (defBody (topS 39)) (defScope (topS 39)) .none kV15 dc15 pm15 an15 cd15 ct15), sl15⟩) (c15 : PySem.W.codeIn K cd15 "cheapest" = true) (k15 : PySem.W.keepIn K (.ref f15) = true)
    {f16 : Addr} {od16 an16 : Option Addr} {sl16 : Array (Option Value)} {oc16 kV16 dc16 pm16 cd16 ct16 : Value} (a16 : PySem.W.nsIn K mainGlobals "weight" = some (some (.ref f16))) (l16 : K.lookup f16 = some ⟨oc16, od16, .func (PySem.W.fnOf "weight" "weight" (defArgs (topS 15)) (defBody (topS 15)) (defScope (topS 15)) .none kV16 dc16 pm16 an16 cd16 ct16), sl16⟩) (c16 : PySem.W.codeIn K cd16 "weight" = true) (k16 : PySem.W.keepIn K (.ref f16) = true)
    {f17 : Addr} {od17 an17 : Option Addr} {sl17 : Array (Option Value)} {oc17 kV17 dc17 pm17 cd17 ct17 : Value} (a17 : PySem.W.nsIn K mainGlobals "worths_at" = some (some (.ref f17))) (l17 : K.lookup f17 = some ⟨oc17, od17, .func (PySem.W.fnOf "worths_at" "worths_at" (defArgs (topS 38)) (defBody (topS 38)) (defScope (topS 38)) .none kV17 dc17 pm17 an17 cd17 ct17), sl17⟩) (c17 : PySem.W.codeIn K cd17 "worths_at" = true) (k17 : PySem.W.keepIn K (.ref f17) = true)
    {f18 : Addr} {od18 an18 : Option Addr} {sl18 : Array (Option Value)} {oc18 kV18 dc18 pm18 cd18 ct18 : Value} (a18 : PySem.W.nsIn K mainGlobals "least_forest" = some (some (.ref f18))) (l18 : K.lookup f18 = some ⟨oc18, od18, .func (PySem.W.fnOf "least_forest" "least_forest" (defArgs (topS 40)) (defBody (topS 40)) (defScope (topS 40)) .none kV18 dc18 pm18 an18 cd18 ct18), sl18⟩) (c18 : PySem.W.codeIn K cd18 "least_forest" = true) (k18 : PySem.W.keepIn K (.ref f18) = true)
    {f19 : Addr} {od19 an19 : Option Addr} {sl19 : Array (Option Value)} {oc19 kV19 dc19 pm19 cd19 ct19 : Value} (a19 : PySem.W.nsIn K mainGlobals "lowest" = some (some (.ref f19))) (l19 : K.lookup f19 = some ⟨oc19, od19, .func (PySem.W.fnOf "lowest" "lowest" (defArgs (topS 12)) (defBody (topS 12)) (defScope (topS 12)) .none kV19 dc19 pm19 an19 cd19 ct19), sl19⟩) (c19 : PySem.W.codeIn K cd19 "lowest" = true) (k19 : PySem.W.keepIn K (.ref f19) = true)
    {f20 : Addr} {od20 an20 : Option Addr} {sl20 : Array (Option Value)} {oc20 kV20 dc20 pm20 cd20 ct20 : Value} (a20 : PySem.W.nsIn K mainGlobals "fraction_of" = some (some (.ref f20))) (l20 : K.lookup f20 = some ⟨oc20, od20, .func (PySem.W.fnOf "fraction_of" "fraction_of" (defArgs (topS 13)) (defBody (topS 13)) (defScope (topS 13)) .none kV20 dc20 pm20 an20 cd20 ct20), sl20⟩) (c20 : PySem.W.codeIn K cd20 "fraction_of" = true) (k20 : PySem.W.keepIn K (.ref f20) = true)
    {f21 : Addr} {od21 an21 : Option Addr} {sl21 : Array (Option Value)} {oc21 kV21 dc21 pm21 cd21 ct21 : Value} (a21 : PySem.W.nsIn K mainGlobals "share_of" = some (some (.ref f21))) (l21 : K.lookup f21 = some ⟨oc21, od21, .func (PySem.W.fnOf "share_of" "share_of" (defArgs (topS 20)) (defBody (topS 20)) (defScope (topS 20)) .none kV21 dc21 pm21 an21 cd21 ct21), sl21⟩) (c21 : PySem.W.codeIn K cd21 "share_of" = true) (k21 : PySem.W.keepIn K (.ref f21) = true)
    {f22 : Addr} {od22 an22 : Option Addr} {sl22 : Array (Option Value)} {oc22 kV22 dc22 pm22 cd22 ct22 : Value} (a22 : PySem.W.nsIn K mainGlobals "is_tie_of" = some (some (.ref f22))) (l22 : K.lookup f22 = some ⟨oc22, od22, .func (PySem.W.fnOf "is_tie_of" "is_tie_of" (defArgs (topS 30)) (defBody (topS 30)) (defScope (topS 30)) .none kV22 dc22 pm22 an22 cd22 ct22), sl22⟩) (c22 : PySem.W.codeIn K cd22 "is_tie_of" = true) (k22 : PySem.W.keepIn K (.ref f22) = true)
    {f23 : Addr} {od23 an23 : Option Addr} {sl23 : Array (Option Value)} {oc23 kV23 dc23 pm23 cd23 ct23 : Value} (a23 : PySem.W.nsIn K mainGlobals "are_ties_of" = some (some (.ref f23))) (l23 : K.lookup f23 = some ⟨oc23, od23, .func (PySem.W.fnOf "are_ties_of" "are_ties_of" (defArgs (topS 31)) (defBody (topS 31)) (defScope (topS 31)) .none kV23 dc23 pm23 an23 cd23 ct23), sl23⟩) (c23 : PySem.W.codeIn K cd23 "are_ties_of" = true) (k23 : PySem.W.keepIn K (.ref f23) = true)
    {f24 : Addr} {od24 an24 : Option Addr} {sl24 : Array (Option Value)} {oc24 kV24 dc24 pm24 cd24 ct24 : Value} (a24 : PySem.W.nsIn K mainGlobals "is_forest_of" = some (some (.ref f24))) (l24 : K.lookup f24 = some ⟨oc24, od24, .func (PySem.W.fnOf "is_forest_of" "is_forest_of" (defArgs (topS 33)) (defBody (topS 33)) (defScope (topS 33)) .none kV24 dc24 pm24 an24 cd24 ct24), sl24⟩) (c24 : PySem.W.codeIn K cd24 "is_forest_of" = true) (k24 : PySem.W.keepIn K (.ref f24) = true)
    {f25 : Addr} {od25 an25 : Option Addr} {sl25 : Array (Option Value)} {oc25 kV25 dc25 pm25 cd25 ct25 : Value} (a25 : PySem.W.nsIn K mainGlobals "need_forest" = some (some (.ref f25))) (l25 : K.lookup f25 = some ⟨oc25, od25, .func (PySem.W.fnOf "need_forest" "need_forest" (defArgs (topS 34)) (defBody (topS 34)) (defScope (topS 34)) .none kV25 dc25 pm25 an25 cd25 ct25), sl25⟩) (c25 : PySem.W.codeIn K cd25 "need_forest" = true) (k25 : PySem.W.keepIn K (.ref f25) = true)
    {f26 : Addr} {od26 an26 : Option Addr} {sl26 : Array (Option Value)} {oc26 kV26 dc26 pm26 cd26 ct26 : Value} (a26 : PySem.W.nsIn K mainGlobals "sum_of" = some (some (.ref f26))) (l26 : K.lookup f26 = some ⟨oc26, od26, .func (PySem.W.fnOf "sum_of" "sum_of" (defArgs (topS 17)) (defBody (topS 17)) (defScope (topS 17)) .none kV26 dc26 pm26 an26 cd26 ct26), sl26⟩) (c26 : PySem.W.codeIn K cd26 "sum_of" = true) (k26 : PySem.W.keepIn K (.ref f26) = true)
    {f27 : Addr} {od27 an27 : Option Addr} {sl27 : Array (Option Value)} {oc27 kV27 dc27 pm27 cd27 ct27 : Value} (a27 : PySem.W.nsIn K mainGlobals "line_of_forest" = some (some (.ref f27))) (l27 : K.lookup f27 = some ⟨oc27, od27, .func (PySem.W.fnOf "line_of_forest" "line_of_forest" (defArgs (topS 35)) (defBody (topS 35)) (defScope (topS 35)) .none kV27 dc27 pm27 an27 cd27 ct27), sl27⟩) (c27 : PySem.W.codeIn K cd27 "line_of_forest" = true) (k27 : PySem.W.keepIn K (.ref f27) = true)
    {f28 : Addr} {od28 an28 : Option Addr} {sl28 : Array (Option Value)} {oc28 kV28 dc28 pm28 cd28 ct28 : Value} (a28 : PySem.W.nsIn K mainGlobals "forest_line" = some (some (.ref f28))) (l28 : K.lookup f28 = some ⟨oc28, od28, .func (PySem.W.fnOf "forest_line" "forest_line" (defArgs (topS 36)) (defBody (topS 36)) (defScope (topS 36)) .none kV28 dc28 pm28 an28 cd28 ct28), sl28⟩) (c28 : PySem.W.codeIn K cd28 "forest_line" = true) (k28 : PySem.W.keepIn K (.ref f28) = true)
    {f29 : Addr} {od29 an29 : Option Addr} {sl29 : Array (Option Value)} {oc29 kV29 dc29 pm29 cd29 ct29 : Value} (a29 : PySem.W.nsIn K mainGlobals "price_of" = some (some (.ref f29))) (l29 : K.lookup f29 = some ⟨oc29, od29, .func (PySem.W.fnOf "price_of" "price_of" (defArgs (topS 21)) (defBody (topS 21)) (defScope (topS 21)) .none kV29 dc29 pm29 an29 cd29 ct29), sl29⟩) (c29 : PySem.W.codeIn K cd29 "price_of" = true) (k29 : PySem.W.keepIn K (.ref f29) = true)
    {f30 : Addr} {od30 an30 : Option Addr} {sl30 : Array (Option Value)} {oc30 kV30 dc30 pm30 cd30 ct30 : Value} (a30 : PySem.W.nsIn K mainGlobals "worth" = some (some (.ref f30))) (l30 : K.lookup f30 = some ⟨oc30, od30, .func (PySem.W.fnOf "worth" "worth" (defArgs (topS 16)) (defBody (topS 16)) (defScope (topS 16)) .none kV30 dc30 pm30 an30 cd30 ct30), sl30⟩) (c30 : PySem.W.codeIn K cd30 "worth" = true) (k30 : PySem.W.keepIn K (.ref f30) = true)
    {f31 : Addr} {od31 an31 : Option Addr} {sl31 : Array (Option Value)} {oc31 kV31 dc31 pm31 cd31 ct31 : Value} (a31 : PySem.W.nsIn K mainGlobals "least_forest_share" = some (some (.ref f31))) (l31 : K.lookup f31 = some ⟨oc31, od31, .func (PySem.W.fnOf "least_forest_share" "least_forest_share" (defArgs (topS 42)) (defBody (topS 42)) (defScope (topS 42)) .none kV31 dc31 pm31 an31 cd31 ct31), sl31⟩) (c31 : PySem.W.codeIn K cd31 "least_forest_share" = true) (k31 : PySem.W.keepIn K (.ref f31) = true)
    {f32 : Addr} {od32 an32 : Option Addr} {sl32 : Array (Option Value)} {oc32 kV32 dc32 pm32 cd32 ct32 : Value} (a32 : PySem.W.nsIn K mainGlobals "_law_lots" = some (some (.ref f32))) (l32 : K.lookup f32 = some ⟨oc32, od32, .func (PySem.W.fnOf "_law_lots" "_law_lots" (defArgs (topS 51)) (defBody (topS 51)) (defScope (topS 51)) .none kV32 dc32 pm32 an32 cd32 ct32), sl32⟩) (c32 : PySem.W.codeIn K cd32 "_law_lots" = true) (k32 : PySem.W.keepIn K (.ref f32) = true)
    {f33 : Addr} {od33 an33 : Option Addr} {sl33 : Array (Option Value)} {oc33 kV33 dc33 pm33 cd33 ct33 : Value} (a33 : PySem.W.nsIn K mainGlobals "_law_is_forest" = some (some (.ref f33))) (l33 : K.lookup f33 = some ⟨oc33, od33, .func (PySem.W.fnOf "_law_is_forest" "_law_is_forest" (defArgs (topS 52)) (defBody (topS 52)) (defScope (topS 52)) .none kV33 dc33 pm33 an33 cd33 ct33), sl33⟩) (c33 : PySem.W.codeIn K cd33 "_law_is_forest" = true) (k33 : PySem.W.keepIn K (.ref f33) = true)
    {f34 : Addr} {od34 an34 : Option Addr} {sl34 : Array (Option Value)} {oc34 kV34 dc34 pm34 cd34 ct34 : Value} (a34 : PySem.W.nsIn K mainGlobals "_law_sum" = some (some (.ref f34))) (l34 : K.lookup f34 = some ⟨oc34, od34, .func (PySem.W.fnOf "_law_sum" "_law_sum" (defArgs (topS 48)) (defBody (topS 48)) (defScope (topS 48)) .none kV34 dc34 pm34 an34 cd34 ct34), sl34⟩) (c34 : PySem.W.codeIn K cd34 "_law_sum" = true) (k34 : PySem.W.keepIn K (.ref f34) = true)
    {f35 : Addr} {od35 an35 : Option Addr} {sl35 : Array (Option Value)} {oc35 kV35 dc35 pm35 cd35 ct35 : Value} (a35 : PySem.W.nsIn K mainGlobals "_law_common" = some (some (.ref f35))) (l35 : K.lookup f35 = some ⟨oc35, od35, .func (PySem.W.fnOf "_law_common" "_law_common" (defArgs (topS 46)) (defBody (topS 46)) (defScope (topS 46)) .none kV35 dc35 pm35 an35 cd35 ct35), sl35⟩) (c35 : PySem.W.codeIn K cd35 "_law_common" = true) (k35 : PySem.W.keepIn K (.ref f35) = true)
    {f36 : Addr} {od36 an36 : Option Addr} {sl36 : Array (Option Value)} {oc36 kV36 dc36 pm36 cd36 ct36 : Value} (a36 : PySem.W.nsIn K mainGlobals "_law_fraction" = some (some (.ref f36))) (l36 : K.lookup f36 = some ⟨oc36, od36, .func (PySem.W.fnOf "_law_fraction" "_law_fraction" (defArgs (topS 47)) (defBody (topS 47)) (defScope (topS 47)) .none kV36 dc36 pm36 an36 cd36 ct36), sl36⟩) (c36 : PySem.W.codeIn K cd36 "_law_fraction" = true) (k36 : PySem.W.keepIn K (.ref f36) = true)
    {f37 : Addr} {od37 an37 : Option Addr} {sl37 : Array (Option Value)} {oc37 kV37 dc37 pm37 cd37 ct37 : Value} (a37 : PySem.W.nsIn K mainGlobals "_law_least_forest" = some (some (.ref f37))) (l37 : K.lookup f37 = some ⟨oc37, od37, .func (PySem.W.fnOf "_law_least_forest" "_law_least_forest" (defArgs (topS 53)) (defBody (topS 53)) (defScope (topS 53)) .none kV37 dc37 pm37 an37 cd37 ct37), sl37⟩) (c37 : PySem.W.codeIn K cd37 "_law_least_forest" = true) (k37 : PySem.W.keepIn K (.ref f37) = true)
    {f38 : Addr} {od38 an38 : Option Addr} {sl38 : Array (Option Value)} {oc38 kV38 dc38 pm38 cd38 ct38 : Value} (a38 : PySem.W.nsIn K mainGlobals "_law_forest_share" = some (some (.ref f38))) (l38 : K.lookup f38 = some ⟨oc38, od38, .func (PySem.W.fnOf "_law_forest_share" "_law_forest_share" (defArgs (topS 54)) (defBody (topS 54)) (defScope (topS 54)) .none kV38 dc38 pm38 an38 cd38 ct38), sl38⟩) (c38 : PySem.W.codeIn K cd38 "_law_forest_share" = true) (k38 : PySem.W.keepIn K (.ref f38) = true)
    {f39 : Addr} {od39 an39 : Option Addr} {sl39 : Array (Option Value)} {oc39 kV39 dc39 pm39 cd39 ct39 : Value} (a39 : PySem.W.nsIn K mainGlobals "law" = some (some (.ref f39))) (l39 : K.lookup f39 = some ⟨oc39, od39, .func (PySem.W.fnOf "law" "law" (defArgs (topS 55)) (defBody (topS 55)) (defScope (topS 55)) .none kV39 dc39 pm39 an39 cd39 ct39), sl39⟩) (c39 : PySem.W.codeIn K cd39 "law" = true) (k39 : PySem.W.keepIn K (.ref f39) = true)
    (Lz0 : PySem.W.nsIn K mainGlobals "least_of" = some none)
    (Lz1 : PySem.W.nsIn K mainGlobals "cheapest_of" = some none)
    (Lz2 : PySem.W.nsIn K mainGlobals "pieces_on" = some none)
    (Lz3 : PySem.W.nsIn K mainGlobals "moved_forests" = some none)
    (Lz4 : PySem.W.nsIn K mainGlobals "moved_joinings" = some none)
    (Lz5 : PySem.W.nsIn K mainGlobals "moved_cuts" = some none)
    (Lz6 : PySem.W.nsIn K mainGlobals "_law_good" = some none)
    (Lz7 : PySem.W.nsIn K mainGlobals "_law_none" = some none)
    {Lf8 Lc8 LP8 : Addr} {Lfd8 : FuncData} {Loc8 Lty8 : Value} {Lod8 Ldc8 : Option Addr} {Lsl8 Lsc8 : Array (Option Value)} {Lvs8 : Array Value} (La8 : PySem.W.nsIn K mainGlobals "law" = some (some (.ref Lf8))) (Ll8 : K.lookup Lf8 = some ⟨Loc8, Lod8, .func Lfd8, Lsl8⟩) (Le8 : Lfd8.code = .ref Lc8) (Lq8 : Lfd8.qualname = ("law" : Str)) (Lk8 : K.lookup Lc8 = some ⟨Lty8, Ldc8, .fields Lvs8, Lsc8⟩) (Lp8 : Lvs8[11]? = some (.ref LP8)) (Lh8 : PySem.W.codeHdIn K Lc8 LP8 = true) (Ln8 : K.lookup LP8 = none) (Lo8 : LamX.OwnTab K Lf8 h)
    {Lf9 Lc9 LP9 : Addr} {Lfd9 : FuncData} {Loc9 Lty9 : Value} {Lod9 Ldc9 : Option Addr} {Lsl9 Lsc9 : Array (Option Value)} {Lvs9 : Array Value} (La9 : PySem.W.nsIn K mainGlobals "cheapest" = some (some (.ref Lf9))) (Ll9 : K.lookup Lf9 = some ⟨Loc9, Lod9, .func Lfd9, Lsl9⟩) (Le9 : Lfd9.code = .ref Lc9) (Lq9 : Lfd9.qualname = ("cheapest" : Str)) (Lk9 : K.lookup Lc9 = some ⟨Lty9, Ldc9, .fields Lvs9, Lsc9⟩) (Lp9 : Lvs9[11]? = some (.ref LP9)) (Lh9 : PySem.W.codeHdIn K Lc9 LP9 = true) (Ln9 : K.lookup LP9 = none) (Lo9 : LamX.OwnTab K Lf9 h)
    (Lz10 : PySem.W.nsIn K mainGlobals "least_by" = some none)
    (Lz11 : PySem.W.nsIn K mainGlobals "_law_least" = some none)
    (Lz12 : PySem.W.nsIn K mainGlobals "_law_things" = some none)
    (Lz13 : PySem.W.nsIn K mainGlobals "_law_cheapest" = some none)
    (Lz14 : PySem.W.nsIn K mainGlobals "_law_some_least" = some none)
    (Lz15 : PySem.W.nsIn K mainGlobals "_law_others" = some none)
    (Lz16 : PySem.W.nsIn K mainGlobals "_law_odd_pieces" = some none)
    (Lne8_9 : LP8 ≠ LP9)
    (z0 : PySem.W.nsIn K mainGlobals "len" = some none)
    (z1 : PySem.W.nsIn K mainGlobals "all" = some none)
    (z2 : PySem.W.nsIn K mainGlobals "any" = some none)
    (z3 : PySem.W.nsIn K mainGlobals "sum" = some none)
    (z4 : PySem.W.nsIn K mainGlobals "abs" = some none)
    (z5 : PySem.W.nsIn K mainGlobals "max" = some none)
    (z6 : PySem.W.nsIn K mainGlobals "min" = some none)
    (z7 : PySem.W.nsIn K mainGlobals "int" = some none)
    (z8 : PySem.W.nsIn K mainGlobals "str" = some none)
    (z9 : PySem.W.nsIn K mainGlobals "list" = some none)
    (z10 : PySem.W.nsIn K mainGlobals "tuple" = some none)
    (z11 : PySem.W.nsIn K mainGlobals "bool" = some none)
    (z12 : PySem.W.nsIn K mainGlobals "dict" = some none)
    (z13 : PySem.W.nsIn K mainGlobals "isinstance" = some none)
    (z14 : PySem.W.nsIn K mainGlobals "range" = some none)
    (z15 : PySem.W.nsIn K mainGlobals "zip" = some none)
    (z16 : PySem.W.nsIn K mainGlobals "enumerate" = some none)
    (z17 : PySem.W.nsIn K mainGlobals "sorted" = some none)
    (z18 : PySem.W.nsIn K mainGlobals "set" = some none)
    (z19 : PySem.W.nsIn K mainGlobals "repr" = some none)
    (z20 : PySem.W.nsIn K mainGlobals "ValueError" = some none)
    (z21 : PySem.W.nsIn K mainGlobals "asked" = some none)
    (z22 : PySem.W.nsIn K mainGlobals "_law_call" = some none)
    {gt0 : Tok} (gv0 : PySem.W.nsIn K mainGlobals "MOST_NUMBER" = some (some (.int (1000000) gt0)))
    {gt1 : Tok} (gv1 : PySem.W.nsIn K mainGlobals "MOST_HOUSES" = some (some (.int (8) gt1)))
    {gt2 : Tok} (gv2 : PySem.W.nsIn K mainGlobals "MOST_TIES" = some (some (.int (20) gt2)))
    (hL : ∀ (d : D) (st : Stt) (ns : List Int), lstOf st (.d d) = some (ns.map D.int) → ns.length ≤ 63 → ∃ st', F_law [d] st = .ok (.bl true) st') :
    Ev.LawAtG l w K 43 63 "_law_script" mg fa h := by
  have lt : lamTabs K mg = [(LP8, lamNm "law"), (LP9, lamNm "cheapest")] := by
    have t0 := tabAt_no (K := K) (PySem.W.mg_none_of X G Lz0)
    have t1 := tabAt_no (K := K) (PySem.W.mg_none_of X G Lz1)
    have t2 := tabAt_no (K := K) (PySem.W.mg_none_of X G Lz2)
    have t3 := tabAt_no (K := K) (PySem.W.mg_none_of X G Lz3)
    have t4 := tabAt_no (K := K) (PySem.W.mg_none_of X G Lz4)
    have t5 := tabAt_no (K := K) (PySem.W.mg_none_of X G Lz5)
    have t6 := tabAt_no (K := K) (PySem.W.mg_none_of X G Lz6)
    have t7 := tabAt_no (K := K) (PySem.W.mg_none_of X G Lz7)
    have t8 := tabAt_of (PySem.W.mg_of X G La8) Ll8 Le8 Lq8 Lk8 Lp8
    have t9 := tabAt_of (PySem.W.mg_of X G La9) Ll9 Le9 Lq9 Lk9 Lp9
    have t10 := tabAt_no (K := K) (PySem.W.mg_none_of X G Lz10)
    have t11 := tabAt_no (K := K) (PySem.W.mg_none_of X G Lz11)
    have t12 := tabAt_no (K := K) (PySem.W.mg_none_of X G Lz12)
    have t13 := tabAt_no (K := K) (PySem.W.mg_none_of X G Lz13)
    have t14 := tabAt_no (K := K) (PySem.W.mg_none_of X G Lz14)
    have t15 := tabAt_no (K := K) (PySem.W.mg_none_of X G Lz15)
    have t16 := tabAt_no (K := K) (PySem.W.mg_none_of X G Lz16)
    simp only [lamTabs, lamDefs, List.filterMap_cons, List.filterMap_nil, t0, t1, t2, t3, t4, t5, t6, t7, t8, t9, t10, t11, t12, t13, t14, t15, t16]
  have Lone8 : ∀ z ∈ lamTabs K mg, z.1 = LP8 → z.2 = lamNm "law" := by
    rw [lt]; intro z hz e; simp only [List.mem_cons, List.not_mem_nil, or_false] at hz; rcases hz with rfl | rfl <;> first | exact absurd e Lne8_9 | exact absurd e.symm Lne8_9 | exact rfl
  have Lone9 : ∀ z ∈ lamTabs K mg, z.1 = LP9 → z.2 = lamNm "cheapest" := by
    rw [lt]; intro z hz e; simp only [List.mem_cons, List.not_mem_nil, or_false] at hz; rcases hz with rfl | rfl <;> first | exact absurd e Lne8_9 | exact absurd e.symm Lne8_9 | exact rfl
  let TBs : Heap → Prop := fun base => (∀ p ∈ ([(Lc8, LP8), (Lc9, LP9)] : List (Addr × Addr)), LamX.TabB base mg p.1 p.2) ∧ Ev.SmB base
  have bt : ∀ x ∈ Ev.allB, mg x = none := by
    intro x hx
    simp only [Ev.allB, List.mem_cons, List.not_mem_nil, or_false] at hx
    rcases hx with rfl | rfl | rfl | rfl | rfl | rfl | rfl | rfl | rfl | rfl | rfl | rfl | rfl | rfl | rfl | rfl | rfl | rfl | rfl | rfl | rfl | rfl | rfl
    · exact PySem.W.mg_none_of X G z0
    · exact PySem.W.mg_none_of X G z1
    · exact PySem.W.mg_none_of X G z2
    · exact PySem.W.mg_none_of X G z3
    · exact PySem.W.mg_none_of X G z4
    · exact PySem.W.mg_none_of X G z5
    · exact PySem.W.mg_none_of X G z6
    · exact PySem.W.mg_none_of X G z7
    · exact PySem.W.mg_none_of X G z8
    · exact PySem.W.mg_none_of X G z9
    · exact PySem.W.mg_none_of X G z10
    · exact PySem.W.mg_none_of X G z11
    · exact PySem.W.mg_none_of X G z12
    · exact PySem.W.mg_none_of X G z13
    · exact PySem.W.mg_none_of X G z14
    · exact PySem.W.mg_none_of X G z15
    · exact PySem.W.mg_none_of X G z16
    · exact PySem.W.mg_none_of X G z17
    · exact PySem.W.mg_none_of X G z18
    · exact PySem.W.mg_none_of X G z19
    · exact PySem.W.mg_none_of X G z20
    · exact PySem.W.mg_none_of X G z21
    · exact PySem.W.mg_none_of X G z22
  have F0 := fun_mk l0 c0 k0
  have B0 : Binds K _ (["_law_pot_here", "_law_many"] : List Str) [] := F0.binds fun _ _ _ _ _ _ us hl => match us, hl with | [_, _], _ => rfl
  have M0 := PySem.W.mg_of X G a0
  have F1 := fun_mk l1 c1 k1
  have B1 : Binds K _ (["_law_pot_here", "_law_way"] : List Str) [] := F1.binds fun _ _ _ _ _ _ us hl => match us, hl with | [_, _], _ => rfl
  have M1 := PySem.W.mg_of X G a1
  have F2 := fun_mk l2 c2 k2
  have B2 : Binds K _ (["_law_pot_here", "_law_most", "_law_ties_most"] : List Str) [] := F2.binds fun _ _ _ _ _ _ us hl => match us, hl with | [_, _, _], _ => rfl
  have M2 := PySem.W.mg_of X G a2
  have F3 := fun_mk l3 c3 k3
  have B3 : Binds K _ (["_law_script", "_law_k"] : List Str) [] := F3.binds fun _ _ _ _ _ _ us hl => match us, hl with | [_, _], _ => rfl
  have M3 := PySem.W.mg_of X G a3
  have F4 := fun_mk l4 c4 k4
  have B4 : Binds K _ (["thing"] : List Str) [] := F4.binds fun _ _ _ _ _ _ us hl => match us, hl with | [_], _ => rfl
  have M4 := PySem.W.mg_of X G a4
  have F5 := fun_mk l5 c5 k5
  have B5 : Binds K _ (["thing", "many"] : List Str) [] := F5.binds fun _ _ _ _ _ _ us hl => match us, hl with | [_, _], _ => rfl
  have M5 := PySem.W.mg_of X G a5
  have F6 := fun_mk l6 c6 k6
  have B6 : Binds K _ (["many", "thing"] : List Str) [] := F6.binds fun _ _ _ _ _ _ us hl => match us, hl with | [_, _], _ => rfl
  have M6 := PySem.W.mg_of X G a6
  have F7 := fun_mk l7 c7 k7
  have B7 : Binds K _ (["thing"] : List Str) [] := F7.binds fun _ _ _ _ _ _ us hl => match us, hl with | [_], _ => rfl
  have M7 := PySem.W.mg_of X G a7
  have F8 := fun_mk l8 c8 k8
  have B8 : Binds K _ (["thing"] : List Str) [] := F8.binds fun _ _ _ _ _ _ us hl => match us, hl with | [_], _ => rfl
  have M8 := PySem.W.mg_of X G a8
  have F9 := fun_mk l9 c9 k9
  have B9 : Binds K _ (["lines"] : List Str) [] := F9.binds fun _ _ _ _ _ _ us hl => match us, hl with | [_], _ => rfl
  have M9 := PySem.W.mg_of X G a9
  have F10 := fun_mk l10 c10 k10
  have B10 : Binds K _ (["ties"] : List Str) [] := F10.binds fun _ _ _ _ _ _ us hl => match us, hl with | [_], _ => rfl
  have M10 := PySem.W.mg_of X G a10
  have F11 := fun_mk l11 c11 k11
  have B11 : Binds K _ (["one", "other"] : List Str) [] := F11.binds fun _ _ _ _ _ _ us hl => match us, hl with | [_, _], _ => rfl
  have M11 := PySem.W.mg_of X G a11
  have F12 := fun_mk l12 c12 k12
  have B12 : Binds K _ (["thing"] : List Str) [] := F12.binds fun _ _ _ _ _ _ us hl => match us, hl with | [_], _ => rfl
  have M12 := PySem.W.mg_of X G a12
  have F13 := fun_mk l13 c13 k13
  have B13 : Binds K _ (["thing"] : List Str) [] := F13.binds fun _ _ _ _ _ _ us hl => match us, hl with | [_], _ => rfl
  have M13 := PySem.W.mg_of X G a13
  have F14 := fun_mk l14 c14 k14
  have B14 : Binds K _ (["net", "order"] : List Str) [] := F14.binds fun _ _ _ _ _ _ us hl => match us, hl with | [_, _], _ => rfl
  have M14 := PySem.W.mg_of X G a14
  have F15 := fun_mk l15 c15 k15
  have B15 : Binds K _ (["net", "worths"] : List Str) [] := F15.binds fun _ _ _ _ _ _ us hl => match us, hl with | [_, _], _ => rfl
  have M15 := PySem.W.mg_of X G a15
  have F16 := fun_mk l16 c16 k16
  have B16 : Binds K _ (["line", "price"] : List Str) [] := F16.binds fun _ _ _ _ _ _ us hl => match us, hl with | [_, _], _ => rfl
  have M16 := PySem.W.mg_of X G a16
  have F17 := fun_mk l17 c17 k17
  have B17 : Binds K _ (["net", "price"] : List Str) [] := F17.binds fun _ _ _ _ _ _ us hl => match us, hl with | [_, _], _ => rfl
  have M17 := PySem.W.mg_of X G a17
  have F18 := fun_mk l18 c18 k18
  have B18 : Binds K _ (["net", "price"] : List Str) [] := F18.binds fun _ _ _ _ _ _ us hl => match us, hl with | [_, _], _ => rfl
  have M18 := PySem.W.mg_of X G a18
  have F19 := fun_mk l19 c19 k19
  have B19 : Binds K _ (["p", "q"] : List Str) [] := F19.binds fun _ _ _ _ _ _ us hl => match us, hl with | [_, _], _ => rfl
  have M19 := PySem.W.mg_of X G a19
  have F20 := fun_mk l20 c20 k20
  have B20 : Binds K _ (["p", "q"] : List Str) [] := F20.binds fun _ _ _ _ _ _ us hl => match us, hl with | [_, _], _ => rfl
  have M20 := PySem.W.mg_of X G a20
  have F21 := fun_mk l21 c21 k21
  have B21 : Binds K _ (["line"] : List Str) [] := F21.binds fun _ _ _ _ _ _ us hl => match us, hl with | [_], _ => rfl
  have M21 := PySem.W.mg_of X G a21
  have F22 := fun_mk l22 c22 k22
  have B22 : Binds K _ (["net", "thing"] : List Str) [] := F22.binds fun _ _ _ _ _ _ us hl => match us, hl with | [_, _], _ => rfl
  have M22 := PySem.W.mg_of X G a22
  have F23 := fun_mk l23 c23 k23
  have B23 : Binds K _ (["net", "thing"] : List Str) [] := F23.binds fun _ _ _ _ _ _ us hl => match us, hl with | [_, _], _ => rfl
  have M23 := PySem.W.mg_of X G a23
  have F24 := fun_mk l24 c24 k24
  have B24 : Binds K _ (["net", "thing"] : List Str) [] := F24.binds fun _ _ _ _ _ _ us hl => match us, hl with | [_, _], _ => rfl
  have M24 := PySem.W.mg_of X G a24
  have F25 := fun_mk l25 c25 k25
  have B25 : Binds K _ (["net", "thing"] : List Str) [] := F25.binds fun _ _ _ _ _ _ us hl => match us, hl with | [_, _], _ => rfl
  have M25 := PySem.W.mg_of X G a25
  have F26 := fun_mk l26 c26 k26
  have B26 : Binds K _ (["lines"] : List Str) [] := F26.binds fun _ _ _ _ _ _ us hl => match us, hl with | [_], _ => rfl
  have M26 := PySem.W.mg_of X G a26
  have F27 := fun_mk l27 c27 k27
  have B27 : Binds K _ (["net", "forest"] : List Str) [] := F27.binds fun _ _ _ _ _ _ us hl => match us, hl with | [_, _], _ => rfl
  have M27 := PySem.W.mg_of X G a27
  have F28 := fun_mk l28 c28 k28
  have B28 : Binds K _ (["net", "forest"] : List Str) [] := F28.binds fun _ _ _ _ _ _ us hl => match us, hl with | [_, _], _ => rfl
  have M28 := PySem.W.mg_of X G a28
  have F29 := fun_mk l29 c29 k29
  have B29 : Binds K _ (["share"] : List Str) [] := F29.binds fun _ _ _ _ _ _ us hl => match us, hl with | [_], _ => rfl
  have M29 := PySem.W.mg_of X G a29
  have F30 := fun_mk l30 c30 k30
  have B30 : Binds K _ (["line", "price"] : List Str) [] := F30.binds fun _ _ _ _ _ _ us hl => match us, hl with | [_, _], _ => rfl
  have M30 := PySem.W.mg_of X G a30
  have F31 := fun_mk l31 c31 k31
  have B31 : Binds K _ (["net"] : List Str) [] := F31.binds fun _ _ _ _ _ _ us hl => match us, hl with | [_], _ => rfl
  have M31 := PySem.W.mg_of X G a31
  have F32 := fun_mk l32 c32 k32
  have B32 : Binds K _ (["_law_net_here", "_law_some"] : List Str) [] := F32.binds fun _ _ _ _ _ _ us hl => match us, hl with | [_, _], _ => rfl
  have M32 := PySem.W.mg_of X G a32
  have F33 := fun_mk l33 c33 k33
  have B33 : Binds K _ (["_law_net_here", "_law_thing"] : List Str) [] := F33.binds fun _ _ _ _ _ _ us hl => match us, hl with | [_, _], _ => rfl
  have M33 := PySem.W.mg_of X G a33
  have F34 := fun_mk l34 c34 k34
  have B34 : Binds K _ (["_law_ties", "_law_some"] : List Str) [] := F34.binds fun _ _ _ _ _ _ us hl => match us, hl with | [_, _], _ => rfl
  have M34 := PySem.W.mg_of X G a34
  have F35 := fun_mk l35 c35 k35
  have B35 : Binds K _ (["_law_one", "_law_other"] : List Str) [] := F35.binds fun _ _ _ _ _ _ us hl => match us, hl with | [_, _], _ => rfl
  have M35 := PySem.W.mg_of X G a35
  have F36 := fun_mk l36 c36 k36
  have B36 : Binds K _ (["_law_p", "_law_q"] : List Str) [] := F36.binds fun _ _ _ _ _ _ us hl => match us, hl with | [_, _], _ => rfl
  have M36 := PySem.W.mg_of X G a36
  have F37 := fun_mk l37 c37 k37
  have B37 : Binds K _ (["_law_net_here", "_law_price", "_law_forest"] : List Str) [] := F37.binds fun _ _ _ _ _ _ us hl => match us, hl with | [_, _, _], _ => rfl
  have M37 := PySem.W.mg_of X G a37
  have F38 := fun_mk l38 c38 k38
  have B38 : Binds K _ (["_law_net_here", "_law_thing"] : List Str) [] := F38.binds fun _ _ _ _ _ _ us hl => match us, hl with | [_, _], _ => rfl
  have M38 := PySem.W.mg_of X G a38
  have F39 := fun_mk l39 c39 k39
  have B39 : Binds K _ (["_law_script"] : List Str) [] := F39.binds fun _ _ _ _ _ _ us hl => match us, hl with | [_], _ => rfl
  have M39 := PySem.W.mg_of X G a39
  have gk0 : ∀ base : Heap, TBs base → GOk l.prog w K mg base 0 G0 := fun base tb => GOk.gcs (t := [("MOST_NUMBER", 1000000), ("MOST_HOUSES", 8), ("MOST_TIES", 20)]) (GOk.base0 bt tb.2) ⟨⟨_, PySem.W.mg_of X G gv0⟩, ⟨_, PySem.W.mg_of X G gv1⟩, ⟨_, PySem.W.mg_of X G gv2⟩, trivial⟩
  have gk1 : ∀ base : Heap, TBs base → GOk l.prog w K mg base 1 G1 := fun base tb => (gk0 base tb).add F0 s_law_take 60 "_law_take" M0 B0 e_law_take
  have gk2 : ∀ base : Heap, TBs base → GOk l.prog w K mg base 2 G2 := fun base tb => (gk1 base tb).add F1 s_law_line 60 "_law_line" M1 B1 e_law_line
  have gk3 : ∀ base : Heap, TBs base → GOk l.prog w K mg base 3 G3 := fun base tb => (gk2 base tb).add F2 s_law_net 60 "_law_net" M2 B2 e_law_net
  have gk4 : ∀ base : Heap, TBs base → GOk l.prog w K mg base 4 G4 := fun base tb => (gk3 base tb).add F3 s_law_pot 60 "_law_pot" M3 B3 e_law_pot
  have gk5 : ∀ base : Heap, TBs base → GOk l.prog w K mg base 5 G5 := fun base tb => (gk4 base tb).add F4 s_is_whole 60 "is_whole" M4 B4 e_is_whole
  have gk6 : ∀ base : Heap, TBs base → GOk l.prog w K mg base 6 G6 := fun base tb => (gk5 base tb).add F5 s_are_wholes 60 "are_wholes" M5 B5 e_are_wholes
  have gk7 : ∀ base : Heap, TBs base → GOk l.prog w K mg base 7 G7 := fun base tb => (gk6 base tb).add F6 s_is_both_ways 60 "is_both_ways" M6 B6 e_is_both_ways
  have gk8 : ∀ base : Heap, TBs base → GOk l.prog w K mg base 8 G8 := fun base tb => (gk7 base tb).add F7 s_is_net 60 "is_net" M7 B7 e_is_net
  have gk9 : ∀ base : Heap, TBs base → GOk l.prog w K mg base 9 G9 := fun base tb => (gk8 base tb).add F8 s_need_net 60 "need_net" M8 B8 e_need_net
  have gk10 : ∀ base : Heap, TBs base → GOk l.prog w K mg base 10 G10 := fun base tb => (gk9 base tb).add F9 s_need_shares 60 "need_shares" M9 B9 e_need_shares
  have gk11 : ∀ base : Heap, TBs base → GOk l.prog w K mg base 11 G11 := fun base tb => (gk10 base tb).add F10 s_tie_lines 60 "tie_lines" M10 B10 e_tie_lines
  have gk12 : ∀ base : Heap, TBs base → GOk l.prog w K mg base 12 G12 := fun base tb => (gk11 base tb).add F11 s_divisor_of 60 "divisor_of" M11 B11 e_divisor_of
  have gk13 : ∀ base : Heap, TBs base → GOk l.prog w K mg base 13 G13 := fun base tb => (gk12 base tb).add F12 s_is_fraction 60 "is_fraction" M12 B12 e_is_fraction
  have gk14 : ∀ base : Heap, TBs base → GOk l.prog w K mg base 14 G14 := fun base tb => (gk13 base tb).add F13 s_need_price 60 "need_price" M13 B13 e_need_price
  have gk15 : ∀ base : Heap, TBs base → GOk l.prog w K mg base 15 G15 := fun base tb => (gk14 base tb).add F14 s_grown 60 "grown" M14 B14 e_grown
  have gk16 : ∀ base : Heap, TBs base → GOk l.prog w K mg base 18 G16 := fun base tb => (gk15 base tb).addL F15 s_cheapest (tabD_of La9 a15 Ll9 Le9 l15 (tb.1 (Lc9, LP9) (by simp)) (by rw [lt]; simp) Lone9) 60 "cheapest" M15 B15 e_cheapest
  have gk17 : ∀ base : Heap, TBs base → GOk l.prog w K mg base 19 G17 := fun base tb => (gk16 base tb).add F16 s_weight 60 "weight" M16 B16 e_weight
  have gk18 : ∀ base : Heap, TBs base → GOk l.prog w K mg base 20 G18 := fun base tb => (gk17 base tb).add F17 s_worths_at 60 "worths_at" M17 B17 e_worths_at
  have gk19 : ∀ base : Heap, TBs base → GOk l.prog w K mg base 21 G19 := fun base tb => (gk18 base tb).add F18 s_least_forest 60 "least_forest" M18 B18 e_least_forest
  have gk20 : ∀ base : Heap, TBs base → GOk l.prog w K mg base 22 G20 := fun base tb => (gk19 base tb).add F19 s_lowest 60 "lowest" M19 B19 e_lowest
  have gk21 : ∀ base : Heap, TBs base → GOk l.prog w K mg base 23 G21 := fun base tb => (gk20 base tb).add F20 s_fraction_of 60 "fraction_of" M20 B20 e_fraction_of
  have gk22 : ∀ base : Heap, TBs base → GOk l.prog w K mg base 24 G22 := fun base tb => (gk21 base tb).add F21 s_share_of 60 "share_of" M21 B21 e_share_of
  have gk23 : ∀ base : Heap, TBs base → GOk l.prog w K mg base 25 G23 := fun base tb => (gk22 base tb).add F22 s_is_tie_of 60 "is_tie_of" M22 B22 e_is_tie_of
  have gk24 : ∀ base : Heap, TBs base → GOk l.prog w K mg base 26 G24 := fun base tb => (gk23 base tb).add F23 s_are_ties_of 60 "are_ties_of" M23 B23 e_are_ties_of
  have gk25 : ∀ base : Heap, TBs base → GOk l.prog w K mg base 27 G25 := fun base tb => (gk24 base tb).add F24 s_is_forest_of 60 "is_forest_of" M24 B24 e_is_forest_of
  have gk26 : ∀ base : Heap, TBs base → GOk l.prog w K mg base 28 G26 := fun base tb => (gk25 base tb).add F25 s_need_forest 60 "need_forest" M25 B25 e_need_forest
  have gk27 : ∀ base : Heap, TBs base → GOk l.prog w K mg base 29 G27 := fun base tb => (gk26 base tb).add F26 s_sum_of 60 "sum_of" M26 B26 e_sum_of
  have gk28 : ∀ base : Heap, TBs base → GOk l.prog w K mg base 30 G28 := fun base tb => (gk27 base tb).add F27 s_line_of_forest 60 "line_of_forest" M27 B27 e_line_of_forest
  have gk29 : ∀ base : Heap, TBs base → GOk l.prog w K mg base 31 G29 := fun base tb => (gk28 base tb).add F28 s_forest_line 60 "forest_line" M28 B28 e_forest_line
  have gk30 : ∀ base : Heap, TBs base → GOk l.prog w K mg base 32 G30 := fun base tb => (gk29 base tb).add F29 s_price_of 60 "price_of" M29 B29 e_price_of
  have gk31 : ∀ base : Heap, TBs base → GOk l.prog w K mg base 33 G31 := fun base tb => (gk30 base tb).add F30 s_worth 60 "worth" M30 B30 e_worth
  have gk32 : ∀ base : Heap, TBs base → GOk l.prog w K mg base 34 G32 := fun base tb => (gk31 base tb).add F31 s_least_forest_share 60 "least_forest_share" M31 B31 e_least_forest_share
  have gk33 : ∀ base : Heap, TBs base → GOk l.prog w K mg base 35 G33 := fun base tb => (gk32 base tb).add F32 s_law_lots 60 "_law_lots" M32 B32 e_law_lots
  have gk34 : ∀ base : Heap, TBs base → GOk l.prog w K mg base 36 G34 := fun base tb => (gk33 base tb).add F33 s_law_is_forest 60 "_law_is_forest" M33 B33 e_law_is_forest
  have gk35 : ∀ base : Heap, TBs base → GOk l.prog w K mg base 37 G35 := fun base tb => (gk34 base tb).add F34 s_law_sum 60 "_law_sum" M34 B34 e_law_sum
  have gk36 : ∀ base : Heap, TBs base → GOk l.prog w K mg base 38 G36 := fun base tb => (gk35 base tb).add F35 s_law_common 60 "_law_common" M35 B35 e_law_common
  have gk37 : ∀ base : Heap, TBs base → GOk l.prog w K mg base 39 G37 := fun base tb => (gk36 base tb).add F36 s_law_fraction 60 "_law_fraction" M36 B36 e_law_fraction
  have gk38 : ∀ base : Heap, TBs base → GOk l.prog w K mg base 40 G38 := fun base tb => (gk37 base tb).add F37 s_law_least_forest 60 "_law_least_forest" M37 B37 e_law_least_forest
  have gk39 : ∀ base : Heap, TBs base → GOk l.prog w K mg base 41 G39 := fun base tb => (gk38 base tb).add F38 s_law_forest_share 60 "_law_forest_share" M38 B38 e_law_forest_share
  have gk40 : ∀ base : Heap, TBs base → GOk l.prog w K mg base 42 G40 := fun base tb => (gk39 base tb).add F39 s_law 60 "law" M39 B39 e_law
  rw [M39] at hfa
  cases hfa
  have q : ∀ base : Heap, K.In base → base.Ns mainGlobals mg → (∀ p ∈ ([(Lc8, LP8), (Lc9, LP9)] : List (Addr × Addr)), LamX.TabB base mg p.1 p.2) → Ev.SmB base → FnG l.prog w K mg base 43 fa _ ["_law_script"] (spLaw K mg) := fun base _ _ tb sm => by
    have q := fn_ev F39 s_law (gk39 base ⟨tb, sm⟩) 60
    have el := e_law
    rw [show trD 60 (["_law_script", "_law_k", "_law_net_here", "_law_told"] : List Str) G39.cl (topS 55) = b_law from el] at q
    exact (q.mono (by decide)).weak (law_sp hL)
  refine lawAt_of X [(Lc8, LP8), (Lc9, LP9)] ?_ ?_ ?_ q
  · rw [lt]; intro z hz; simp only [List.mem_cons, List.not_mem_nil, or_false] at hz; rcases hz with rfl | rfl
    · exact ⟨(Lc8, LP8), by simp, rfl⟩
    · exact ⟨(Lc9, LP9), by simp, rfl⟩
  · intro p hp; simp only [List.mem_cons, List.not_mem_nil, or_false] at hp; rcases hp with rfl | rfl
    · exact ⟨empty_of Lo8 Ll8 Le8 Lk8 Lp8, Ln8, Lh8⟩
    · exact ⟨empty_of Lo9 Ll9 Le9 Lk9 Lp9, Ln9, Lh9⟩
  · exact fun s v => BindsTo.of_eq rfl
end K74
open PySem PySem.W PyProof.Rows
set_option maxHeartbeats 0 in
theorem PySem.Challenge.cw_tollmoves_k74_forest_shares_holds : PySem.Challenge.rw_tollmoves_k74_forest_shares.Holds := by
  w_on; o_law; k_head; (case hw => w_witness2)
  k_fill
  refine Ev.walk_ofL (l := PySem.Challenge.rw_tollmoves_k74_forest_shares) (n := 63) (k := 43) (x := "_law_script") (by kernel_rfl!) rfl (by decide) rfl ⟨⟨rfl, by decide, by decide⟩, rfl⟩ (fun w h Y => by first | exact PySem.W.kIn_of Y | exact PySem.W.km_in_of Y) ?F
  case F =>
    intro w mg fa h YY KX G hmg own
    refine' K74.all_mk KX G hmg ?a0 ?l0 ?c0 ?k0 ?a1 ?l1 ?c1 ?k1 ?a2 ?l2 ?c2 ?k2 ?a3 ?l3 ?c3 ?k3 ?a4 ?l4 ?c4 ?k4 ?a5 ?l5 ?c5 ?k5 ?a6 ?l6 ?c6 ?k6 ?a7 ?l7 ?c7 ?k7 ?a8 ?l8 ?c8 ?k8 ?a9 ?l9 ?c9 ?k9 ?a10 ?l10 ?c10 ?k10 ?a11 ?l11 ?c11 ?k11 ?a12 ?l12 ?c12 ?k12 ?a13 ?l13 ?c13 ?k13 ?a14 ?l14 ?c14 ?k14 ?a15 ?l15 ?c15 ?k15 ?a16 ?l16 ?c16 ?k16 ?a17 ?l17 ?c17 ?k17 ?a18 ?l18 ?c18 ?k18 ?a19 ?l19 ?c19 ?k19 ?a20 ?l20 ?c20 ?k20 ?a21 ?l21 ?c21 ?k21 ?a22 ?l22 ?c22 ?k22 ?a23 ?l23 ?c23 ?k23 ?a24 ?l24 ?c24 ?k24 ?a25 ?l25 ?c25 ?k25 ?a26 ?l26 ?c26 ?k26 ?a27 ?l27 ?c27 ?k27 ?a28 ?l28 ?c28 ?k28 ?a29 ?l29 ?c29 ?k29 ?a30 ?l30 ?c30 ?k30 ?a31 ?l31 ?c31 ?k31 ?a32 ?l32 ?c32 ?k32 ?a33 ?l33 ?c33 ?k33 ?a34 ?l34 ?c34 ?k34 ?a35 ?l35 ?c35 ?k35 ?a36 ?l36 ?c36 ?k36 ?a37 ?l37 ?c37 ?k37 ?a38 ?l38 ?c38 ?k38 ?a39 ?l39 ?c39 ?k39 ?Lz0 ?Lz1 ?Lz2 ?Lz3 ?Lz4 ?Lz5 ?Lz6 ?Lz7 ?La8 ?Ll8 ?Le8 ?Lq8 ?Lk8 ?Lp8 ?Lh8 ?Ln8 ?Lo8 ?La9 ?Ll9 ?Le9 ?Lq9 ?Lk9 ?Lp9 ?Lh9 ?Ln9 ?Lo9 ?Lz10 ?Lz11 ?Lz12 ?Lz13 ?Lz14 ?Lz15 ?Lz16 ?Lne8_9 ?z0 ?z1 ?z2 ?z3 ?z4 ?z5 ?z6 ?z7 ?z8 ?z9 ?z10 ?z11 ?z12 ?z13 ?z14 ?z15 ?z16 ?z17 ?z18 ?z19 ?z20 ?z21 ?z22 ?gv0 ?gv1 ?gv2 K74.law_ok
    (case a0 => k_is)
    (case l0 => k_is)
    (case c0 => k_is)
    (case k0 => k_is)
    (case a1 => k_is)
    (case l1 => k_is)
    (case c1 => k_is)
    (case k1 => k_is)
    (case a2 => k_is)
    (case l2 => k_is)
    (case c2 => k_is)
    (case k2 => k_is)
    (case a3 => k_is)
    (case l3 => k_is)
    (case c3 => k_is)
    (case k3 => k_is)
    (case a4 => k_is)
    (case l4 => k_is)
    (case c4 => k_is)
    (case k4 => k_is)
    (case a5 => k_is)
    (case l5 => k_is)
    (case c5 => k_is)
    (case k5 => k_is)
    (case a6 => k_is)
    (case l6 => k_is)
    (case c6 => k_is)
    (case k6 => k_is)
    (case a7 => k_is)
    (case l7 => k_is)
    (case c7 => k_is)
    (case k7 => k_is)
    (case a8 => k_is)
    (case l8 => k_is)
    (case c8 => k_is)
    (case k8 => k_is)
    (case a9 => k_is)
    (case l9 => k_is)
    (case c9 => k_is)
    (case k9 => k_is)
    (case a10 => k_is)
    (case l10 => k_is)
    (case c10 => k_is)
    (case k10 => k_is)
    (case a11 => k_is)
    (case l11 => k_is)
    (case c11 => k_is)
    (case k11 => k_is)
    (case a12 => k_is)
    (case l12 => k_is)
    (case c12 => k_is)
    (case k12 => k_is)
    (case a13 => k_is)
    (case l13 => k_is)
    (case c13 => k_is)
    (case k13 => k_is)
    (case a14 => k_is)
    (case l14 => k_is)
    (case c14 => k_is)
    (case k14 => k_is)
    (case a15 => k_is)
    (case l15 => k_is)
    (case c15 => k_is)
    (case k15 => k_is)
    (case a16 => k_is)
    (case l16 => k_is)
    (case c16 => k_is)
    (case k16 => k_is)
    (case a17 => k_is)
    (case l17 => k_is)
    (case c17 => k_is)
    (case k17 => k_is)
    (case a18 => k_is)
    (case l18 => k_is)
    (case c18 => k_is)
    (case k18 => k_is)
    (case a19 => k_is)
    (case l19 => k_is)
    (case c19 => k_is)
    (case k19 => k_is)
    (case a20 => k_is)
    (case l20 => k_is)
    (case c20 => k_is)
    (case k20 => k_is)
    (case a21 => k_is)
    (case l21 => k_is)
    (case c21 => k_is)
    (case k21 => k_is)
    (case a22 => k_is)
    (case l22 => k_is)
    (case c22 => k_is)
    (case k22 => k_is)
    (case a23 => k_is)
    (case l23 => k_is)
    (case c23 => k_is)
    (case k23 => k_is)
    (case a24 => k_is)
    (case l24 => k_is)
    (case c24 => k_is)
    (case k24 => k_is)
    (case a25 => k_is)
    (case l25 => k_is)
    (case c25 => k_is)
    (case k25 => k_is)
    (case a26 => k_is)
    (case l26 => k_is)
    (case c26 => k_is)
    (case k26 => k_is)
    (case a27 => k_is)
    (case l27 => k_is)
    (case c27 => k_is)
    (case k27 => k_is)
    (case a28 => k_is)
    (case l28 => k_is)
    (case c28 => k_is)
    (case k28 => k_is)
    (case a29 => k_is)
    (case l29 => k_is)
    (case c29 => k_is)
    (case k29 => k_is)
    (case a30 => k_is)
    (case l30 => k_is)
    (case c30 => k_is)
    (case k30 => k_is)
    (case a31 => k_is)
    (case l31 => k_is)
    (case c31 => k_is)
    (case k31 => k_is)
    (case a32 => k_is)
    (case l32 => k_is)
    (case c32 => k_is)
    (case k32 => k_is)
    (case a33 => k_is)
    (case l33 => k_is)
    (case c33 => k_is)
    (case k33 => k_is)
    (case a34 => k_is)
    (case l34 => k_is)
    (case c34 => k_is)
    (case k34 => k_is)
    (case a35 => k_is)
    (case l35 => k_is)
    (case c35 => k_is)
    (case k35 => k_is)
    (case a36 => k_is)
    (case l36 => k_is)
    (case c36 => k_is)
    (case k36 => k_is)
    (case a37 => k_is)
    (case l37 => k_is)
    (case c37 => k_is)
    (case k37 => k_is)
    (case a38 => k_is)
    (case l38 => k_is)
    (case c38 => k_is)
    (case k38 => k_is)
    (case a39 => k_is)
    (case l39 => k_is)
    (case c39 => k_is)
    (case k39 => k_is)
    (case Lz0 => k_is)
    (case Lz1 => k_is)
    (case Lz2 => k_is)
    (case Lz3 => k_is)
    (case Lz4 => k_is)
    (case Lz5 => k_is)
    (case Lz6 => k_is)
    (case Lz7 => k_is)
    (case La8 => k_is)
    (case Ll8 => k_is)
    (case Le8 => exact rfl)
    (case Lq8 => kernel_rfl!)
    (case Lk8 => k_is)
    (case Lp8 => exact rfl)
    (case Lh8 => kernel_rfl!)
    (case Ln8 => kernel_rfl!)
    (case Lo8 => exact own "law" _ (by kernel_rfl!) (PySem.W.mg_of KX G (by k_is)))
    (case La9 => k_is)
    (case Ll9 => k_is)
    (case Le9 => exact rfl)
    (case Lq9 => kernel_rfl!)
    (case Lk9 => k_is)
    (case Lp9 => exact rfl)
    (case Lh9 => kernel_rfl!)
    (case Ln9 => kernel_rfl!)
    (case Lo9 => exact own "cheapest" _ (by kernel_rfl!) (PySem.W.mg_of KX G (by k_is)))
    (case Lz10 => k_is)
    (case Lz11 => k_is)
    (case Lz12 => k_is)
    (case Lz13 => k_is)
    (case Lz14 => k_is)
    (case Lz15 => k_is)
    (case Lz16 => k_is)
    (case Lne8_9 => decide)
    (case z0 => k_is)
    (case z1 => k_is)
    (case z2 => k_is)
    (case z3 => k_is)
    (case z4 => k_is)
    (case z5 => k_is)
    (case z6 => k_is)
    (case z7 => k_is)
    (case z8 => k_is)
    (case z9 => k_is)
    (case z10 => k_is)
    (case z11 => k_is)
    (case z12 => k_is)
    (case z13 => k_is)
    (case z14 => k_is)
    (case z15 => k_is)
    (case z16 => k_is)
    (case z17 => k_is)
    (case z18 => k_is)
    (case z19 => k_is)
    (case z20 => k_is)
    (case z21 => k_is)
    (case z22 => k_is)
    (case gv0 => k_is)
    (case gv1 => k_is)
    (case gv2 => k_is)
