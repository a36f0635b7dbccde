import PyProof.Rows.All
import Wide.All
import OpenK.AllK
import Wide.FinOn
import KE.KIsAll
import KE.RegKIsAll
import HandS.ForMost
import HandS.Wide
import HandS.TupAny
import HandS.Deep
import HandS.IsInst
import HandS.Style
import HandS.ExcIs
import HandS.ExcOwn
import HandS.ExcInit
import PyProof.Rows.IntBool
import HandS.More
import PyProof.RowDictHeap
import HandS.Conv
import HandS.NoneIn
import HandS.Zip
import KE.GoesMore
import KE.KExcIs
import HandS.ExcValue
import HandS.ExcField
import HandS.Codes
import HandS.DictComp
import HandS.TryOnly
import HandS.EndBits
import HandS.Text
import PyProof.StrLawsRepr
import PyProof.StrCaseBound
import PySem.Challenge.RW_pawldials_k56_refusals_made_of_their_fie
set_option Elab.async false
set_option autoImplicit false
set_option maxRecDepth 100000
set_option linter.all false
namespace Mi
open PySem L2
/-- values: scalars and tuples by what they are; lists, dicts by the number of their cell -/
inductive D where
  | non | bl (b : Bool) | int (i : Int) | str (x : Str) | tup (ds : List D) | ref (n : Nat) | sta (v : V)
  deriving Inhabited
inductive Cell where
  | lst (ds : List D)
  | frz (ds : List D)
  | dK (kvs : List (Key × D))
  | dT (kvs : List (List Key × D))
  | ins (C : Addr) (fs : List (Str × D))
  | exc (x : Str)
  | exv (x f : Str) (d : D)
abbrev Store := List Cell
abbrev Lcs := List (Option D)
/-- a refusal: its class by number, its field -/
structure Exn where
  cls : Str
inductive R (α : Type) where
  | ok (a : α) (S : Store)
  | exc (x : Exn) (S : Store)
  | bad
def R.bind {α β : Type} (r : R α) (f : α → Store → R β) : R β :=
  match r with
  | .ok a S => f a S
  | .exc x S => .exc x S
  | .bad => .bad
@[simp] theorem R.bind_ok {α β : Type} (a : α) (S : Store) (f : α → Store → R β) : (R.ok a S).bind f = f a S := rfl
@[simp] theorem R.bind_exc {α β : Type} (x : Exn) (S : Store) (f : α → Store → R β) : (R.exc x S : R α).bind f = .exc x S := rfl
@[simp] theorem R.bind_bad {α β : Type} (f : α → Store → R β) : (R.bad : R α).bind f = .bad := rfl
/-- behind a body: what an expression let out is no result -/
def R.bindB {α β : Type} (r : R α) (f : α → Store → R β) : R β :=
  match r with
  | .ok a S => f a S
  | .exc _ _ => .bad
  | .bad => .bad
@[simp] theorem R.bindB_ok {α β : Type} (a : α) (S : Store) (f : α → Store → R β) : (R.ok a S).bindB f = f a S := rfl
@[simp] theorem R.bindB_exc {α β : Type} (x : Exn) (S : Store) (f : α → Store → R β) : (R.exc x S : R α).bindB f = .bad := rfl
@[simp] theorem R.bindB_bad {α β : Type} (f : α → Store → R β) : (R.bad : R α).bindB f = .bad := rfl
mutual
/-- all cells named are below n -/
def D.lt (n : Nat) : D → Bool
  | .ref m => decide (m < n)
  | .tup ds => D.ltAll n ds
  | .non => true
  | .bl _ => true
  | .int _ => true
  | .str _ => true
  | .sta _ => true
def D.ltAll (n : Nat) : List D → Bool
  | [] => true
  | d :: ds => D.lt n d && D.ltAll n ds
end
def Cell.lt (n : Nat) : Cell → Bool
  | .lst ds => D.ltAll n ds
  | .frz ds => D.ltAll n ds
  | .dK kvs => D.ltAll n (kvs.map (·.2))
  | .dT kvs => D.ltAll n (kvs.map (·.2))
  | .ins _ fs => D.ltAll n (fs.map (·.2))
  | .exc _ => true
  | .exv _ _ d => D.lt n d
/-- each cell below n is as it was, or names cells below n alone -/
def Keep (S S' : Store) : Prop := S.length ≤ S'.length ∧ ∀ (i : Nat) (c : Cell), i < S.length → S'[i]? = some c → S[i]? = some c ∨ c.lt S.length = true
open Classical in
/-- behind an expression that began at S: new cells are dropped, where nothing that stays names them -/
noncomputable def gc (S : Store) (d : D) (S' : Store) : R D :=
  if d.lt S.length = true ∧ Keep S S' then .ok d (S'.take S.length)
  else match d with
    | .ref k => match S'[k]? with
      | some c => if S.length ≤ k ∧ c.lt S.length = true ∧ Keep S S' then .ok (.ref S.length) (S'.take S.length ++ [c]) else .ok d S'
      | none => .ok d S'
    | _ => .ok d S'
noncomputable def R.gc (r : R D) (S : Store) : R D := r.bind fun d S' => Mi.gc S d S'
@[simp] theorem R.gc_ok (d : D) (S S' : Store) : (R.ok d S').gc S = Mi.gc S d S' := rfl
@[simp] theorem R.gc_bad (S : Store) : (R.bad : R D).gc S = .bad := rfl
@[simp] theorem R.gc_exc (x : Exn) (S S' : Store) : (R.exc x S' : R D).gc S = .exc x S' := rfl
/-- built-in functions and types that are called -/
inductive Bi where
  | len | isi | abs | min | max | sum | all | any | list | tuple | str | int | repr | sorted | dict | bool
  deriving DecidableEq
/-- methods of built-in types -/
inductive Mt where
  | append | pop | insert | extend | join | upper | get | index | remove | count | update | split | partition | clear | reverse
  deriving DecidableEq
inductive CT where
  | nm (i : Nat) | tp (ts : List CT)
mutual
inductive CE where
  | cst (d : D) | loc (i : Nat) | glb (x : Nat)
  | bin (op : Operator) (a b : CE) | neg (a : CE) | not (a : CE)
  | and (a b : CE) | or (a b : CE) | cmp (op : CmpOp) (a b : CE) | chn (p q : CmpOp) (a b c : CE) | ite (c a b : CE)
  | tup (as : CA) | lst (as : CA) | dct (as : CA)
  | idx (a b : CE) | slc (a : CE) (lo : Bool) (x : CE) (hi : Bool) (y : CE) | rev (a : CE)
  | call (f : Nat) (as : CA) | bi (f : Bi) (as : CA) | mth (m : Mt) (o : CE) (as : CA)
  | lc (vs : List Nat) (t : CT) (it : CI) (c : CE) (e : CE) | isx (e : CE) (tab : List (Str × Bool))
  | dc (vs : List Nat) (t : CT) (it : CI) (c : CE) (k v : CE)
  | mkx (x : Str) | mkf (x f : Str) (e : CE) | fld (e : CE) (f : Str)
inductive CA where
  | nil | cons (e : CE) (r : CA)
inductive CI where
  | val (e : CE) | rng (as : CA) | enu (e : CE) | zip (a b : CE) | items (e : CE)
end
inductive CSs where
  | nil
  | asg (t : CT) (e : CE) (r : CSs) | aug (i : Nat) (op : Operator) (e : CE) (r : CSs) | sub (o i e : CE) (r : CSs)
  | exp (e : CE) (r : CSs) | ret (e : CE) | ifs (c : CE) (a b : CSs) (r : CSs) | for_ (t : CT) (it : CI) (b : CSs) (r : CSs) | whl (c : CE) (b : CSs) (r : CSs)
  | brk | cont | nev
  | raise (x : Str) | xexp (f : Nat) (as : CA) (r : CSs) | tryR (f : Nat) (as : CA) (i j : Nat) (xs : List Str) (r : CSs)
def keyOf : D → Option Key
  | .int i => some (.inl i)
  | .str x => some (.inr x)
  | _ => none
def keyD : Key → D
  | .inl i => .int i
  | .inr x => .str x
def keyPy : Key → PyData
  | .inl i => .int i
  | .inr x => .str x
def allSome {α : Type} : List (Option α) → Option (List α)
  | [] => some []
  | none :: _ => none
  | some a :: r => (allSome r).map (a :: ·)
/-- what stands there, as Python data (to a depth) -/
def toPy : Nat → Store → D → Option PyData
  | _, _, .non => some .none
  | _, _, .bl b => some (.bool b)
  | _, _, .int i => some (.int i)
  | _, _, .str x => some (.str x)
  | k + 1, S, .tup ds => (allSome (ds.map (toPy k S))).map .tuple
  | k + 1, S, .ref n => match S[n]? with
    | some (.lst ds) => (allSome (ds.map (toPy k S))).map .list
    | some (.frz ds) => (allSome (ds.map (toPy k S))).map .list
    | some (.dK kvs) => (allSome (kvs.map fun kv => toPy k S kv.2)).map fun ps => .dict ((kvs.map fun kv => keyPy kv.1).zip ps)
    | _ => none
  | 0, _, .tup _ => none
  | 0, _, .ref _ => none
  | _, _, .sta _ => none
abbrev py (S : Store) (d : D) : Option PyData := toPy 50 S d
def okIf (b : Bool) (d : D) (S : Store) : R D := if b then .ok d S else .bad
/-- a new cell -/
def newC (c : Cell) (S : Store) : R D := .ok (.ref S.length) (S ++ [c])
/-- the items of a list -/
def lstAt (S : Store) : D → Option (List D)
  | .ref n => match S[n]? with
    | some (.lst ds) => some ds
    | some (.frz ds) => some ds
    | _ => none
  | _ => none
def seqAt (S : Store) (d : D) : Option (List D) := match d with
  | .tup ds => some ds
  | _ => lstAt S d
instance (i j : Int) : Decidable (CMul i j) := by unfold CMul; infer_instance
instance (i j : Int) : Decidable (CMulW i j) := by unfold CMulW; infer_instance
instance (i j : Int) : Decidable (CDivW i j) := by unfold CDivW; infer_instance
instance (i j : Int) : Decidable (CPow i j) := by unfold CPow; infer_instance
def sizeOk (n : Nat) : Bool := decide (n ≤ sizeLine)
def binD : Operator → D → D → Store → R D
  | .Add, .int i, .int j, S => .ok (.int (i + j)) S
  | .Add, .bl b, .int j, S => .ok (.int ((if b = true then 1 else 0) + j)) S
  | .Sub, .bl b, .int j, S => .ok (.int ((if b = true then 1 else 0) - j)) S
  | .Sub, .int i, .bl b, S => .ok (.int (i - if b = true then 1 else 0)) S
  | .Add, .str x, .str y, S => okIf (sizeOk (x.length + y.length)) (.str (x ++ y)) S
  | .Add, .tup xs, .tup ys, S => okIf (sizeOk (xs.length + ys.length)) (.tup (xs ++ ys)) S
  | .Add, .ref m, .ref n, S => match S[m]?, S[n]? with
    | some (.lst xs), some (.lst ys) => if sizeOk (xs.length + ys.length) then newC (.lst (xs ++ ys)) S else .bad
    | _, _ => .bad
  | .Sub, .int i, .int j, S => .ok (.int (i - j)) S
  | .Mult, .int i, .int j, S => okIf (decide (CMul i j) || decide (CMulW i j)) (.int (i * j)) S
  | .Mult, .ref m, .int j, S => match S[m]? with
    | some (.lst xs) => if decide (0 ≤ j) && decide (j < 2 ^ 63) && sizeOk (xs.length * j.toNat) then newC (.lst (List.flatten (List.replicate j.toNat xs))) S else .bad
    | _ => .bad
  | .FloorDiv, .int i, .int j, S => okIf (decide (CDivW i j)) (.int (i / j)) S
  | .Mod, .int i, .int j, S => okIf (decide (0 < j)) (.int (i % j)) S
  | .Pow, .int i, .int j, S => okIf (decide (CPow i j)) (.int (i ^ j.toNat)) S
  | _, _, _, _ => .bad
/-- == of data -/
def eqD (S : Store) (a b : D) : Option Bool := match py S a, py S b with
  | some p, some q => if SeqAt.shaped p && SeqAt.shaped q then some (PyData.eqv p q) else none
  | _, _ => none
/-- a list beside an empty one -/
def nilB (S : Store) : D → D → Option Bool
  | .ref n, .ref m => match S[n]?, S[m]? with
    | some (.lst ds), some (.lst []) => some ds.isEmpty
    | _, _ => none
  | _, _ => none
def eqX (S : Store) (a b : D) : Option Bool := match nilB S a b with
  | some r => some r
  | none => eqD S a b
/-- x in a list or tuple of data -/
def inD (S : Store) (x : D) (ds : List D) : Option Bool := match py S x, allSome (ds.map (toPy 49 S)) with
  | some p, some qs => if SeqAt.shaped p && SeqAt.shaped (.list qs) then some (qs.any fun q => PyData.eqv q p) else none
  | _, _ => none
def lookK {κ : Type} [DecidableEq κ] (kvs : List (κ × D)) (k : κ) : Option D := (kvs.find? fun p => decide (p.1 = k)).map (·.2)
def ofB (o : Option Bool) (S : Store) : R D := match o with
  | some b => .ok (.bl b) S
  | none => .bad
def hasD (x y : D) (S : Store) : Option Bool := match x, y with
  | .str c, .str z => match c.cps.toList with
    | [s] => some (decide (s ∈ z.cps.toList))
    | _ => none
  | x, .tup ds => inD S x ds
  | x, .ref n => match S[n]? with
    | some (.lst ds) => inD S x ds
    | some (.frz ds) => inD S x ds
    | some (.dK kvs) => (keyOf x).map fun k => (lookK kvs k).isSome
    | _ => none
  | _, _ => none
def cmpD : CmpOp → D → D → Store → R D
  | .Eq, a, b, S => ofB (eqX S a b) S
  | .NotEq, a, b, S => ofB ((eqD S a b).map (!·)) S
  | .Lt, .int i, .int j, S => .ok (.bl (decide (i < j))) S
  | .LtE, .int i, .int j, S => .ok (.bl (decide (i ≤ j))) S
  | .Gt, .int i, .int j, S => .ok (.bl (decide (j < i))) S
  | .GtE, .int i, .int j, S => .ok (.bl (decide (j ≤ i))) S
  | .Lt, .str i, .str j, S => .ok (.bl (decide (i.cps.toList < j.cps.toList))) S
  | .LtE, .str i, .str j, S => .ok (.bl (!decide (j.cps.toList < i.cps.toList))) S
  | .Gt, .str i, .str j, S => .ok (.bl (decide (j.cps.toList < i.cps.toList))) S
  | .GtE, .str i, .str j, S => .ok (.bl (!decide (i.cps.toList < j.cps.toList))) S
  | .Is, .non, .non, S => .ok (.bl true) S
  | .Is, .bl a, .bl b, S => .ok (.bl (decide (a = b))) S
  | .Is, .bl _, .non, S => .ok (.bl false) S
  | .Is, .int _, .non, S => .ok (.bl false) S
  | .Is, .str _, .non, S => .ok (.bl false) S
  | .Is, .tup _, .non, S => .ok (.bl false) S
  | .Is, .ref _, .non, S => .ok (.bl false) S
  | .IsNot, .non, .non, S => .ok (.bl false) S
  | .IsNot, .bl a, .bl b, S => .ok (.bl (!decide (a = b))) S
  | .IsNot, .bl _, .non, S => .ok (.bl true) S
  | .IsNot, .int _, .non, S => .ok (.bl true) S
  | .IsNot, .str _, .non, S => .ok (.bl true) S
  | .IsNot, .tup _, .non, S => .ok (.bl true) S
  | .IsNot, .ref _, .non, S => .ok (.bl true) S
  | .In, x, y, S => ofB (hasD x y S) S
  | .NotIn, x, y, S => ofB ((hasD x y S).map (!·)) S
  | _, _, _, _ => .bad
/-- in place -/
def augD : Operator → D → D → Store → R D
  | .Add, .int i, .int j, S => .ok (.int (i + j)) S
  | .Sub, .int i, .int j, S => .ok (.int (i - j)) S
  | .Add, .ref m, .ref n, S => match S[m]?, S[n]? with
    | some (.lst xs), some (.lst ys) => if sizeOk (xs.length + ys.length) then .ok (.ref m) (S.set m (.lst (xs ++ ys))) else .bad
    | _, _ => .bad
  | _, _, _, _ => .bad
def negD : D → Store → R D
  | .int i, S => .ok (.int (-i)) S
  | _, _ => .bad
/-- by a truth -/
def ifB {α : Type} (d : D) (x y : R α) : R α := match d with
  | .bl b => if b = true then x else y
  | _ => .bad
@[simp] theorem ifB_bl {α : Type} (b : Bool) (x y : R α) : ifB (.bl b) x y = if b = true then x else y := rfl
def optR (o : Option D) (S : Store) : R D := match o with
  | some d => .ok d S
  | none => .bad
def idxC : Option Cell → D → Store → R D
  | some (.lst ds), .int i, S => optR (atI ds i) S
  | some (.frz ds), .int i, S => optR (atI ds i) S
  | some (.dK kvs), k, S => optR ((keyOf k).bind (lookK kvs)) S
  | _, _, _ => .bad
def idxD : D → D → Store → R D
  | .tup ds, .int i, S => optR (atI ds i) S
  | .str z, .int i, S => if sizeOk z.length then optR ((atI z.cps.toList i).map fun c => .str ⟨#[c]⟩) S else .bad
  | .ref n, k, S => idxC S[n]? k S
  | _, _, _ => .bad
/-- the places of a slice -/
def cutD {α : Type} (xs : List α) (lo hi : Option Int) : List α := (xs.drop (HT.sIx xs.length 0 lo)).take (HT.sIx xs.length xs.length hi - HT.sIx xs.length 0 lo)
def slcD (d : D) (lo hi : Option Int) (S : Store) : R D := match d with
  | .tup ds => .ok (.tup (cutD ds lo hi)) S
  | .str z => if sizeOk z.length then .ok (.str ⟨(cutD z.cps.toList lo hi).toArray⟩) S else .bad
  | .ref n => match lstAt S (.ref n) with
    | some ds => newC (.lst (cutD ds lo hi)) S
    | none => .bad
  | _ => .bad
def revD (d : D) (S : Store) : R D := match d with
  | .tup ds => .ok (.tup ds.reverse) S
  | .ref n => match lstAt S (.ref n) with
    | some ds => newC (.lst ds.reverse) S
    | none => .bad
  | _ => .bad
def tyOf (S : Store) : D → Option String
  | .non => some "NoneType"
  | .bl _ => some "bool"
  | .int _ => some "int"
  | .str _ => some "str"
  | .tup _ => some "tuple"
  | .ref n => match S[n]? with
    | some (.lst _) => some "list"
    | some (.frz _) => some "list"
    | some (.dK _) => some "dict"
    | some (.dT _) => some "dict"
    | _ => none
  | .sta _ => none
def subTy (a b : String) : Option Bool := match a, b with
  | "NoneType", "int" => some false | "NoneType", "bool" => some false | "NoneType", "str" => some false | "NoneType", "tuple" => some false | "NoneType", "list" => some false | "NoneType", "dict" => some false
  | "bool", "int" => some true | "bool", "bool" => some true | "bool", "str" => some false | "bool", "tuple" => some false | "bool", "list" => some false | "bool", "dict" => some false
  | "int", "int" => some true | "int", "bool" => some false | "int", "str" => some false | "int", "tuple" => some false | "int", "list" => some false | "int", "dict" => some false
  | "str", "int" => some false | "str", "bool" => some false | "str", "str" => some true | "str", "tuple" => some false | "str", "list" => some false | "str", "dict" => some false
  | "tuple", "int" => some false | "tuple", "bool" => some false | "tuple", "str" => some false | "tuple", "tuple" => some true | "tuple", "list" => some false | "tuple", "dict" => some false
  | "list", "int" => some false | "list", "bool" => some false | "list", "str" => some false | "list", "tuple" => some false | "list", "list" => some true | "list", "dict" => some false
  | "dict", "int" => some false | "dict", "bool" => some false | "dict", "str" => some false | "dict", "tuple" => some false | "dict", "list" => some false | "dict", "dict" => some true
  | _, _ => none
def isiD (S : Store) (d c : D) : Option Bool := (tyOf S d).bind fun t => match c with
  | .sta (.ty b) => subTy t b
  | .tup [.sta (.ty a), .sta (.ty b)] => match subTy t a, subTy t b with
    | some p, some q => some (p || q)
    | _, _ => none
  | _ => none
def strsOf : List D → Option (List Str)
  | [] => some []
  | .str x :: r => (strsOf r).map (x :: ·)
  | _ :: _ => none
def intsOf : List D → Option (List Int)
  | [] => some []
  | .int x :: r => (intsOf r).map (x :: ·)
  | _ :: _ => none
def bolsOf : List D → Option (List Bool)
  | [] => some []
  | .bl x :: r => (bolsOf r).map (x :: ·)
  | _ :: _ => none
def keysOf : List Key → Option (List Str)
  | [] => some []
  | .inr x :: r => (keysOf r).map (x :: ·)
  | _ :: _ => none
def pairsOf : List D → Option (List (Key × D))
  | [] => some []
  | .tup [k, v] :: r => match keyOf k, pairsOf r with
    | some k, some r => some ((k, v) :: r)
    | _, _ => none
  | _ :: _ => none
def insSt (x : Str) : List Str → List Str
  | [] => [x]
  | y :: r => if y.cps.toList < x.cps.toList then y :: insSt x r else x :: y :: r
/-- texts by code points -/
def sortSt : List Str → List Str
  | [] => []
  | x :: r => insSt x (sortSt r)
def insInt (x : Int) : List Int → List Int
  | [] => [x]
  | y :: r => if y < x then y :: insInt x r else x :: y :: r
def sortInt : List Int → List Int
  | [] => []
  | x :: r => insInt x (sortInt r)
def putD {κ : Type} [DecidableEq κ] (kvs : List (κ × D)) (k : κ) (v : D) : List (κ × D) :=
  if kvs.any fun kv => decide (kv.1 = k) then kvs.map fun kv => if kv.1 = k then (kv.1, v) else kv else kvs ++ [(k, v)]
def mergeD (kvs more : List (Key × D)) : List (Key × D) := more.foldl (fun acc kv => putD acc kv.1 kv.2) kvs
def lenD (S : Store) : D → Option Nat
  | .tup ds => some ds.length
  | .str z => if sizeOk z.length then some z.length else none
  | .ref n => match S[n]? with
    | some (.lst ds) => some ds.length
    | some (.frz ds) => some ds.length
    | some (.dK kvs) => some kvs.length
    | _ => none
  | _ => none
def biD (f : Bi) (ds : List D) (S : Store) : R D := match f with
  | .len => match ds with
    | [d] => optR ((lenD S d).map fun n => .int n) S
    | _ => .bad
  | .isi => match ds with
    | [d, c] => ofB (isiD S d c) S
    | _ => .bad
  | .abs => match ds with
    | [.int i] => .ok (.int (if i < 0 then -i else i)) S
    | _ => .bad
  | .min => match ds with
    | [.int i, .int j] => .ok (.int (if j < i then j else i)) S
    | _ => .bad
  | .max => match ds with
    | [.int i, .int j] => .ok (.int (if j > i then j else i)) S
    | _ => .bad
  | .sum => match ds with
    | [.ref n] => optR ((lstAt S (.ref n)).bind fun ds => (intsOf ds).map fun ns => .int ns.sum) S
    | _ => .bad
  | .all => match ds with
    | [.ref n] => ofB ((lstAt S (.ref n)).bind fun ds => (bolsOf ds).map fun ns => ns.all id) S
    | _ => .bad
  | .any => match ds with
    | [.ref n] => ofB ((lstAt S (.ref n)).bind fun ds => (bolsOf ds).map fun ns => ns.any id) S
    | _ => .bad
  | .list => match ds with
    | [.tup es] => newC (.lst es) S
    | [.ref n] => match S[n]? with
      | some (.lst es) => newC (.lst es) S
      | some (.frz es) => newC (.lst es) S
      | some (.dK kvs) => newC (.lst (kvs.map fun kv => keyD kv.1)) S
      | _ => .bad
    | _ => .bad
  | .tuple => match ds with
    | [.tup es] => .ok (.tup es) S
    | [.ref n] => match lstAt S (.ref n) with
      | some es => .ok (.tup es) S
      | none => .bad
    | _ => .bad
  | .str => match ds with
    | [.int i] => if i.natAbs.log2 < 1920 then .ok (.str (toString i : String)) S else .bad
    | [.bl b] => .ok (.str (if b then "True" else "False")) S
    | _ => .bad
  | .repr => match ds with
    | [d] => match py S d with
      | some p => if p.showable = true ∧ sizeOk p.shown.length = true then .ok (.str p.shown) S else .bad
      | none => .bad
    | _ => .bad
  | .sorted => match ds with
    | [.ref n] => match S[n]? with
      | some (.lst es) => match strsOf es with
        | some xs => if xs.length < 64 then newC (.lst ((sortSt xs).map .str)) S else .bad
        | none => .bad
      | some (.dK kvs) => match keysOf (kvs.map (·.1)) with
        | some xs => if xs.length < 64 then newC (.lst ((sortSt xs).map .str)) S else .bad
        | none => .bad
      | _ => .bad
    | _ => .bad
  | .dict => match ds with
    | [.ref n] => match lstAt S (.ref n) with
      | some es => match pairsOf es with
        | some kvs => newC (.dK (mergeD [] kvs)) S
        | none => .bad
      | none => .bad
    | _ => .bad
  | .int => .bad
  | .bool => .bad
/-- a cell written -/
def setC (S : Store) (n : Nat) (c : Cell) (d : D) : R D := .ok d (S.set n c)
/-- the receiver is of the method's type -/
def mtTy (m : Mt) (d : D) (S : Store) : Bool := match m, d with
  | .join, .str _ => true | .upper, .str _ => true
  | .get, .ref n => match S[n]? with | some (.dK _) => true | _ => false
  | .append, .ref n => (lstAt S (.ref n)).isSome | .pop, .ref n => (lstAt S (.ref n)).isSome
  | .insert, .ref n => (lstAt S (.ref n)).isSome | .extend, .ref n => (lstAt S (.ref n)).isSome
  | _, _ => false
def mtD (m : Mt) (x : D) (ds : List D) (S : Store) : R D := match m with
  | .append => match x, ds with
    | .ref n, [d] => match S[n]? with
      | some (.lst es) => if es.length < sizeLine then setC S n (.lst (es ++ [d])) .non else .bad
      | _ => .bad
    | _, _ => .bad
  | .pop => match x, ds with
    | .ref n, [.int i] => match S[n]? with
      | some (.lst es) => match ixN es.length i with
        | some k => match es[k]? with
          | some y => if -(2 ^ 63) ≤ i ∧ i < 2 ^ 63 then setC S n (.lst (es.eraseIdx k)) y else .bad
          | none => .bad
        | none => .bad
      | _ => .bad
    | .ref n, [] => match S[n]? with
      | some (.lst es) => match es[es.length - 1]? with
        | some y => setC S n (.lst es.dropLast) y
        | none => .bad
      | _ => .bad
    | _, _ => .bad
  | .insert => match x, ds with
    | .ref n, [.int i, y] => match S[n]? with
      | some (.lst es) => if es.length < sizeLine ∧ 0 ≤ i ∧ i < 2 ^ 63 then setC S n (.lst (es.take i.toNat ++ [y] ++ es.drop i.toNat)) .non else .bad
      | _ => .bad
    | _, _ => .bad
  | .extend => match x, ds with
    | .ref n, [.ref m] => match S[n]?, S[m]? with
      | some (.lst es), some (.lst fs) => if es.length + fs.length ≤ sizeLine then setC S n (.lst (es ++ fs)) .non else .bad
      | _, _ => .bad
    | _, _ => .bad
  | .join => match x, ds with
    | .str a, [.ref m] => match lstAt S (.ref m) with
      | some es => match strsOf es with
        | some ys => if (ys.map (·.length)).sum + ys.length * a.length ≤ 16777216 then .ok (.str (Txt.join a ys)) S else .bad
        | none => .bad
      | none => .bad
    | _, _ => .bad
  | .upper => match x, ds with
    | .str a, [] => if a.length ≤ 5592405 then .ok (.str (Txt.upper a)) S else .bad
    | _, _ => .bad
  | .get => match x, ds with
    | .ref n, [k] => match S[n]?, keyOf k with
      | some (.dK kvs), some k => .ok ((lookK kvs k).getD .non) S
      | _, _ => .bad
    | .ref n, [k, d] => match S[n]?, keyOf k with
      | some (.dK kvs), some k => .ok ((lookK kvs k).getD d) S
      | _, _ => .bad
    | _, _ => .bad
  | _ => .bad
def subD : D → D → D → Store → Option Store
  | .ref n, k, v, S => match S[n]?, k with
    | some (.lst ds), .int i => (ixN ds.length i).map fun j => S.set n (.lst (ds.set j v))
    | some (.dK kvs), k => match keyOf k with
      | some k => if kvs.length < sizeLine then some (S.set n (.dK (putD kvs k v))) else none
      | none => none
    | _, _ => none
  | _, _, _, _ => none
def dctD : List D → Option (List (Key × D))
  | [] => some []
  | k :: v :: r => match keyOf k, dctD r with
    | some k, some r => some ((k, v) :: r)
    | _, _ => none
  | _ => none
mutual
def asgT : CT → D → Store → Lcs → Option Lcs
  | .nm i, d, _, L => if i < L.length then some (L.set i (some d)) else none
  | .tp ts, d, S, L => match seqAt S d with
    | some ds => if ds.length = ts.length then asgTs ts ds S L else none
    | none => none
def asgTs : List CT → List D → Store → Lcs → Option Lcs
  | [], _, _, L => some L
  | t :: ts, d :: ds, S, L => (asgT t d S L).bind (asgTs ts ds S)
  | _ :: _, [], _, _ => none
end
abbrev Guard := List (Nat × Cell)
def Gok (g : Guard) (S : Store) : Prop := ∀ p ∈ g, S[p.1]? = some p.2
def wipeL (L : Lcs) (vs : List Nat) : Lcs := vs.foldr (fun v l => l.set v none) L
def rngD : List D → Option (List D)
  | [.int j] => if -(2 ^ 62) ≤ j ∧ j < 2 ^ 62 then some ((List.range j.toNat).map fun (k : Nat) => D.int (k : Int)) else none
  | [.int i, .int j] => if -(2 ^ 62) ≤ i ∧ i < 2 ^ 62 ∧ -(2 ^ 62) ≤ j ∧ j < 2 ^ 62 then some ((List.range (j - i).toNat).map fun (k : Nat) => D.int (i + (k : Int))) else none
  | _ => none
/-- a walked list stands as it stood -/
def lstG (S : Store) (n : Nat) : Option (List D × Guard) := match S[n]? with
  | some (.lst ds) => some (ds, [(n, .lst ds)])
  | some (.frz ds) => some (ds, [(n, .frz ds)])
  | _ => none
def walkD (S : Store) : D → Option (List D × Guard)
  | .tup ds => some (ds, [])
  | .str z => some (z.cps.toList.map fun c => .str ⟨#[c]⟩, [])
  | .ref n => lstG S n
  | _ => none
def walkE (S : Store) : D → Option (List D × Guard)
  | .tup ds => some (ds, [])
  | .ref n => lstG S n
  | _ => none
def zipL (xs ys : List D) : List D := (xs.zip ys).map fun p => .tup [p.1, p.2]
def zipD (S : Store) : D → D → Option (List D × Guard)
  | .tup xs, .tup ys => some (zipL xs ys, [])
  | .ref n, .ref m => match lstG S n, lstG S m with
    | some p, some q => some (zipL p.1 q.1, p.2 ++ q.2)
    | _, _ => none
  | _, _ => none
def enuFrom (k : Nat) : List D → List D
  | [] => []
  | d :: r => .tup [.int (k : Int), d] :: enuFrom (k + 1) r
inductive Fl where
  | nx | ret (d : D) | brk | ct | xc (x : Str)
section
variable (f : D → Store → R Unit)
open Classical in
/-- a comprehension's turns -/
noncomputable def lcLoop (g : Guard) : List D → Store → R Unit
  | [], S => if Gok g S then .ok () S else .bad
  | d :: r, S => if Gok g S then (f d S).bind fun _ S' => lcLoop g r S' else .bad
end
section
variable (f : D → Lcs → Store → R (Fl × Lcs))
open Classical in
noncomputable def forLoop (g : Guard) : List D → Lcs → Store → R (Fl × Lcs)
  | [], L, S => if Gok g S then .ok (.nx, L) S else .bad
  | d :: r, L, S => if Gok g S then (f d L S).bind fun p S' => match p.1 with
      | .nx => forLoop g r p.2 S'
      | .ct => forLoop g r p.2 S'
      | .brk => .ok (.nx, p.2) S'
      | .ret v => .ok (.ret v, p.2) S'
      | .xc x => .ok (.xc x, p.2) S'
    else .bad
end
/-- one turn: whether it goes on -/
abbrev Turn := Lcs → Store → R (Bool × Fl × Lcs)
def whN (f : Turn) : Nat → Lcs → Store → Option (R (Fl × Lcs))
  | 0, _, _ => none
  | n + 1, L, S => match f L S with
    | .ok (true, _, L') S' => whN f n L' S'
    | .ok (false, fl, L') S' => some (.ok (fl, L') S')
    | .exc x S' => some (.exc x S')
    | .bad => some .bad
open Classical in
noncomputable def wh (f : Turn) (L : Lcs) (S : Store) : R (Fl × Lcs) :=
  if h : ∃ n r, whN f n L S = some r then (Classical.choose_spec h).choose else .bad
/-- whether a held exception is of such a class -/
def isxD (d : D) (tab : List (Str × Bool)) (S : Store) : R D := match d with
  | .ref n => match S[n]? with
    | some (.exc x) => match tab.lookup x with
      | some b => .ok (.bl b) S
      | none => .bad
    | some (.exv x _ _) => match tab.lookup x with
      | some b => .ok (.bl b) S
      | none => .bad
    | _ => .bad
  | _ => .bad
/-- e.f of a held exception -/
def fldD (d : D) (f : Str) (S : Store) : R D := match d with
  | .ref n => match S[n]? with
    | some (.exv _ g v) => if g = f then .ok v S else .bad
    | _ => .bad
  | _ => .bad
structure Gv where
  fn : Nat → List D → Store → R D
  ct : Nat → Option D
variable (G : Gv)
def ofO {α : Type} (o : Option α) (S : Store) : R α := match o with
  | some a => .ok a S
  | none => .bad
mutual
noncomputable def evE : CE → Lcs → Store → R D
  | .cst d, _, S => .ok d S
  | .loc i, L, S => match L[i]? with
    | some (some d) => .ok d S
    | _ => .bad
  | .glb x, _, S => optR (G.ct x) S
  | .bin op a b, L, S => (evE a L S).bind fun x S1 => (evE b L S1).bind fun y S2 => binD op x y S2
  | .neg a, L, S => (evE a L S).bind negD
  | .not a, L, S => (evE a L S).bind fun x S1 => ifB x (.ok (.bl false) S1) (.ok (.bl true) S1)
  | .and a b, L, S => (evE a L S).bind fun x S1 => ifB x ((evE b L S1).bind fun y S2 => ifB y (.ok (.bl true) S2) (.ok (.bl false) S2)) (.ok (.bl false) S1)
  | .or a b, L, S => (evE a L S).bind fun x S1 => ifB x (.ok (.bl true) S1) ((evE b L S1).bind fun y S2 => ifB y (.ok (.bl true) S2) (.ok (.bl false) S2))
  | .cmp op a b, L, S => ((evE a L S).bind fun x S1 => (evE b L S1).bind fun y S2 => cmpD op x y S2).gc S
  | .chn p q a b c, L, S => ((evE a L S).bind fun x S1 => (evE b L S1).bind fun y S2 => (cmpD p x y S2).bind fun r S3 => ifB r ((evE c L S3).bind fun z S4 => cmpD q y z S4) (.ok (.bl false) S3)).gc S
  | .ite c a b, L, S => (evE c L S).bind fun x S1 => ifB x (evE a L S1) (evE b L S1)
  | .tup as, L, S => (evA as L S).bind fun ds S1 => okIf (sizeOk ds.length) (.tup ds) S1
  | .lst as, L, S => (evA as L S).bind fun ds S1 => if sizeOk ds.length then newC (.lst ds) S1 else .bad
  | .dct as, L, S => (evA as L (S ++ [.dK []])).bind fun ds S1 => match dctD ds, S1[S.length]? with
    | some kvs, some (.dK []) => if kvs.length ≤ 15 then .ok (.ref S.length) (S1.set S.length (.dK (mergeD [] kvs))) else .bad
    | _, _ => .bad
  | .idx a b, L, S => ((evE a L S).bind fun x S1 => (evE b L S1).bind fun y S2 => idxD x y S2).gc S
  | .slc a lo x hi y, L, S => ((evE a L S).bind fun d S1 => (if lo = true then (evE x L S1).bind fun u S2 => match u with | .int i => .ok (some i) S2 | _ => .bad else .ok none S1 : R (Option Int)).bind fun l S2 =>
      (if hi = true then (evE y L S2).bind fun u S3 => match u with | .int i => .ok (some i) S3 | _ => .bad else .ok none S2 : R (Option Int)).bind fun h S3 => slcD d l h S3).gc S
  | .rev a, L, S => ((evE a L S).bind revD).gc S
  | .call f as, L, S => ((evA as L S).bind fun ds S1 => G.fn f ds S1).gc S
  | .bi f as, L, S => ((evA as L S).bind fun ds S1 => biD f ds S1).gc S
  | .mth m o as, L, S => ((evE o L S).bind fun x S1 => if mtTy m x S1 = true then (evA as L S1).bind fun ds S2 => mtD m x ds S2 else .bad).gc S
  | .lc vs t it c e, L, S => ((evI it L S).bind fun p S1 =>
      (lcLoop (fun d S2 => (ofO (asgT t d S2 (wipeL L vs)) S2).bind fun L2 S3 => (evE c L2 S3).bind fun x S4 => ifB x
          ((evE e L2 S4).bind fun y S5 => match S5[S1.length]? with
            | some (.lst acc) => if acc.length < sizeLine then .ok () (S5.set S1.length (.lst (acc ++ [y]))) else .bad
            | _ => .bad) (.ok () S4)) p.2 p.1 (S1 ++ [.lst []])).bind fun _ S9 => .ok (.ref S1.length) S9).gc S
  | .isx e ys, L, S => (evE e L S).bind fun d S1 => isxD d ys S1
  | .mkx x, _, S => newC (.exc x) S
  | .mkf x f e, L, S => (evE e L S).bind fun d S1 => newC (.exv x f d) S1
  | .fld e f, L, S => (evE e L S).bind fun d S1 => fldD d f S1
  | .dc vs t it c kx e, L, S => ((evI it L S).bind fun p S1 =>
      (lcLoop (fun d S2 => (ofO (asgT t d S2 (wipeL L vs)) S2).bind fun L2 S3 => (evE c L2 S3).bind fun x S4 => ifB x
          ((evE kx L2 S4).bind fun q S5 => (evE e L2 S5).bind fun y S6 => match keyOf q, S6[S1.length]? with
            | some q, some (.dK kvs) => if kvs.length < sizeLine then .ok () (S6.set S1.length (.dK (putD kvs q y))) else .bad
            | _, _ => .bad) (.ok () S4)) p.2 p.1 (S1 ++ [.dK []])).bind fun _ S9 => .ok (.ref S1.length) S9).gc S
noncomputable def evA : CA → Lcs → Store → R (List D)
  | .nil, _, S => .ok [] S
  | .cons e r, L, S => (evE e L S).bind fun d S1 => (evA r L S1).bind fun ds S2 => .ok (d :: ds) S2
noncomputable def evI : CI → Lcs → Store → R (List D × Guard)
  | .val e, L, S => (evE e L S).bind fun d S1 => ofO (walkD S1 d) S1
  | .rng as, L, S => (evA as L S).bind fun ds S1 => ofO ((rngD ds).map fun l => (l, [])) S1
  | .enu e, L, S => (evE e L S).bind fun d S1 => ofO ((walkE S1 d).map fun p => (enuFrom 0 p.1, p.2)) S1
  | .zip a b, L, S => (evE a L S).bind fun x S1 => (evE b L S1).bind fun y S2 => ofO (zipD S2 x y) S2
  | .items e, L, S => (evE e L S).bind fun d S1 => match d with
    | .ref n => match S1[n]? with
      | some (.dK kvs) => .ok (kvs.map fun kv => .tup [keyD kv.1, kv.2], [(n, .dK kvs)]) S1
      | _ => .bad
    | _ => .bad
end
noncomputable def exS : CSs → Lcs → Store → R (Fl × Lcs)
  | .nil, L, S => .ok (.nx, L) S
  | .asg t e r, L, S => (evE G e L S).bind fun d S1 => (ofO (asgT t d S1 L) S1).bind fun L1 S2 => exS r L1 S2
  | .aug i op e r, L, S => match L[i]? with
    | some (some x) => (evE G e L S).bind fun y S1 => (augD op x y S1).bind fun z S2 => exS r (L.set i (some z)) S2
    | _ => .bad
  | .sub o i e r, L, S => (evE G e L S).bind fun v S1 => (evE G o L S1).bind fun x S2 => (evE G i L S2).bind fun k S3 => match subD x k v S3 with
    | some S4 => exS r L S4
    | none => .bad
  | .exp e r, L, S => (evE G e L S).bind fun _ S1 => exS r L S1
  | .ret e, L, S => (evE G e L S).bind fun d S1 => .ok (.ret d, L) S1
  | .ifs c a b r, L, S => (evE G c L S).bind fun x S1 => (ifB x (exS a L S1) (exS b L S1)).bind fun p S2 => match p.1 with
    | .nx => exS r p.2 S2
    | _ => .ok p S2
  | .for_ t it b r, L, S => (evI G it L S).bind fun q S1 => (forLoop (fun d L1 S2 => (ofO (asgT t d S2 L1) S2).bind fun L2 S3 => exS b L2 S3) q.2 q.1 L S1).bind fun p S2 => match p.1 with
    | .nx => exS r p.2 S2
    | _ => .ok p S2
  | .whl c b r, L, S => (wh (fun L1 S1 => (evE G c L1 S1).bind fun x S2 => ifB x ((exS b L1 S2).bind fun p S3 => match p.1 with
      | .nx => .ok (true, .nx, p.2) S3
      | .ct => .ok (true, .nx, p.2) S3
      | .brk => .ok (false, .nx, p.2) S3
      | .ret v => .ok (false, .ret v, p.2) S3
      | .xc x => .ok (false, .xc x, p.2) S3) (.ok (false, .nx, L1) S2)) L S).bind fun p S2 => match p.1 with
    | .nx => exS r p.2 S2
    | _ => .ok p S2
  | .brk, L, S => .ok (.brk, L) S
  | .cont, L, S => .ok (.ct, L) S
  | .nev, _, _ => .bad
  | .raise x, L, S => .ok (.xc x, L) S
  | .xexp f as r, L, S => (evA G as L S).bind fun ds S1 => match G.fn f ds S1 with
    | .ok _ S2 => exS r L S2
    | .exc x S2 => .ok (.xc x.cls, L) S2
    | .bad => .bad
  | .tryR f as i j xs r, L, S => (evA G as L S).bind fun ds S1 => match G.fn f ds S1 with
    | .ok d S2 => .ok (.ret d, L) S2
    | .exc x S2 => if xs.contains x.cls = true then exS r (((L.set i (some (.ref S2.length))).set j (some (.ref S2.length))).set i none) (S2 ++ [.exc x.cls]) else .bad
    | .bad => .bad
/-- a def: how many parameters, how many names, its body -/
structure CF where
  ps : Nat
  ns : Nat
  body : CSs
noncomputable def runF (f : CF) (ds : List D) (S : Store) : R D :=
  if ds.length = f.ps then
    ((exS G f.body (ds.map some ++ List.replicate (f.ns - f.ps) none) S).bindB fun p S' => match p.1 with
      | .nx => .ok .non S'
      | .ret d => .ok d S'
      | .xc x => .exc ⟨x⟩ S'
      | _ => .bad).gc S
  else .bad
noncomputable def semN (T : Nat → Option CF) (ct : Nat → Option D) : Nat → Nat → List D → Store → R D
  | 0, _, _, _ => .bad
  | k + 1, x, ds, S => match T x with
    | some f => runF ⟨semN T ct k, ct⟩ f ds S
    | none => .bad
end Mi
namespace Mi
open PySem L2
/-- a tuple that stays -/
def Tq (K : PySem.W.Frag) (H : Hp) (a : Addr) (vs : List V) : Prop :=
  H a = some (.tup vs) ∨
    ∃ (o : Obj) (its : Array Value) (n : Nat), K.lookup a = some o ∧ o.cls = .type "tuple" ∧ o.data = .seq its n ∧ its.size ≤ sizeLine ∧ Vals vs its.toList
theorem Tq.sq {K : PySem.W.Frag} {H : Hp} {a : Addr} {vs : List V} (h : Tq K H a vs) : SqT K H a vs := by
  rcases h with h | h
  · exact .inl (.inl h)
  · exact .inr h
mutual
def DR (K : PySem.W.Frag) (ι : List Addr) (H : Hp) : D → V → Prop
  | .non, v => v = .non
  | .bl b, v => v = .bl b
  | .int i, v => v = .int i
  | .str x, v => v = .str x
  | .tup ds, v => ∃ a vs, v = .ref a ∧ Tq K H a vs ∧ DRs K ι H ds vs
  | .ref n, v => ∃ a, ι[n]? = some a ∧ v = .ref a
  | .sta w, v => v = w
def DRs (K : PySem.W.Frag) (ι : List Addr) (H : Hp) : List D → List V → Prop
  | [], vs => vs = []
  | d :: ds, vs => ∃ v r, vs = v :: r ∧ DR K ι H d v ∧ DRs K ι H ds r
end
/-- tuples and what is only read stay -/
structure Xt (H H' : Hp) : Prop where
  tup : ∀ a xs, H a = some (.tup xs) → H' a = some (.tup xs)
  frz : ∀ a o u, H a = some (.frz o u) → H' a = some (.frz o u)
theorem Xt.refl (H : Hp) : Xt H H := ⟨fun _ _ h => h, fun _ _ _ h => h⟩
theorem Xt.trans {H H1 H2 : Hp} (a : Xt H H1) (b : Xt H1 H2) : Xt H H2 := ⟨fun p xs h => b.tup p xs (a.tup p xs h), fun p o u h => b.frz p o u (a.frz p o u h)⟩
theorem Xt.new {H : Hp} {p : Addr} {o : HO} (h : H p = none) : Xt H (upd H p o) :=
  ⟨fun a xs e => by rw [upd_ne (ne_of_none e h)]; exact e, fun a q u e => by rw [upd_ne (ne_of_none e h)]; exact e⟩
theorem Xt.write {H : Hp} {p : Addr} {o u : HO} (h : H p = some u) (nt : ∀ xs, u ≠ .tup xs) (nf : ∀ q w, u ≠ .frz q w) : Xt H (upd H p o) :=
  ⟨fun a xs e => by rw [upd_ne (ne_of e h fun z => nt xs z.symm)]; exact e, fun a q w e => by rw [upd_ne (ne_of e h fun z => nf q w z.symm)]; exact e⟩
section
variable {K : PySem.W.Frag} {ι ι' : List Addr} {H H' : Hp}
theorem sqT_mono (x : Xt H H') {a : Addr} {vs : List V} (h : Tq K H a vs) : Tq K H' a vs := by
  rcases h with h | h
  · exact .inl (x.tup _ _ h)
  · exact .inr h
theorem pre_get (p : ι <+: ι') {n : Nat} {a : Addr} (h : ι[n]? = some a) : ι'[n]? = some a := by
  obtain ⟨t, rfl⟩ := p
  rw [List.getElem?_append_left (List.getElem?_eq_some_iff.mp h).1]
  exact h
mutual
theorem DR.mono (p : ι <+: ι') (x : Xt H H') : ∀ (d : D) {v : V}, DR K ι H d v → DR K ι' H' d v
  | .non, _, h => h
  | .bl _, _, h => h
  | .int _, _, h => h
  | .str _, _, h => h
  | .sta _, _, h => h
  | .tup ds, _, h => by
    obtain ⟨a, vs, e, s, r⟩ := h
    exact ⟨a, vs, e, sqT_mono x s, DRs.mono p x ds r⟩
  | .ref n, _, h => by
    obtain ⟨a, e, r⟩ := h
    exact ⟨a, pre_get p e, r⟩
theorem DRs.mono (p : ι <+: ι') (x : Xt H H') : ∀ (ds : List D) {vs : List V}, DRs K ι H ds vs → DRs K ι' H' ds vs
  | [], _, h => h
  | d :: ds, _, h => by
    obtain ⟨v, r, e, h1, h2⟩ := h
    exact ⟨v, r, e, DR.mono p x d h1, DRs.mono p x ds h2⟩
end
theorem DRs.length : ∀ {ds : List D} {vs : List V}, DRs K ι H ds vs → vs.length = ds.length
  | [], _, h => by cases h; rfl
  | _ :: _, _, h => by
    obtain ⟨v, r, rfl, _, h2⟩ := h
    simp [DRs.length h2]
theorem DRs.get : ∀ {ds : List D} {vs : List V} {i : Nat} {d : D}, DRs K ι H ds vs → ds[i]? = some d → ∃ v, vs[i]? = some v ∧ DR K ι H d v
  | [], _, _, _, _, h => by simp at h
  | _ :: _, _, 0, _, h, e => by
    obtain ⟨v, r, rfl, h1, _⟩ := h
    simp at e; subst e
    exact ⟨v, rfl, h1⟩
  | _ :: ds, _, i + 1, d, h, e => by
    obtain ⟨v, r, rfl, _, h2⟩ := h
    obtain ⟨w, a, b⟩ := DRs.get (ds := ds) (i := i) (d := d) h2 (by simpa using e)
    exact ⟨w, by simpa using a, b⟩
theorem DRs.getV {ds : List D} {vs : List V} {i : Nat} {v : V} (h : DRs K ι H ds vs) (e : vs[i]? = some v) : ∃ d, ds[i]? = some d ∧ DR K ι H d v := by
  have hi : i < ds.length := by have := (List.getElem?_eq_some_iff.mp e).1; rw [h.length] at this; exact this
  obtain ⟨w, a, b⟩ := h.get (List.getElem?_eq_getElem hi)
  rw [e] at a; cases a
  exact ⟨_, List.getElem?_eq_getElem hi, b⟩
theorem DRs.append : ∀ {ds es : List D} {vs ws : List V}, DRs K ι H ds vs → DRs K ι H es ws → DRs K ι H (ds ++ es) (vs ++ ws)
  | [], _, _, _, h, g => by cases h; exact g
  | _ :: _, _, _, _, h, g => by
    obtain ⟨v, r, rfl, h1, h2⟩ := h
    exact ⟨v, r ++ _, rfl, h1, DRs.append h2 g⟩
theorem DRs.one {d : D} {v : V} (h : DR K ι H d v) : DRs K ι H [d] [v] := ⟨v, [], rfl, h, rfl⟩
theorem DRs.of_get : ∀ {ds : List D} {vs : List V}, ds.length = vs.length → (∀ (i : Nat) (d : D) (v : V), ds[i]? = some d → vs[i]? = some v → DR K ι H d v) → DRs K ι H ds vs
  | [], [], _, _ => rfl
  | d :: ds, v :: vs, hl, h => ⟨v, vs, rfl, h 0 d v rfl rfl, DRs.of_get (by simpa using hl) fun i d v a b => h (i + 1) d v (by simpa using a) (by simpa using b)⟩
theorem DRs.drop : ∀ {ds : List D} {vs : List V} (n : Nat), DRs K ι H ds vs → DRs K ι H (ds.drop n) (vs.drop n)
  | _, _, 0, h => h
  | [], _, n + 1, h => by cases h; simp; exact rfl
  | _ :: _, _, n + 1, h => by
    obtain ⟨v, r, rfl, _, h2⟩ := h
    exact DRs.drop n h2
theorem DRs.take : ∀ {ds : List D} {vs : List V} (n : Nat), DRs K ι H ds vs → DRs K ι H (ds.take n) (vs.take n)
  | _, _, 0, _ => by simp; exact rfl
  | [], _, n + 1, h => by cases h; simp; exact rfl
  | _ :: _, _, n + 1, h => by
    obtain ⟨v, r, rfl, h1, h2⟩ := h
    exact ⟨v, r.take n, rfl, h1, DRs.take n h2⟩
theorem DRs.set : ∀ {ds : List D} {vs : List V} (n : Nat) {d : D} {v : V}, DRs K ι H ds vs → DR K ι H d v → DRs K ι H (ds.set n d) (vs.set n v)
  | [], _, n, _, _, h, _ => by cases h; simp; exact rfl
  | _ :: _, _, 0, _, _, h, g => by
    obtain ⟨v, r, rfl, h1, h2⟩ := h
    exact ⟨_, r, rfl, g, h2⟩
  | _ :: _, _, n + 1, _, _, h, g => by
    obtain ⟨v, r, rfl, h1, h2⟩ := h
    exact ⟨v, r.set n _, rfl, h1, DRs.set n h2 g⟩
theorem DRs.eraseIdx : ∀ {ds : List D} {vs : List V} (n : Nat), DRs K ι H ds vs → DRs K ι H (ds.eraseIdx n) (vs.eraseIdx n)
  | [], _, n, h => by cases h; simp; exact rfl
  | _ :: _, _, 0, h => by
    obtain ⟨v, r, rfl, h1, h2⟩ := h
    exact h2
  | _ :: _, _, n + 1, h => by
    obtain ⟨v, r, rfl, h1, h2⟩ := h
    exact ⟨v, r.eraseIdx n, rfl, h1, DRs.eraseIdx n h2⟩
theorem DRs.reverse {ds : List D} {vs : List V} (h : DRs K ι H ds vs) : DRs K ι H ds.reverse vs.reverse := by
  refine DRs.of_get (by simp [h.length]) fun i d v a b => ?_
  have hi : i < ds.length := by have := (List.getElem?_eq_some_iff.mp a).1; simpa using this
  rw [List.getElem?_reverse hi] at a
  rw [List.getElem?_reverse (by rw [h.length]; exact hi), h.length] at b
  obtain ⟨w, c, e⟩ := h.get a
  rw [b] at c; cases c; exact e
mutual
theorem DR.lt : ∀ (d : D) {v : V}, DR K ι H d v → d.lt ι.length = true
  | .non, _, _ => by simp [D.lt]
  | .bl _, _, _ => by simp [D.lt]
  | .int _, _, _ => by simp [D.lt]
  | .str _, _, _ => by simp [D.lt]
  | .sta _, _, _ => by simp [D.lt]
  | .tup ds, _, h => by
    obtain ⟨a, vs, e, s, r⟩ := h
    simp only [D.lt]
    exact DRs.lt ds r
  | .ref n, _, h => by
    obtain ⟨a, e, r⟩ := h
    simp only [D.lt, decide_eq_true_eq]
    exact (List.getElem?_eq_some_iff.mp e).1
theorem DRs.lt : ∀ (ds : List D) {vs : List V}, DRs K ι H ds vs → D.ltAll ι.length ds = true
  | [], _, _ => by simp [D.ltAll]
  | d :: ds, _, h => by
    obtain ⟨v, r, e, h1, h2⟩ := h
    simp only [D.ltAll, Bool.and_eq_true]
    exact ⟨DR.lt d h1, DRs.lt ds h2⟩
end
mutual
/-- fewer cells, none of them named -/
theorem DR.less {n : Nat} (p : ι <+: ι') (hn : ι.length = n) : ∀ (d : D) {v : V}, DR K ι' H d v → d.lt n = true → DR K ι H d v
  | .non, _, h, _ => h
  | .bl _, _, h, _ => h
  | .int _, _, h, _ => h
  | .str _, _, h, _ => h
  | .sta _, _, h, _ => h
  | .tup ds, _, h, l => by
    obtain ⟨a, vs, e, s, r⟩ := h
    simp only [D.lt] at l
    exact ⟨a, vs, e, s, DRs.less p hn ds r l⟩
  | .ref m, _, h, l => by
    obtain ⟨a, e, r⟩ := h
    simp only [D.lt, decide_eq_true_eq] at l
    obtain ⟨t, rfl⟩ := p
    rw [List.getElem?_append_left (by omega)] at e
    exact ⟨a, e, r⟩
theorem DRs.less {n : Nat} (p : ι <+: ι') (hn : ι.length = n) : ∀ (ds : List D) {vs : List V}, DRs K ι' H ds vs → D.ltAll n ds = true → DRs K ι H ds vs
  | [], _, h, _ => h
  | d :: ds, _, h, l => by
    obtain ⟨v, r, e, h1, h2⟩ := h
    simp only [D.ltAll, Bool.and_eq_true] at l
    exact ⟨v, r, e, DR.less p hn d h1 l.1, DRs.less p hn ds h2 l.2⟩
end
end
/-- a list that is only read -/
def Fz (K : PySem.W.Frag) (H : Hp) (a : Addr) (vs : List V) : Prop :=
  (∃ o, H a = some (.frz o (.lst vs))) ∨
    ∃ (o : Obj) (its : Array Value) (n : Nat), K.lookup a = some o ∧ o.cls = .type "list" ∧ o.dict = none ∧ o.data = .seq its n ∧ its.size ≤ sizeLine ∧ Vals vs its.toList
theorem Fz.seq {K : PySem.W.Frag} {H : Hp} {a : Addr} {vs : List V} (h : Fz K H a vs) : SqL K H a vs := by
  rcases h with ⟨o, h⟩ | h
  · exact .inl (.inr ⟨o, h⟩)
  · exact .inr h
theorem Fz.mono {K : PySem.W.Frag} {H H' : Hp} {a : Addr} {vs : List V} (x : Xt H H') (h : Fz K H a vs) : Fz K H' a vs := by
  rcases h with ⟨o, h⟩ | h
  · exact .inl ⟨o, x.frz _ _ _ h⟩
  · exact .inr h
/-- the class of a name of the program's top -/
def ClsN (K : PySem.W.Frag) (x : Str) (C : Addr) : Prop := PySem.W.nsIn K mainGlobals x = some (some (.ref C))
/-- an exception that is kept -/
def xHO (C a : Addr) : HO := .ext fun h => ∃ oe, PySem.W.InstAt h a oe C none
/-- what the written part says of a class whose __init__ keeps one field -/
structure FxC (K : PySem.W.Frag) (C : Addr) (f : Str) : Prop where
  own : OexC K C
  no : PySem.W.findIn K (.ref C) f = some none
  as : ExcC K C
/-- an exception with its field, that stays -/
def ExvAt (H : Hp) (a C : Addr) (f : Str) (v : V) : Prop := ∃ (d : Addr) (o od : Obj), H a = some (.frz o (exo a C (some d))) ∧ H d = some (.frz od (exd d [(f, v)]))
/-- what such an __init__ does -/
def spI (K : PySem.W.Frag) (f : Str) : Sp := fun vs H Q _ => ∃ (a C : Addr) (y : V), vs = [.ref a, y] ∧ H a = some (exo a C none) ∧ OexC K C ∧ PySem.W.findIn K (.ref C) f = some none ∧ ∀ dx, H dx = none → dx ≠ a → Q .non (upd (upd H dx (exd dx [(f, y)])) a (exo a C (some dx)))
abbrev Cell.mu : Cell → Bool
  | .frz _ => false
  | .exv _ _ _ => false
  | _ => true
/-- pairs: keys alike, values related -/
def KR {κ : Type} (K : PySem.W.Frag) (ι : List Addr) (H : Hp) (ks : List (κ × D)) (vs : List (κ × V)) : Prop := ks.map (·.1) = vs.map (·.1) ∧ DRs K ι H (ks.map (·.2)) (vs.map (·.2))
def CellOk (K : PySem.W.Frag) (ι : List Addr) (H : Hp) (a : Addr) : Cell → Prop
  | .lst ds => ∃ vs, H a = some (.lst vs) ∧ DRs K ι H ds vs
  | .frz ds => ∃ vs, Fz K H a vs ∧ DRs K ι H ds vs
  | .dK kvs => ∃ vs, H a = some (.dK vs) ∧ KR K ι H kvs vs
  | .dT kvs => ∃ vs, H a = some (.dT vs) ∧ KR K ι H kvs vs
  | .ins C fs => ∃ dx vs, H a = some (.ins C dx vs) ∧ KR K ι H fs vs
  | .exc x => ∃ C, ClsN K x C ∧ H a = some (xHO C a)
  | .exv x f d => ∃ C v, ClsN K x C ∧ FxC K C f ∧ ExvAt H a C f v ∧ DR K ι H d v
theorem CellOk.mono {K : PySem.W.Frag} {ι ι' : List Addr} {H H' : Hp} {a : Addr} {c : Cell} (p : ι <+: ι') (x : Xt H H') (st : c.mu = true → H' a = H a) (h : CellOk K ι H a c) : CellOk K ι' H' a c := by
  cases c with
  | lst ds => obtain ⟨vs, e, r⟩ := h; exact ⟨vs, (st rfl).trans e, r.mono p x⟩
  | frz ds => obtain ⟨vs, e, r⟩ := h; exact ⟨vs, e.mono x, r.mono p x⟩
  | dK kvs => obtain ⟨vs, e, k, r⟩ := h; exact ⟨vs, (st rfl).trans e, k, r.mono p x⟩
  | dT kvs => obtain ⟨vs, e, k, r⟩ := h; exact ⟨vs, (st rfl).trans e, k, r.mono p x⟩
  | ins C fs => obtain ⟨dx, vs, e, k, r⟩ := h; exact ⟨dx, vs, (st rfl).trans e, k, r.mono p x⟩
  | exc y => obtain ⟨C, hc, e⟩ := h; exact ⟨C, hc, (st rfl).trans e⟩
  | exv y f d => obtain ⟨C, v, hc, fx, ⟨dd, o, od, e1, e2⟩, r⟩ := h; exact ⟨C, v, hc, fx, ⟨dd, o, od, x.frz _ _ _ e1, x.frz _ _ _ e2⟩, DR.mono p x _ r⟩
theorem CellOk.lt {K : PySem.W.Frag} {ι : List Addr} {H : Hp} {a : Addr} {c : Cell} (h : CellOk K ι H a c) : c.lt ι.length = true := by
  cases c with
  | lst ds => obtain ⟨vs, e, r⟩ := h; exact DRs.lt _ r
  | frz ds => obtain ⟨vs, e, r⟩ := h; exact DRs.lt _ r
  | dK kvs => obtain ⟨vs, e, k, r⟩ := h; exact DRs.lt _ r
  | dT kvs => obtain ⟨vs, e, k, r⟩ := h; exact DRs.lt _ r
  | ins C fs => obtain ⟨dx, vs, e, k, r⟩ := h; exact DRs.lt _ r
  | exc y => rfl
  | exv y f d => obtain ⟨C, v, hc, fx, e, r⟩ := h; exact DR.lt _ r
theorem CellOk.less {K : PySem.W.Frag} {ι ι' : List Addr} {H : Hp} {a : Addr} {c : Cell} {n : Nat} (p : ι <+: ι') (hn : ι.length = n) (h : CellOk K ι' H a c) (l : c.lt n = true) : CellOk K ι H a c := by
  cases c with
  | lst ds => obtain ⟨vs, e, r⟩ := h; exact ⟨vs, e, DRs.less p hn _ r l⟩
  | frz ds => obtain ⟨vs, e, r⟩ := h; exact ⟨vs, e, DRs.less p hn _ r l⟩
  | dK kvs => obtain ⟨vs, e, k, r⟩ := h; exact ⟨vs, e, k, DRs.less p hn _ r l⟩
  | dT kvs => obtain ⟨vs, e, k, r⟩ := h; exact ⟨vs, e, k, DRs.less p hn _ r l⟩
  | ins C fs => obtain ⟨dx, vs, e, k, r⟩ := h; exact ⟨dx, vs, e, k, DRs.less p hn _ r l⟩
  | exc y => exact h
  | exv y f d => obtain ⟨C, v, hc, fx, e, r⟩ := h; exact ⟨C, v, hc, fx, e, DR.less p hn _ r l⟩
theorem CellOk.some {K : PySem.W.Frag} {ι : List Addr} {H : Hp} {a : Addr} {c : Cell} (h : CellOk K ι H a c) (m : c.mu = true) : ∃ u, H a = some u ∧ (∀ xs, u ≠ .tup xs) ∧ ∀ q w, u ≠ .frz q w := by
  cases c with
  | lst ds => obtain ⟨vs, e, r⟩ := h; exact ⟨_, e, fun _ z => (by cases z), fun _ _ z => (by cases z)⟩
  | frz ds => cases m
  | dK kvs => obtain ⟨vs, e, k, r⟩ := h; exact ⟨_, e, fun _ z => (by cases z), fun _ _ z => (by cases z)⟩
  | dT kvs => obtain ⟨vs, e, k, r⟩ := h; exact ⟨_, e, fun _ z => (by cases z), fun _ _ z => (by cases z)⟩
  | ins C fs => obtain ⟨dx, vs, e, k, r⟩ := h; exact ⟨_, e, fun _ z => (by cases z), fun _ _ z => (by cases z)⟩
  | exc y => obtain ⟨C, hc, e⟩ := h; exact ⟨_, e, fun _ z => (by cases z), fun _ _ z => (by cases z)⟩
  | exv y f d => cases m
structure Sok (K : PySem.W.Frag) (ι : List Addr) (H : Hp) (S : Store) : Prop where
  len : ι.length = S.length
  nd : ∀ (m n : Nat) (a : Addr) (c c' : Cell), ι[m]? = some a → ι[n]? = some a → S[m]? = some c → S[n]? = some c' → c.mu = true → c'.mu = true → m = n
  ok : ∀ (n : Nat) (a : Addr) (c : Cell), ι[n]? = some a → S[n]? = some c → CellOk K ι H a c
section
variable {K : PySem.W.Frag} {ι ι' : List Addr} {H H' : Hp} {S S' : Store} {p a : Addr} {n : Nat}
theorem Sok.at (h : Sok K ι H S) {c : Cell} (e : S[n]? = some c) : ∃ a, ι[n]? = some a ∧ CellOk K ι H a c := by
  have hn : n < ι.length := by rw [h.len]; exact (List.getElem?_eq_some_iff.mp e).1
  exact ⟨ι[n], List.getElem?_eq_getElem hn, h.ok n _ c (List.getElem?_eq_getElem hn) e⟩
/-- a tuple more -/
theorem Sok.tup (h : Sok K ι H S) (hp : H p = none) {o : HO} : Sok K ι (upd H p o) S where
  len := h.len
  nd := h.nd
  ok := fun n a c e1 e2 => (h.ok n a c e1 e2).mono (List.prefix_refl ι) (Xt.new hp) fun m => by
    obtain ⟨u, e, _⟩ := (h.ok n a c e1 e2).some m
    exact upd_ne (ne_of_none e hp)
/-- a cell more -/
theorem Sok.push (h : Sok K ι H S) (hp : H p = none) {o : HO} {c : Cell} (new : CellOk K (ι ++ [p]) (upd H p o) p c) : Sok K (ι ++ [p]) (upd H p o) (S ++ [c]) where
  len := by simp [h.len]
  nd := by
    have key : ∀ (m : Nat) (a : Addr) (c' : Cell), ι[m]? = some a → S[m]? = some c' → c'.mu = true → a ≠ p := fun m a c' e1 e2 hm => by
      obtain ⟨u, e, _⟩ := (h.ok m a c' e1 e2).some hm
      exact ne_of_none e hp
    intro m n a c1 c2 h1 h2 h3 h4 m1 m2
    rw [List.getElem?_append] at h1 h2
    rw [List.getElem?_append] at h3 h4
    rw [h.len] at h1 h2
    by_cases hm : m < S.length
    · rw [if_pos hm] at h1 h3
      by_cases hn : n < S.length
      · rw [if_pos hn] at h2 h4
        exact h.nd m n a c1 c2 h1 h2 h3 h4 m1 m2
      · rw [if_neg hn] at h2
        have e : a = p := by
          cases q : n - S.length with
          | zero => rw [q] at h2; simpa using h2.symm
          | succ k => rw [q] at h2; simp at h2
        exact absurd e (key m a c1 h1 h3 m1)
    · rw [if_neg hm] at h1 h3
      by_cases hn : n < S.length
      · rw [if_pos hn] at h2 h4
        have e : a = p := by
          cases q : m - S.length with
          | zero => rw [q] at h1; simpa using h1.symm
          | succ k => rw [q] at h1; simp at h1
        exact absurd e (key n a c2 h2 h4 m2)
      · rw [if_neg hn] at h4
        have q1 : m - S.length = 0 := by
          cases q : m - S.length with
          | zero => rfl
          | succ k => rw [q] at h3; simp at h3
        have q2 : n - S.length = 0 := by
          cases q : n - S.length with
          | zero => rfl
          | succ k => rw [q] at h4; simp at h4
        omega
  ok := by
    intro n a c' e1 e2
    rw [List.getElem?_append] at e1 e2
    rw [h.len] at e1
    by_cases hn : n < S.length
    · rw [if_pos hn] at e1 e2
      exact (h.ok n a c' e1 e2).mono (List.prefix_append ι [p]) (Xt.new hp) fun m => by
        obtain ⟨u, e, _⟩ := (h.ok n a c' e1 e2).some m
        exact upd_ne (ne_of_none e hp)
    · rw [if_neg hn] at e1 e2
      cases q : n - S.length with
      | zero =>
        rw [q] at e1 e2
        simp at e1 e2
        subst e1 e2
        exact new
      | succ k => rw [q] at e2; simp at e2
/-- a cell written -/
theorem Sok.put (h : Sok K ι H S) (e1 : ι[n]? = some a) {c c' : Cell} (e2 : S[n]? = some c) (m : c.mu = true) {o : HO} (new : Xt H (upd H a o) → CellOk K ι (upd H a o) a c') :
    Sok K ι (upd H a o) (S.set n c') ∧ Xt H (upd H a o) := by
  obtain ⟨u, eu, nt, nf⟩ := (h.ok n a c e1 e2).some m
  have x : Xt H (upd H a o) := Xt.write eu nt nf
  have hn : n < S.length := (List.getElem?_eq_some_iff.mp e2).1
  refine ⟨⟨by simp [h.len], ?_, ?_⟩, x⟩
  · intro i j b c1 c2 h1 h2 h3 h4 m1 m2
    rw [List.getElem?_set] at h3 h4
    have get : ∀ (i : Nat) (c1 : Cell), (if n = i then if n < S.length then some c' else none else S[i]?) = some c1 → c1.mu = true → ∃ c0, S[i]? = some c0 ∧ c0.mu = true := fun i c1 q mm => by
      by_cases hi : n = i
      · subst hi; exact ⟨c, e2, m⟩
      · rw [if_neg hi] at q; exact ⟨c1, q, mm⟩
    obtain ⟨c3, q3, m3⟩ := get i c1 h3 m1
    obtain ⟨c4, q4, m4⟩ := get j c2 h4 m2
    exact h.nd i j b c3 c4 h1 h2 q3 q4 m3 m4
  · intro i b c1 q1 q2
    rw [List.getElem?_set] at q2
    by_cases hi : n = i
    · subst hi
      rw [if_pos rfl, if_pos hn] at q2
      cases q2
      rw [e1] at q1; cases q1
      exact new x
    · rw [if_neg hi] at q2
      refine (h.ok i b c1 q1 q2).mono (List.prefix_refl ι) x fun mm => ?_
      refine upd_ne fun z => ?_
      subst z
      exact hi (h.nd n i b c c1 e1 q1 e2 q2 m mm)
theorem pre_take (p : ι <+: ι') : ι'.take ι.length = ι := by
  obtain ⟨t, rfl⟩ := p
  simp
/-- fewer cells -/
theorem Sok.less (h : Sok K ι H S) (h' : Sok K ι' H' S') (p : ι <+: ι') (kp : Keep S S') : Sok K ι H' (S'.take S.length) where
  len := by rw [List.length_take, h.len]; have := kp.1; omega
  nd := by
    intro m n a c c' h1 h2 h3 h4
    rw [List.getElem?_take] at h3 h4
    split at h3
    · split at h4
      · exact h'.nd m n a c c' (pre_get p h1) (pre_get p h2) h3 h4
      · cases h4
    · cases h3
  ok := by
    intro n a c e1 e2
    rw [List.getElem?_take] at e2
    split at e2
    · rename_i hn
      refine (h'.ok n a c (pre_get p e1) e2).less p h.len ?_
      rcases kp.2 n c hn e2 with q | q
      · have := (h.ok n a c e1 q).lt
        rw [h.len] at this
        exact this
      · exact q
    · cases e2
theorem Sok.less1 (h : Sok K ι H S) (h' : Sok K ι' H' S') (p : ι <+: ι') (kp : Keep S S') {k : Nat} {c : Cell} (hk : S.length ≤ k) (ea : ι'[k]? = some a) (ec : S'[k]? = some c) (lc : c.lt S.length = true) :
    Sok K (ι ++ [a]) H' (S'.take S.length ++ [c]) := by
  have L := h.less h' p kp
  have hl : (S'.take S.length).length = S.length := by rw [← L.len, h.len]
  refine ⟨by have := kp.1; simp [h.len]; omega, ?_, ?_⟩
  · intro m n b c1 c2 h1 h2 h3 h4 m1 m2
    have get : ∀ (m : Nat) (b : Addr) (c1 : Cell), (ι ++ [a])[m]? = some b → (S'.take S.length ++ [c])[m]? = some c1 → ∃ m', ι'[m']? = some b ∧ S'[m']? = some c1 ∧ (m < S.length → m' = m) ∧ (¬ m < S.length → m' = k ∧ m = S.length) := by
      intro m b c1 q1 q2
      rw [List.getElem?_append] at q1 q2
      rw [h.len] at q1
      rw [hl] at q2
      by_cases hm : m < S.length
      · rw [if_pos hm] at q1 q2
        rw [List.getElem?_take, if_pos hm] at q2
        exact ⟨m, pre_get p q1, q2, fun _ => rfl, fun z => absurd hm z⟩
      · rw [if_neg hm] at q1 q2
        cases q : m - S.length with
        | zero =>
          rw [q] at q1 q2
          simp at q1 q2
          subst q1 q2
          exact ⟨k, ea, ec, fun z => absurd z hm, fun _ => ⟨rfl, by omega⟩⟩
        | succ j => rw [q] at q2; simp at q2
    obtain ⟨m', a1, a2, a3, a4⟩ := get m b c1 h1 h3
    obtain ⟨n', b1, b2, b3, b4⟩ := get n b c2 h2 h4
    have e := h'.nd m' n' b c1 c2 a1 b1 a2 b2 m1 m2
    by_cases hm : m < S.length
    · by_cases hn : n < S.length
      · rw [a3 hm, b3 hn] at e; exact e
      · have := b4 hn; have := a3 hm; omega
    · by_cases hn : n < S.length
      · have := a4 hm; have := b3 hn; omega
      · have := a4 hm; have := b4 hn; omega
  · intro n b c1 q1 q2
    rw [List.getElem?_append] at q1 q2
    rw [h.len] at q1
    rw [hl] at q2
    by_cases hn : n < S.length
    · rw [if_pos hn] at q1 q2
      exact (L.ok n b c1 q1 q2).mono (List.prefix_append ι [a]) (Xt.refl H') fun _ => rfl
    · rw [if_neg hn] at q1 q2
      cases q : n - S.length with
      | zero =>
        rw [q] at q1 q2
        simp at q1 q2
        subst q1 q2
        have := (h'.ok k a c ea ec).less p h.len lc
        exact this.mono (List.prefix_append ι [a]) (Xt.refl H') fun _ => rfl
      | succ j => rw [q] at q2; simp at q2
end
def Res (K : PySem.W.Frag) (ι : List Addr) (H : Hp) (r : R D) (Q : VK) : Prop := match r with
  | .ok d S' => ∀ ι' H' v, ι <+: ι' → Xt H H' → Sok K ι' H' S' → DR K ι' H' d v → Q v H'
  | _ => False
section
variable {K : PySem.W.Frag} {ι ι1 : List Addr} {H H1 : Hp} {S S1 : Store} {Q Q' : VK} {r : R D}
theorem Res.mono (h : Res K ι H r Q) (p : ι <+: ι1) (x : Xt H H1) : Res K ι1 H1 r Q := by
  cases r with
  | ok d S' => exact fun ι' H' v a b c e => h ι' H' v (p.trans a) (x.trans b) c e
  | exc _ _ => exact h
  | bad => exact h
theorem Res.step {α : Type} {r : R α} {f : α → Store → R D} (h : Res K ι H (r.bind f) Q) : ∃ d S1, r = .ok d S1 ∧ Res K ι H (f d S1) Q := by
  cases r with
  | ok d S' => exact ⟨d, S', rfl, h⟩
  | exc _ _ => exact h.elim
  | bad => exact h.elim
theorem Res.ungc (s : Sok K ι H S) (h : Res K ι H (r.gc S) Q) : Res K ι H r Q := by
  cases r with
  | exc _ _ => exact h
  | bad => exact h
  | ok d S' =>
    intro ι' H' v p x s' dr
    simp only [R.gc_ok] at h
    unfold gc at h
    split at h
    · rename_i hc
      exact h ι H' v (List.prefix_refl ι) x (s.less s' p hc.2) (DR.less p s.len d dr hc.1)
    · split at h
      · rename_i k
        split at h
        · rename_i c ec
          split at h
          · rename_i hc
            obtain ⟨a, ea, rfl⟩ := dr
            refine h (ι ++ [a]) H' (.ref a) (List.prefix_append ι [a]) x (s.less1 s' p hc.2.2 hc.1 ea ec hc.2.1) ⟨a, ?_, rfl⟩
            rw [List.getElem?_append_right (by rw [s.len]; exact Nat.le_refl _), s.len]
            simp
          · exact h ι' H' v p x s' dr
        · exact h ι' H' v p x s' dr
      · exact h ι' H' v p x s' dr
theorem Res.ok1 {d : D} {S' : Store} (h : Res K ι H (.ok d S') Q) (p : ι <+: ι1) (x : Xt H H1) (s : Sok K ι1 H1 S') {v : V} (dr : DR K ι1 H1 d v) : Q v H1 := h ι1 H1 v p x s dr
/-- the value is there, the store as it was -/
theorem Res.val {d : D} (h : Res K ι H (.ok d S) Q) (s : Sok K ι H S) {v : V} (dr : DR K ι H d v) : Q v H := h ι H v (List.prefix_refl ι) (Xt.refl H) s dr
/-- a new tuple -/
theorem Res.newT {ds : List D} {vs : List V} (h : Res K ι H (.ok (.tup ds) S) Q) (s : Sok K ι H S) (dr : DRs K ι H ds vs) {p : Addr} (hp : H p = none) : Q (.ref p) (upd H p (.tup vs)) :=
  h ι _ _ (List.prefix_refl ι) (Xt.new hp) (s.tup hp) ⟨p, vs, rfl, .inl upd_same, dr.mono (List.prefix_refl ι) (Xt.new hp)⟩
/-- a new cell -/
theorem Res.newC {c : Cell} (h : Res K ι H (newC c S) Q) (s : Sok K ι H S) {p : Addr} (hp : H p = none) {o : HO} (new : CellOk K (ι ++ [p]) (upd H p o) p c) : Q (.ref p) (upd H p o) :=
  h (ι ++ [p]) _ _ (List.prefix_append ι [p]) (Xt.new hp) (s.push hp new) ⟨p, by rw [← s.len]; simp, rfl⟩
theorem Res.newL {ds : List D} {vs : List V} (h : Res K ι H (Mi.newC (.lst ds) S) Q) (s : Sok K ι H S) (dr : DRs K ι H ds vs) {p : Addr} (hp : H p = none) : Q (.ref p) (upd H p (.lst vs)) :=
  h.newC s hp ⟨vs, upd_same, dr.mono (List.prefix_append ι [p]) (Xt.new hp)⟩
end
theorem lstAt_at {K : PySem.W.Frag} {ι : List Addr} {H : Hp} {S : Store} (s : Sok K ι H S) {n : Nat} {ds : List D} (e : lstAt S (.ref n) = some ds) : ∃ a vs, ι[n]? = some a ∧ SqL K H a vs ∧ DRs K ι H ds vs := by
  unfold lstAt at e
  simp only at e
  split at e
  · rename_i d' q
    cases e
    obtain ⟨a, ea, vs, hv, dr⟩ := s.at q
    exact ⟨a, vs, ea, SqL.of hv, dr⟩
  · rename_i d' q
    cases e
    obtain ⟨a, ea, vs, hv, dr⟩ := s.at q
    exact ⟨a, vs, ea, hv.seq, dr⟩
  · cases e
end Mi
namespace Mi
open PySem L2
/-- what the walk knows of its surroundings -/
structure Cg (X : Cx) : Prop where
  calm : X.calm = true
  un : X.A.units + 150 < cLine
  gu : X.A.guards = some []
  sm : ∃ o es n, X.base.get? sysModules = some o ∧ o.data = .dict es n
section
variable {X : Cx} {pins : List (Addr × Obj)} {σ : St} {H : Hp} {s : Shared} {ι : List Addr} {S : Store}
theorem tracked_ne (c : Cg X) (I : Inv X pins σ H s) {a : Addr} {u : HO} (e : H a = some u) : a ≠ sysModules := by
  obtain ⟨o, es, n, hb, _⟩ := c.sm
  intro z
  subst z
  rw [(I.bs _ _ hb).2] at e
  cases e
theorem seqL_ne (c : Cg X) (I : Inv X pins σ H s) {a : Addr} {vs : List V} (e : SqL X.K H a vs) : a ≠ sysModules := by
  obtain ⟨o, es, n, hb, hd⟩ := c.sm
  rcases e with (e | ⟨q, e⟩) | ⟨q, its, m, hk, _, _, hs, _⟩
  · exact tracked_ne c I e
  · exact tracked_ne c I e
  · intro z
    subst z
    have h1 := I.kIn _ _ hk
    rw [(I.bs _ _ hb).1] at h1
    cases h1
    rw [hd] at hs
    cases hs
theorem reads_keyPy {h : Heap} {P : Program} {w : World} : ∀ (k : Key) (key : Value), (mixKind P w).is k key = true → Reads h key (keyPy k) [] := by
  intro k key e
  have e' : keyIs k key = true := e
  rcases keyIs_shape e' with ⟨i, t, rfl, rfl⟩ | ⟨x, t, rfl, rfl⟩
  · exact Reads.int i t
  · exact Reads.str x t
theorem allSome_cons {α : Type} {o : Option α} {r : List (Option α)} {l : List α} (h : allSome (o :: r) = some l) : ∃ a l', o = some a ∧ allSome r = some l' ∧ l = a :: l' := by
  cases o with
  | none => cases h
  | some a =>
    simp only [allSome] at h
    cases e : allSome r with
    | none => rw [e] at h; cases h
    | some l' => rw [e] at h; cases h; exact ⟨a, l', rfl, rfl, rfl⟩
/-- data of the store are what the heap reads -/
theorem reads (c : Cg X) (I : Inv X pins σ H s) (so : Sok X.K ι H S) : ∀ (k : Nat) (d : D) (p : PyData) (v : V) (u : Value), toPy k S d = some p → DR X.K ι H d v → RelV v u → ∃ as, Reads s.heap u p as ∧ sysModules ∉ as := by
  intro k
  induction k with
  | zero =>
    intro d p v u hp hd r
    cases d with
    | non => cases hp; cases hd; cases r; exact ⟨_, Reads.none, by simp⟩
    | bl b => cases hp; cases hd; cases r; exact ⟨_, Reads.bool b, by simp⟩
    | int i => cases hp; cases hd; obtain ⟨t, rfl⟩ := r; exact ⟨_, Reads.int i t, by simp⟩
    | str x => cases hp; cases hd; obtain ⟨t, rfl⟩ := r; exact ⟨_, Reads.str x t, by simp⟩
    | tup ds => cases hp
    | ref n => cases hp
    | sta w => cases hp
  | succ k ih =>
    have all : ∀ (ds : List D) (ps : List PyData) (vs : List V) (us : List Value), allSome (ds.map (toPy k S)) = some ps → DRs X.K ι H ds vs → Vals vs us → ∃ as, ReadsAll s.heap us ps as ∧ sysModules ∉ as := by
      intro ds
      induction ds with
      | nil =>
        intro ps vs us hp hd r
        cases hp; cases hd; cases r
        exact ⟨_, ReadsAll.nil, by simp⟩
      | cons d ds ihd =>
        intro ps vs us hp hd r
        rw [List.map_cons] at hp
        obtain ⟨p, ps', h1, h2, rfl⟩ := allSome_cons hp
        obtain ⟨v, vs', rfl, d1, d2⟩ := hd
        cases r with
        | cons r1 r2 =>
          obtain ⟨as, a1, a2⟩ := ih d p v _ h1 d1 r1
          obtain ⟨bs, b1, b2⟩ := ihd ps' vs' _ h2 d2 r2
          exact ⟨_, ReadsAll.cons a1 b1, by simp [a2, b2]⟩
    intro d p v u hp hd r
    cases d with
    | non => cases hp; cases hd; cases r; exact ⟨_, Reads.none, by simp⟩
    | bl b => cases hp; cases hd; cases r; exact ⟨_, Reads.bool b, by simp⟩
    | int i => cases hp; cases hd; obtain ⟨t, rfl⟩ := r; exact ⟨_, Reads.int i t, by simp⟩
    | str x => cases hp; cases hd; obtain ⟨t, rfl⟩ := r; exact ⟨_, Reads.str x t, by simp⟩
    | sta w => cases hp
    | tup ds =>
      obtain ⟨a, vs, rfl, sq, dr⟩ := hd
      cases r
      simp only [toPy] at hp
      obtain ⟨ps, hps, rfl⟩ := Option.map_eq_some_iff.mp hp
      obtain ⟨its, rv, ⟨o, ho, hc, n, hdt⟩, _⟩ := I.tuple sq.sq
      obtain ⟨as, a1, a2⟩ := all ds ps vs its hps dr rv
      exact ⟨_, Reads.tuple ho hc hdt a1, a2⟩
    | ref n =>
      obtain ⟨a, ea, rfl⟩ := hd
      cases r
      simp only [toPy] at hp
      cases hc : S[n]? with
      | none => rw [hc] at hp; cases hp
      | some cell =>
        rw [hc] at hp
        have ok := so.ok n a cell ea hc
        have list : ∀ (ds : List D) (vs : List V), (allSome (ds.map (toPy k S))).map PyData.list = some p → SqL X.K H a vs → DRs X.K ι H ds vs → ∃ as, Reads s.heap (.ref a) p as ∧ sysModules ∉ as := by
          intro ds vs hp sq dr
          obtain ⟨ps, hps, rfl⟩ := Option.map_eq_some_iff.mp hp
          obtain ⟨its, rv, ⟨o, m, ho, hcl, _, hdt⟩, _⟩ := I.list sq
          obtain ⟨as, a1, a2⟩ := all ds ps vs its hps dr rv
          exact ⟨_, Reads.list ho hcl hdt a1, by simp only [List.mem_cons, not_or]; exact ⟨(seqL_ne c I sq).symm, a2⟩⟩
        cases cell with
        | lst ds => obtain ⟨vs, e, dr⟩ := ok; exact list ds vs hp (SqL.of e) dr
        | frz ds => obtain ⟨vs, e, dr⟩ := ok; exact list ds vs hp e.seq dr
        | dT kvs => cases hp
        | ins C fs => cases hp
        | exc y => cases hp
        | exv y f d => cases hp
        | dK kvs =>
          obtain ⟨vs, e, kr, dr⟩ := ok
          simp only at hp
          obtain ⟨ps, hps, rfl⟩ := Option.map_eq_some_iff.mp hp
          obtain ⟨_, _, raw, rel, dd⟩ := dk_of I.hok e
          have pr : ∀ (kvs : List (Key × D)) (vs : List (Key × V)) (raw : List (Key × Value)) (ps : List PyData), kvs.map (·.1) = vs.map (·.1) → DRs X.K ι H (kvs.map (·.2)) (vs.map (·.2)) → KV vs raw →
              allSome (kvs.map fun kv => toPy k S kv.2) = some ps → ∃ bs, PyProof.V.PairsRead s.heap keyPy raw ((kvs.map fun kv => keyPy kv.1).zip ps) bs ∧ sysModules ∉ bs := by
            intro kvs
            induction kvs with
            | nil =>
              intro vs raw ps h1 h2 h3 h4
              cases vs with
              | cons _ _ => simp at h1
              | nil =>
                cases h3
                exact ⟨_, PyProof.V.PairsRead.nil, by simp⟩
            | cons kv kvs ihk =>
              intro vs raw ps h1 h2 h3 h4
              cases vs with
              | nil => simp at h1
              | cons w ws =>
                rw [List.map_cons] at h4
                obtain ⟨q, ps', g1, g2, rfl⟩ := allSome_cons h4
                simp only [List.map_cons, List.cons.injEq] at h1
                obtain ⟨v, r, e1, d1, d2⟩ := h2
                simp only [List.map_cons, List.cons.injEq] at e1
                obtain ⟨e1, e2⟩ := e1
                subst e1 e2
                cases h3 with
                | @cons x y xs ys h5 h6 =>
                  obtain ⟨h51, h52⟩ := h5
                  obtain ⟨as, a1, a2⟩ := ih kv.2 q w.2 y.2 g1 d1 h52
                  obtain ⟨bs, b1, b2⟩ := ihk ws ys ps' h1.2 d2 h6 g2
                  refine ⟨as ++ bs, ?_, by simp [a2, b2]⟩
                  obtain ⟨yk, yv⟩ := y
                  have ek : kv.1 = yk := h1.1.trans h51
                  rw [List.map_cons, List.zip_cons_cons, ek]
                  exact PyProof.V.PairsRead.cons a1 b1
          obtain ⟨bs, b1, b2⟩ := pr kvs vs raw ps kr dr rel hps
          exact ⟨_, PyProof.V.reads_dictOf reads_keyPy dd b1, by simp only [List.mem_cons, not_or]; exact ⟨(tracked_ne c I e).symm, b2⟩⟩
theorem nilB_some {S : Store} {a b : D} {r : Bool} (h : nilB S a b = some r) : ∃ n m ds, a = .ref n ∧ b = .ref m ∧ S[n]? = some (.lst ds) ∧ S[m]? = some (.lst []) ∧ r = ds.isEmpty := by
  unfold nilB at h
  split at h
  · rename_i n m
    split at h
    · rename_i ds e1 e2
      cases h
      exact ⟨n, m, ds, rfl, rfl, e1, e2, rfl⟩
    · cases h
  · cases h
theorem eqX_some {S : Store} {a b : D} {r : Bool} (h : eqX S a b = some r) : (∃ n m ds, a = .ref n ∧ b = .ref m ∧ S[n]? = some (.lst ds) ∧ S[m]? = some (.lst []) ∧ r = ds.isEmpty) ∨ eqD S a b = some r := by
  unfold eqX at h
  split at h
  · rename_i q hq
    cases h
    exact .inl (nilB_some hq)
  · exact .inr h
/-- lists of which one is empty -/
theorem nil_lists (c : Cg X) (I : Inv X pins σ H s) (so : Sok X.K ι H S) {n m : Nat} {ds : List D} {d1 d2 : V} {x y : Value} (e1 : S[n]? = some (.lst ds)) (e2 : S[m]? = some (.lst [])) (h1 : DR X.K ι H (.ref n) d1) (h2 : DR X.K ι H (.ref m) d2) (rx : RelV d1 x) (ry : RelV d2 y) : SeqAt.RcAt X.A s x y ds.isEmpty := by
  have un : X.A.units < cLine := by have := c.un; omega
  obtain ⟨a1, ea1, rfl⟩ := h1
  obtain ⟨a2, ea2, rfl⟩ := h2
  cases rx
  cases ry
  obtain ⟨vs1, q1, dr1⟩ := so.ok n a1 _ ea1 e1
  obtain ⟨vs2, q2, dr2⟩ := so.ok m a2 _ ea2 e2
  obtain ⟨its1, rv1, ⟨o1, m1, ho1, hc1, _, hd1⟩, _⟩ := I.list (SqL.of q1)
  obtain ⟨its2, rv2, ⟨o2, m2, ho2, hc2, _, hd2⟩, _⟩ := I.list (SqL.of q2)
  cases dr2
  cases rv2
  cases ds with
  | nil =>
    cases dr1
    cases rv1
    exact SeqAt.RcAt.lists (e := fun _ => true) ⟨_, ho1, hc1, _, hd1⟩ ⟨_, ho2, hc2, _, hd2⟩ rfl un fun j j1 _ => absurd j1 (Nat.not_lt_zero _)
  | cons d ds =>
    obtain ⟨v, vs, rfl, _, _⟩ := dr1
    cases rv1
    exact SeqAt.RcAt.lists_lengths ⟨_, ho1, hc1, _, hd1⟩ ⟨_, ho2, hc2, _, hd2⟩ (by simp) un
end
def RO (K : PySem.W.Frag) (f : D → D → Store → R D) : R2 := fun x y H Q => ∃ ι S d1 d2, Sok K ι H S ∧ DR K ι H d1 x ∧ DR K ι H d2 y ∧ Res K ι H (f d1 d2 S) Q
section
variable {X : Cx}
theorem okIf_res {K : PySem.W.Frag} {ι : List Addr} {H : Hp} {b : Bool} {d : D} {S : Store} {Q : VK} (h : Res K ι H (okIf b d S) Q) : b = true ∧ Res K ι H (.ok d S) Q := by
  unfold okIf at h
  cases b with
  | true => exact ⟨rfl, h⟩
  | false => exact h.elim
theorem op_bin (op : Operator) : OpR X (binaryOp op) (RO X.K (binD op)) := by
  intro pins s σ H x y v u Q I rx ry h
  obtain ⟨ι, S, d1, d2, so, h1, h2, res⟩ := h
  cases op with
  | Add =>
    cases d1 with
    | bl b => cases d2 with
      | int j =>
        cases h1; cases h2
        obtain rfl : v = Value.bool b := rx
        obtain ⟨t, rfl⟩ := ry
        exact PySem.IntBool.add_bool_int ⟨.int _, H, I.tok _, ⟨_, rfl⟩, res.val so rfl⟩
      | _ => exact res.elim
    | int i => cases d2 with
      | int j => cases h1; cases h2; exact op_add pins s σ H _ _ v u Q I rx ry ⟨i, j, rfl, rfl, res.val so rfl⟩
      | _ => exact res.elim
    | str a => cases d2 with
      | str b =>
        cases h1; cases h2
        obtain ⟨hz, res⟩ := okIf_res res
        exact op_add_str pins s σ H _ _ v u Q I rx ry ⟨a, b, rfl, rfl, of_decide_eq_true hz, res.val so rfl⟩
      | _ => exact res.elim
    | tup xs => cases d2 with
      | tup ys =>
        obtain ⟨hz, res⟩ := okIf_res res
        obtain ⟨a, vs, rfl, q1, r1⟩ := h1
        obtain ⟨b, ws, rfl, q2, r2⟩ := h2
        refine op_catA pins s σ H _ _ v u Q I rx ry ⟨a, b, vs, ws, rfl, rfl, q1.sq, q2.sq, ?_, fun e => ?_, fun e1 e2 => ?_, fun e1 e2 p hp => ?_⟩
        · rw [r1.length, r2.length]; exact of_decide_eq_true hz
        · subst e
          have := r1.length
          have e : xs = [] := List.eq_nil_of_length_eq_zero this.symm
          subst e
          exact res.val so ⟨b, ws, rfl, q2, r2⟩
        · subst e2
          have := r2.length
          have e : ys = [] := List.eq_nil_of_length_eq_zero this.symm
          subst e
          rw [List.append_nil] at res
          exact res.val so ⟨a, vs, rfl, q1, r1⟩
        · exact res.newT so (r1.append r2) hp
      | _ => exact res.elim
    | ref m => cases d2 with
      | ref n =>
        obtain ⟨a, e1, rfl⟩ := h1
        obtain ⟨b, e2, rfl⟩ := h2
        simp only [binD] at res
        split at res
        · rename_i xs ys c1 c2
          split at res
          · rename_i hz
            obtain ⟨vs, g1, r1⟩ := so.ok _ _ _ e1 c1
            obtain ⟨ws, g2, r2⟩ := so.ok _ _ _ e2 c2
            exact op_cat pins s σ H _ _ v u Q I rx ry ⟨a, b, vs, ws, rfl, rfl, g1, g2, by rw [r1.length, r2.length]; exact of_decide_eq_true hz, fun p hp => res.newL so (r1.append r2) hp⟩
          · exact res.elim
        · exact res.elim
      | _ => exact res.elim
    | _ => exact res.elim
  | Sub =>
    cases d1 with
    | bl b => cases d2 with
      | int j =>
        cases h1; cases h2
        obtain rfl : v = Value.bool b := rx
        obtain ⟨t, rfl⟩ := ry
        exact PySem.IntBool.sub_bool_int ⟨.int _, H, I.tok _, ⟨_, rfl⟩, res.val so rfl⟩
      | _ => exact res.elim
    | int i => cases d2 with
      | int j => cases h1; cases h2; exact op_sub pins s σ H _ _ v u Q I rx ry ⟨i, j, rfl, rfl, res.val so rfl⟩
      | bl b =>
        cases h1; cases h2
        obtain ⟨t, rfl⟩ := rx
        obtain rfl : u = Value.bool b := ry
        exact PySem.IntBool.sub_int_bool ⟨.int _, H, I.tok _, ⟨_, rfl⟩, res.val so rfl⟩
      | _ => exact res.elim
    | _ => exact res.elim
  | Mult =>
    cases d1 with
    | int i => cases d2 with
      | int j =>
        cases h1; cases h2
        obtain ⟨hz, res⟩ := okIf_res res
        rw [Bool.or_eq_true] at hz
        rcases hz with hz | hz
        · exact op_mul pins s σ H _ _ v u Q I rx ry ⟨i, j, rfl, rfl, of_decide_eq_true hz, res.val so rfl⟩
        · exact op_mulW pins s σ H _ _ v u Q I rx ry ⟨i, j, rfl, rfl, of_decide_eq_true hz, res.val so rfl⟩
      | _ => exact res.elim
    | ref m => cases d2 with
      | int j =>
        obtain ⟨a, e1, rfl⟩ := h1
        cases h2
        simp only [binD] at res
        split at res
        · rename_i xs c1
          split at res
          · rename_i hz
            simp only [Bool.and_eq_true, decide_eq_true_eq, sizeOk] at hz
            obtain ⟨vs, g1, r1⟩ := so.ok _ _ _ e1 c1
            have rep : ∀ n : Nat, DRs X.K ι H (List.replicate n xs).flatten (List.replicate n vs).flatten := fun n => by
              induction n with
              | zero => exact rfl
              | succ n ih => rw [List.replicate_succ, List.replicate_succ, List.flatten_cons, List.flatten_cons]; exact r1.append ih
            exact op_rep pins s σ H _ _ v u Q I rx ry ⟨a, j, vs, rfl, rfl, g1, by omega, hz.1.2, by rw [r1.length]; exact hz.2, fun p hp => res.newL so (rep _) hp⟩
          · exact res.elim
        · exact res.elim
      | _ => exact res.elim
    | _ => exact res.elim
  | FloorDiv =>
    cases d1 with
    | int i => cases d2 with
      | int j =>
        cases h1; cases h2
        obtain ⟨hz, res⟩ := okIf_res res
        exact op_fdivW pins s σ H _ _ v u Q I rx ry ⟨i, j, rfl, rfl, of_decide_eq_true hz, res.val so rfl⟩
      | _ => exact res.elim
    | _ => exact res.elim
  | Mod =>
    cases d1 with
    | int i => cases d2 with
      | int j =>
        cases h1; cases h2
        obtain ⟨hz, res⟩ := okIf_res res
        exact op_mod pins s σ H _ _ v u Q I rx ry ⟨i, j, rfl, rfl, of_decide_eq_true hz, res.val so rfl⟩
      | _ => exact res.elim
    | _ => exact res.elim
  | Pow =>
    cases d1 with
    | int i => cases d2 with
      | int j =>
        cases h1; cases h2
        obtain ⟨hz, res⟩ := okIf_res res
        exact op_pow pins s σ H _ _ v u Q I rx ry ⟨i, j, rfl, rfl, of_decide_eq_true hz, res.val so rfl⟩
      | _ => exact res.elim
    | _ => exact res.elim
  | _ => exact res.elim
theorem un_negD : UnR X (unaryOp .USub) (fun x H Q => ∃ ι S d, Sok X.K ι H S ∧ DR X.K ι H d x ∧ Res X.K ι H (negD d S) Q) := by
  intro pins s σ H x v Q I rx h
  obtain ⟨ι, S, d, so, h1, res⟩ := h
  cases d with
  | int i => cases h1; exact un_neg pins s σ H _ v Q I rx ⟨i, rfl, res.val so rfl⟩
  | _ => exact res.elim
theorem ofB_res {K : PySem.W.Frag} {ι : List Addr} {H : Hp} {o : Option Bool} {S : Store} {Q : VK} (h : Res K ι H (ofB o S) Q) : ∃ b, o = some b ∧ Res K ι H (.ok (.bl b) S) Q := by
  cases o with
  | none => exact h.elim
  | some b => exact ⟨b, rfl, h⟩
theorem eqD_some {S : Store} {a b : D} {r : Bool} (h : eqD S a b = some r) : ∃ p q, py S a = some p ∧ py S b = some q ∧ SeqAt.shaped p = true ∧ SeqAt.shaped q = true ∧ r = PyData.eqv p q := by
  unfold eqD at h
  cases hp : py S a with
  | none => rw [hp] at h; cases h
  | some p =>
    cases hq : py S b with
    | none => rw [hp, hq] at h; cases h
    | some q =>
      rw [hp, hq] at h
      simp only at h
      split at h
      · rename_i e
        rw [Bool.and_eq_true] at e
        cases h
        exact ⟨p, q, rfl, rfl, e.1, e.2, rfl⟩
      · cases h
theorem inD_some {S : Store} {x : D} {ds : List D} {r : Bool} (h : inD S x ds = some r) : ∃ p qs, py S x = some p ∧ allSome (ds.map (toPy 49 S)) = some qs ∧ SeqAt.shaped p = true ∧ SeqAt.shaped (.list qs) = true ∧ r = qs.any fun q => PyData.eqv q p := by
  unfold inD at h
  cases hp : py S x with
  | none => rw [hp] at h; cases h
  | some p =>
    cases hq : allSome (ds.map (toPy 49 S)) with
    | none => rw [hp, hq] at h; cases h
    | some q =>
      rw [hp, hq] at h
      simp only at h
      split at h
      · rename_i e
        rw [Bool.and_eq_true] at e
        cases h
        exact ⟨p, q, rfl, rfl, e.1, e.2, rfl⟩
      · cases h
theorem valV_lookK {κ : Type} [DecidableEq κ] {K : PySem.W.Frag} {ι : List Addr} {H : Hp} (k : κ) : ∀ {kvs : List (κ × D)} {vs : List (κ × V)}, KR K ι H kvs vs →
    (lookK kvs k = none ∧ valV vs k = none) ∨ ∃ d v, lookK kvs k = some d ∧ valV vs k = some v ∧ DR K ι H d v := by
  intro kvs
  induction kvs with
  | nil =>
    intro vs h
    cases vs with
    | nil => exact .inl ⟨rfl, rfl⟩
    | cons _ _ => have := h.1; simp at this
  | cons p r ih =>
    intro vs h
    cases vs with
    | nil => have := h.1; simp at this
    | cons q s =>
      obtain ⟨h1, v, t, e, d1, d2⟩ := h
      simp only [List.map_cons, List.cons.injEq] at h1 e
      obtain ⟨e1, e2⟩ := e
      subst e1 e2
      by_cases hk : p.1 = k
      · refine .inr ⟨p.2, q.2, by simp [lookK, hk], valV_pos (h1.1 ▸ hk), d1⟩
      · rcases ih (vs := s) ⟨h1.2, d2⟩ with ⟨a, b⟩ | ⟨d, v, a, b, c⟩
        · exact .inl ⟨by simpa [lookK, List.find?_cons, hk] using a, by rw [valV_neg (fun z => hk (h1.1.trans z)), b]⟩
        · exact .inr ⟨d, v, by simpa [lookK, List.find?_cons, hk] using a, by rw [valV_neg (fun z => hk (h1.1.trans z)), b], c⟩
theorem keyOf_kV {K : PySem.W.Frag} {ι : List Addr} {H : Hp} {d : D} {k : Key} {v : V} (e : keyOf d = some k) (h : DR K ι H d v) : v = kV k := by
  cases d with
  | int i => cases e; exact h
  | str x => cases e; exact h
  | _ => cases e
theorem DR_key {K : PySem.W.Frag} {ι : List Addr} {H : Hp} (k : Key) : DR K ι H (keyD k) (kV k) := by
  cases k <;> exact rfl
theorem neg_map {o : Option Bool} {b : Bool} (h : o.map (!·) = some b) : ∃ c, o = some c ∧ b = !c := by
  cases o with
  | none => cases h
  | some c => cases h; exact ⟨c, rfl, rfl⟩
theorem sign_of {c : Str} {z : Nat} (h : c.cps.toList = [z]) : c = ⟨#[z]⟩ := by
  obtain ⟨a⟩ := c
  have : a = #[z] := by
    apply Array.toList_inj.mp
    simpa using h
  rw [this]
theorem op_in (c : Cg X) {pins : List (Addr × Obj)} {s : Shared} {σ : St} {H : Hp} {x y : V} {v u : Value} {Q : VK} (neg : Bool) (I : Inv X pins σ H s) (rx : RelV x v) (ry : RelV y u)
    {ι : List Addr} {S : Store} {d1 d2 : D} {b : Bool} (so : Sok X.K ι H S) (h1 : DR X.K ι H d1 x) (h2 : DR X.K ι H d2 y) (hb : hasD d1 d2 S = some b) (res : Res X.K ι H (.ok (.bl (if neg then !b else b)) S) Q) :
    wpAny (model X.prog X.w) X.A (compareOp (if neg then .NotIn else .In) v u) (EP X pins σ Q) X.xe s := by
  have fin : EP X pins σ Q (.bool (if neg then !b else b)) s := ⟨.bl _, H, I, rfl, res.val so rfl⟩
  have un : X.A.units + 65 < cLine := by have := c.un; omega
  have un1 : X.A.units + 1 < cLine := by have := c.un; omega
  have tupc : ∀ ds, d2 = .tup ds → inD S d1 ds = some b → wpAny (model X.prog X.w) X.A (compareOp (if neg then .NotIn else .In) v u) (EP X pins σ Q) X.xe s := by
    rintro ds rfl hb
    obtain ⟨p, qs, hp, hq, sp, sq, rfl⟩ := inD_some hb
    obtain ⟨as, r1, _⟩ := reads c I so 50 d1 p x v hp h1 rx
    obtain ⟨bs, r2, _⟩ := reads c I so 50 (.tup ds) (.tuple qs) y u (by simp only [toPy, hq]; rfl) h2 ry
    have sl : PyData.canLayAll0 qs = true := SeqAt.canLay_of_shaped sq
    cases neg with
    | false => exact SeqAt.in_tuple_reads r2 r1 sl (SeqAt.canLay_of_shaped sp) (PyProof.Rows.room_in_shaped sp un) fin
    | true => exact SeqAt.notIn_tuple_reads r2 r1 sl (SeqAt.canLay_of_shaped sp) (PyProof.Rows.room_in_shaped sp un) fin
  have lstc : ∀ n ds, d2 = .ref n → (S[n]? = some (.lst ds) ∨ S[n]? = some (.frz ds)) → inD S d1 ds = some b → wpAny (model X.prog X.w) X.A (compareOp (if neg then .NotIn else .In) v u) (EP X pins σ Q) X.xe s := by
    rintro n ds rfl hc hb
    obtain ⟨p, qs, hp, hq, sp, sq, rfl⟩ := inD_some hb
    obtain ⟨as, r1, _⟩ := reads c I so 50 d1 p x v hp h1 rx
    obtain ⟨bs, r2, _⟩ := reads c I so 50 (.ref n) (.list qs) y u (by rcases hc with hc | hc <;> (simp only [toPy, hc, hq]; rfl)) h2 ry
    have sl : PyData.canLayAll0 qs = true := SeqAt.canLay_of_shaped sq
    cases neg with
    | false => exact SeqAt.in_list_reads r2 r1 sl (SeqAt.canLay_of_shaped sp) (PyProof.Rows.room_in_shaped sp un) fin
    | true => exact SeqAt.notIn_list_reads r2 r1 sl (SeqAt.canLay_of_shaped sp) (PyProof.Rows.room_in_shaped sp un) fin
  cases d2 with
  | tup ds => exact tupc ds rfl (by cases d1 <;> exact hb)
  | str z =>
    cases d1 with
    | str w =>
      cases h1; cases h2
      simp only [hasD] at hb
      split at hb
      · rename_i sg e
        cases hb
        have e' := sign_of e
        subst e'
        cases neg with
        | false => exact op_in_sign pins s σ H _ _ v u Q I rx ry ⟨sg, z, rfl, rfl, res.val so rfl⟩
        | true => exact op_notIn_sign pins s σ H _ _ v u Q I rx ry ⟨sg, z, rfl, rfl, res.val so rfl⟩
      · cases hb
    | _ => cases hb
  | ref n =>
    have hb' : (match S[n]? with
      | some (.lst ds) => inD S d1 ds
      | some (.frz ds) => inD S d1 ds
      | some (.dK kvs) => (keyOf d1).map fun k => (lookK kvs k).isSome
      | _ => none) = some b := by cases d1 <;> exact hb
    split at hb'
    · exact lstc n _ rfl (.inl ‹_›) hb'
    · exact lstc n _ rfl (.inr ‹_›) hb'
    · rename_i kvs hc
      obtain ⟨k, hk, e⟩ := Option.map_eq_some_iff.mp hb'
      subst e
      obtain ⟨a, ea, rfl⟩ := h2
      cases ry
      obtain ⟨vs, hv, kr⟩ := so.ok _ _ _ ea hc
      have hx := keyOf_kV hk h1
      subst hx
      have same : (valV vs k).isSome = (lookK kvs k).isSome := by
        rcases valV_lookK k kr with ⟨e1, e2⟩ | ⟨d, w, e1, e2, _⟩ <;> rw [e1, e2] <;> rfl
      cases neg with
      | false => exact d_in un1 I (DGet.k (k := k) hv) rx fun s' I' => ⟨.bl _, H, I', rfl, by rw [same]; exact res.val so rfl⟩
      | true => exact d_notIn un1 I (DGet.k (k := k) hv) rx fun s' I' => ⟨.bl _, H, I', rfl, by rw [same]; exact res.val so rfl⟩
    · cases hb'
  | _ => cases d1 <;> cases hb
theorem op_cmp (c : Cg X) (op : CmpOp) : OpR X (compareOp op) (RO X.K (cmpD op)) := by
  intro pins s σ H x y v u Q I rx ry h
  obtain ⟨ι, S, d1, d2, so, h1, h2, res⟩ := h
  have un : X.A.units + 64 < cLine := by have := c.un; omega
  cases op with
  | Eq =>
    obtain ⟨b, hb, res⟩ := ofB_res (show Res X.K ι H (ofB (eqX S d1 d2) S) Q from by cases d1 <;> exact res)
    rcases eqX_some hb with ⟨n, m, ds, rfl, rfl, e1, e2, rfl⟩ | hb
    · exact nil_lists c I so e1 e2 h1 h2 rx ry _ _ _ _ ⟨.bl _, H, I, rfl, res.val so rfl⟩
    obtain ⟨p, q, hp, hq, sp, sq, rfl⟩ := eqD_some hb
    obtain ⟨as, r1, _⟩ := reads c I so 50 d1 p x v hp h1 rx
    obtain ⟨bs, r2, _⟩ := reads c I so 50 d2 q y u hq h2 ry
    exact SeqAt.compareEq_shaped r1 r2 sp sq un ⟨.bl _, H, I, rfl, res.val so rfl⟩
  | NotEq =>
    obtain ⟨b, hb, res⟩ := ofB_res (show Res X.K ι H (ofB ((eqD S d1 d2).map (!·)) S) Q from by cases d1 <;> exact res)
    obtain ⟨b', hb', rfl⟩ := neg_map hb
    obtain ⟨p, q, hp, hq, sp, sq, rfl⟩ := eqD_some hb'
    obtain ⟨as, r1, _⟩ := reads c I so 50 d1 p x v hp h1 rx
    obtain ⟨bs, r2, _⟩ := reads c I so 50 d2 q y u hq h2 ry
    exact SeqAt.compareNe_shaped r1 r2 sp sq un ⟨.bl _, H, I, rfl, res.val so rfl⟩
  | Lt =>
    cases d1 with
    | int i => cases d2 with
      | int j => cases h1; cases h2; exact op_lt pins s σ H _ _ v u Q I rx ry ⟨i, j, rfl, rfl, res.val so rfl⟩
      | _ => exact res.elim
    | str i => cases d2 with
      | str j => cases h1; cases h2; exact op_lt_str pins s σ H _ _ v u Q I rx ry ⟨i, j, rfl, rfl, res.val so rfl⟩
      | _ => exact res.elim
    | _ => exact res.elim
  | LtE =>
    cases d1 with
    | int i => cases d2 with
      | int j => cases h1; cases h2; exact op_le pins s σ H _ _ v u Q I rx ry ⟨i, j, rfl, rfl, res.val so rfl⟩
      | _ => exact res.elim
    | str i => cases d2 with
      | str j => cases h1; cases h2; exact op_le_str pins s σ H _ _ v u Q I rx ry ⟨i, j, rfl, rfl, res.val so rfl⟩
      | _ => exact res.elim
    | _ => exact res.elim
  | Gt =>
    cases d1 with
    | int i => cases d2 with
      | int j => cases h1; cases h2; exact op_gt pins s σ H _ _ v u Q I rx ry ⟨i, j, rfl, rfl, res.val so rfl⟩
      | _ => exact res.elim
    | str i => cases d2 with
      | str j => cases h1; cases h2; exact op_gt_str pins s σ H _ _ v u Q I rx ry ⟨i, j, rfl, rfl, res.val so rfl⟩
      | _ => exact res.elim
    | _ => exact res.elim
  | GtE =>
    cases d1 with
    | int i => cases d2 with
      | int j => cases h1; cases h2; exact op_ge pins s σ H _ _ v u Q I rx ry ⟨i, j, rfl, rfl, res.val so rfl⟩
      | _ => exact res.elim
    | str i => cases d2 with
      | str j => cases h1; cases h2; exact op_ge_str pins s σ H _ _ v u Q I rx ry ⟨i, j, rfl, rfl, res.val so rfl⟩
      | _ => exact res.elim
    | _ => exact res.elim
  | Is =>
    cases d2 with
    | non =>
      cases h2
      refine op_isN pins s σ H _ _ v u Q I rx ry ⟨rfl, ?_⟩
      cases d1 with
      | non => cases h1; exact res.val so rfl
      | bl b => cases h1; exact res.val so rfl
      | int b => cases h1; exact res.val so rfl
      | str b => cases h1; exact res.val so rfl
      | tup b => obtain ⟨a, vs, rfl, _⟩ := h1; exact res.val so rfl
      | ref b => obtain ⟨a, vs, rfl⟩ := h1; exact res.val so rfl
      | sta _ => exact res.elim
    | bl b => cases d1 with
      | bl a => cases h1; cases h2; exact op_isBl pins s σ H _ _ v u Q I rx ry ⟨a, b, rfl, rfl, res.val so rfl⟩
      | _ => exact res.elim
    | _ => cases d1 <;> exact res.elim
  | IsNot =>
    cases d2 with
    | non =>
      cases h2
      refine op_notN pins s σ H _ _ v u Q I rx ry ⟨rfl, ?_⟩
      cases d1 with
      | non => cases h1; exact res.val so rfl
      | bl b => cases h1; exact res.val so rfl
      | int b => cases h1; exact res.val so rfl
      | str b => cases h1; exact res.val so rfl
      | tup b => obtain ⟨a, vs, rfl, _⟩ := h1; exact res.val so rfl
      | ref b => obtain ⟨a, vs, rfl⟩ := h1; exact res.val so rfl
      | sta _ => exact res.elim
    | bl b => cases d1 with
      | bl a => cases h1; cases h2; exact op_notBl pins s σ H _ _ v u Q I rx ry ⟨a, b, rfl, rfl, res.val so rfl⟩
      | _ => exact res.elim
    | _ => cases d1 <;> exact res.elim
  | In =>
    obtain ⟨b, hb, res⟩ := ofB_res (show Res X.K ι H (ofB (hasD d1 d2 S) S) Q from by cases d1 <;> exact res)
    exact op_in c false I rx ry so h1 h2 hb res
  | NotIn =>
    obtain ⟨b, hb, res⟩ := ofB_res (show Res X.K ι H (ofB ((hasD d1 d2 S).map (!·)) S) Q from by cases d1 <;> exact res)
    obtain ⟨b', hb', rfl⟩ := neg_map hb
    exact op_in c true I rx ry so h1 h2 hb' res
end
end Mi
namespace Mi
open PySem L2
theorem optR_res {K : PySem.W.Frag} {ι : List Addr} {H : Hp} {o : Option D} {S : Store} {Q : VK} (h : Res K ι H (optR o S) Q) : ∃ d, o = some d ∧ Res K ι H (.ok d S) Q := by
  cases o with
  | none => exact h.elim
  | some d => exact ⟨d, rfl, h⟩
section
variable {K : PySem.W.Frag} {ι : List Addr} {H : Hp}
theorem DRs.atI {ds : List D} {vs : List V} {i : Int} {d : D} (h : DRs K ι H ds vs) (e : L2.atI ds i = some d) : ∃ v, L2.atI vs i = some v ∧ DR K ι H d v := by
  unfold L2.atI at e ⊢
  rw [h.length]
  cases q : ixN ds.length i with
  | none => rw [q] at e; cases e
  | some j => rw [q] at e; exact h.get e
theorem DRs.cut {ds : List D} {vs : List V} (h : DRs K ι H ds vs) (lo hi : Option Int) : DRs K ι H (cutD ds lo hi) (cutV vs lo hi) := by
  unfold cutD cutV
  rw [h.length]
  exact (h.drop _).take _
theorem strsOf_vals : ∀ {ds : List D} {vs : List V} {xs : List Str}, DRs K ι H ds vs → strsOf ds = some xs → vs = xs.map V.str
  | [], _, _, h, e => by cases h; cases e; rfl
  | d :: ds, _, xs, h, e => by
    obtain ⟨v, r, rfl, h1, h2⟩ := h
    cases d with
    | str x =>
      simp only [strsOf] at e
      obtain ⟨ys, e1, rfl⟩ := Option.map_eq_some_iff.mp e
      cases h1
      rw [strsOf_vals h2 e1, List.map_cons]
    | _ => cases e
theorem intsOf_vals : ∀ {ds : List D} {vs : List V} {xs : List Int}, DRs K ι H ds vs → intsOf ds = some xs → vs = xs.map V.int
  | [], _, _, h, e => by cases h; cases e; rfl
  | d :: ds, _, xs, h, e => by
    obtain ⟨v, r, rfl, h1, h2⟩ := h
    cases d with
    | int x =>
      simp only [intsOf] at e
      obtain ⟨ys, e1, rfl⟩ := Option.map_eq_some_iff.mp e
      cases h1
      rw [intsOf_vals h2 e1, List.map_cons]
    | _ => cases e
theorem bolsOf_vals : ∀ {ds : List D} {vs : List V} {xs : List Bool}, DRs K ι H ds vs → bolsOf ds = some xs → vs = xs.map V.bl
  | [], _, _, h, e => by cases h; cases e; rfl
  | d :: ds, _, xs, h, e => by
    obtain ⟨v, r, rfl, h1, h2⟩ := h
    cases d with
    | bl x =>
      simp only [bolsOf] at e
      obtain ⟨ys, e1, rfl⟩ := Option.map_eq_some_iff.mp e
      cases h1
      rw [bolsOf_vals h2 e1, List.map_cons]
    | _ => cases e
theorem DRs_strs : ∀ (xs : List Str), DRs K ι H (xs.map D.str) (xs.map V.str)
  | [] => rfl
  | x :: xs => ⟨.str x, xs.map V.str, rfl, rfl, DRs_strs xs⟩
theorem keysOf_eq : ∀ {ks : List Key} {xs : List Str}, keysOf ks = some xs → ks = xs.map Sum.inr
  | [], _, e => by cases e; rfl
  | k :: ks, xs, e => by
    cases k with
    | inr x =>
      simp only [keysOf] at e
      obtain ⟨ys, e1, rfl⟩ := Option.map_eq_some_iff.mp e
      rw [keysOf_eq e1, List.map_cons]
    | inl _ => cases e
theorem DRs_keys : ∀ {kvs : List (Key × D)} {vs : List (Key × V)}, KR K ι H kvs vs → DRs K ι H (kvs.map fun kv => keyD kv.1) (vs.map fun kv => kV kv.1)
  | [], [], _ => rfl
  | [], _ :: _, h => by have := h.1; simp at this
  | _ :: _, [], h => by have := h.1; simp at this
  | p :: r, q :: s, h => by
    obtain ⟨h1, v, t, e, d1, d2⟩ := h
    simp only [List.map_cons, List.cons.injEq] at h1 e
    obtain ⟨e1, e2⟩ := e
    subst e1 e2
    refine ⟨kV q.1, _, rfl, ?_, DRs_keys ⟨h1.2, d2⟩⟩
    show DR K ι H (keyD p.1) (kV q.1)
    rw [h1.1]
    exact DR_key _
theorem KR.put {κ : Type} [DecidableEq κ] {kvs : List (κ × D)} {vs : List (κ × V)} (h : KR K ι H kvs vs) (k : κ) {d : D} {v : V} (r : DR K ι H d v) : KR K ι H (putD kvs k d) (putK vs k v) := by
  have any : (kvs.any fun kv => decide (kv.1 = k)) = vs.any fun kv => decide (kv.1 = k) := by
    have e1 : ∀ l : List (κ × D), (l.any fun kv => decide (kv.1 = k)) = (l.map (·.1)).any fun x => decide (x = k) := fun l => by rw [List.any_map]; rfl
    have e2 : ∀ l : List (κ × V), (l.any fun kv => decide (kv.1 = k)) = (l.map (·.1)).any fun x => decide (x = k) := fun l => by rw [List.any_map]; rfl
    rw [e1, e2, h.1]
  have mp : ∀ {kvs : List (κ × D)} {vs : List (κ × V)}, KR K ι H kvs vs → KR K ι H (kvs.map fun kv => if kv.1 = k then (kv.1, d) else kv) (vs.map fun kv => if kv.1 = k then (kv.1, v) else kv) := by
    intro kvs
    induction kvs with
    | nil =>
      intro vs h
      cases vs with
      | nil => exact ⟨rfl, rfl⟩
      | cons _ _ => have := h.1; simp at this
    | cons p r' ih =>
      intro vs h
      cases vs with
      | nil => have := h.1; simp at this
      | cons q s =>
        obtain ⟨h1, w, t, e, d1, d2⟩ := h
        simp only [List.map_cons, List.cons.injEq] at h1 e
        obtain ⟨e1, e2⟩ := e
        subst e1 e2
        obtain ⟨i1, i2⟩ := ih (vs := s) ⟨h1.2, d2⟩
        by_cases hk : p.1 = k
        · refine ⟨?_, ?_⟩
          · rw [List.map_cons, List.map_cons, List.map_cons, List.map_cons, i1, if_pos hk, if_pos (h1.1 ▸ hk)]
            exact congrArg (· :: _) h1.1
          · rw [List.map_cons, List.map_cons, List.map_cons, List.map_cons, if_pos hk, if_pos (h1.1 ▸ hk)]
            exact ⟨v, _, rfl, r, i2⟩
        · refine ⟨?_, ?_⟩
          · rw [List.map_cons, List.map_cons, List.map_cons, List.map_cons, i1, if_neg hk, if_neg (fun z => hk (h1.1.trans z))]
            exact congrArg (· :: _) h1.1
          · rw [List.map_cons, List.map_cons, List.map_cons, List.map_cons, if_neg hk, if_neg (fun z => hk (h1.1.trans z))]
            exact ⟨q.2, _, rfl, d1, i2⟩
  unfold putD putK
  rw [any]
  split
  · exact mp h
  · refine ⟨by rw [List.map_append, List.map_append, h.1]; rfl, ?_⟩
    rw [List.map_append, List.map_append]
    exact h.2.append (DRs.one r)
theorem KR.merge : ∀ {more : List (Key × D)} {mv : List (Key × V)} {kvs : List (Key × D)} {vs : List (Key × V)}, KR K ι H kvs vs → KR K ι H more mv → KR K ι H (mergeD kvs more) (mergeK vs mv)
  | [], [], _, _, h, _ => h
  | [], _ :: _, _, _, _, m => by have := m.1; simp at this
  | _ :: _, [], _, _, _, m => by have := m.1; simp at this
  | p :: r, q :: s, kvs, vs, h, m => by
    obtain ⟨m1, w, t, e, d1, d2⟩ := m
    simp only [List.map_cons, List.cons.injEq] at m1 e
    obtain ⟨e1, e2⟩ := e
    subst e1 e2
    show KR K ι H (mergeD (putD kvs p.1 p.2) r) (mergeK (putK vs q.1 q.2) s)
    refine KR.merge ?_ ⟨m1.2, d2⟩
    rw [m1.1]
    exact h.put q.1 d1
theorem KR.mono {κ : Type} {ι' : List Addr} {H' : Hp} {kvs : List (κ × D)} {vs : List (κ × V)} (h : KR K ι H kvs vs) (p : ι <+: ι') (x : Xt H H') : KR K ι' H' kvs vs := ⟨h.1, h.2.mono p x⟩
theorem KR.length {κ : Type} {kvs : List (κ × D)} {vs : List (κ × V)} (h : KR K ι H kvs vs) : vs.length = kvs.length := by
  have := congrArg List.length h.1
  simpa using this.symm
end
theorem insSt_perm (x : Str) : ∀ l : List Str, (insSt x l).Perm (x :: l)
  | [] => List.Perm.refl _
  | y :: r => by
    unfold insSt
    split
    · exact ((insSt_perm x r).cons y).trans (List.Perm.swap x y r)
    · exact List.Perm.refl _
theorem sortSt_perm : ∀ l : List Str, (sortSt l).Perm l
  | [] => List.Perm.refl _
  | x :: r => (insSt_perm x (sortSt r)).trans ((sortSt_perm r).cons x)
def leSt (a b : Str) : Prop := a.cps.toList ≤ b.cps.toList
theorem leSt_anti {a b : Str} (h : leSt a b) (g : leSt b a) : a = b := by
  have e : a.cps.toList = b.cps.toList := List.le_antisymm h g
  cases a; cases b
  simp only [Str.mk.injEq]
  exact Array.toList_inj.mp e
theorem leSt_trans {a b c : Str} (h : leSt a b) (g : leSt b c) : leSt a c := List.le_trans h g
theorem leSt_of_not {a b : Str} (h : ¬ b.cps.toList < a.cps.toList) : leSt a b := List.not_lt.mp h
theorem leSt_of_lt {a b : Str} (h : a.cps.toList < b.cps.toList) : leSt a b := List.not_lt.mp fun z => List.lt_asymm h z
theorem insSt_pw (x : Str) : ∀ {l : List Str}, l.Pairwise leSt → (insSt x l).Pairwise leSt
  | [], _ => by simp [insSt]
  | y :: r, h => by
    obtain ⟨h1, h2⟩ := List.pairwise_cons.mp h
    unfold insSt
    split
    · rename_i hlt
      refine List.pairwise_cons.mpr ⟨fun z hz => ?_, insSt_pw x h2⟩
      rcases List.mem_cons.mp ((insSt_perm x r).mem_iff.mp hz) with rfl | hz
      · exact leSt_of_lt hlt
      · exact h1 z hz
    · rename_i hn
      refine List.pairwise_cons.mpr ⟨fun z hz => ?_, h⟩
      rcases List.mem_cons.mp hz with rfl | hz
      · exact leSt_of_not hn
      · exact leSt_trans (leSt_of_not hn) (h1 z hz)
theorem sortSt_pw : ∀ l : List Str, (sortSt l).Pairwise leSt
  | [] => List.Pairwise.nil
  | x :: r => insSt_pw x (sortSt_pw r)
theorem rising_pw : ∀ {l : List Str} {x : Str}, PyProof.Rows.risingS x l = true → (x :: l).Pairwise leSt
  | [], x, _ => by simp
  | y :: r, x, h => by
    simp only [PyProof.Rows.risingS, Bool.and_eq_true, Bool.not_eq_true'] at h
    have ih := rising_pw h.2
    have hxy : leSt x y := leSt_of_not fun z => by
      have e := h.1
      rw [PyProof.Rows.ltCps_eq, decide_eq_true z] at e
      cases e
    refine List.pairwise_cons.mpr ⟨fun z hz => ?_, ih⟩
    rcases List.mem_cons.mp hz with rfl | hz
    · exact hxy
    · exact leSt_trans hxy ((List.pairwise_cons.mp ih).1 z hz)
theorem sorted_eq {ys xs : List Str} (p : ys.Perm xs) (h : PyProof.Rows.sortedS ys = true) : ys = sortSt xs := by
  have pw : ys.Pairwise leSt := by
    cases ys with
    | nil => exact List.Pairwise.nil
    | cons y r => exact rising_pw h
  exact List.Perm.eq_of_pairwise (fun _ _ _ _ a b => leSt_anti a b) pw (sortSt_pw xs) (p.trans (sortSt_perm xs).symm)
section
variable {X : Cx}
theorem ixD (c : Cg X) : IxR X (RO X.K idxD) := by
  intro value slice pins s σ H x y v u Q I rx ry h hs
  obtain ⟨ι, S, d1, d2, so, h1, h2, res⟩ := h
  have un1 : X.A.units + 1 < cLine := by have := c.un; omega
  cases d1 with
  | tup ds =>
    cases d2 with
    | int i =>
      cases h2
      obtain ⟨a, vs, rfl, sq, dr⟩ := h1
      obtain ⟨d, hd, res⟩ := optR_res res
      obtain ⟨w, hw, rw'⟩ := dr.atI hd
      exact ix_tup value slice pins s σ H _ _ v u Q I rx ry ⟨a, vs, i, w, rfl, rfl, sq.sq, hw, res.val so rw'⟩ hs
    | _ => exact res.elim
  | str z =>
    cases d2 with
    | int i =>
      cases h1; cases h2
      simp only [idxD] at res
      split at res
      · rename_i hz
        obtain ⟨d, hd, res⟩ := optR_res res
        obtain ⟨c', hc, rfl⟩ := Option.map_eq_some_iff.mp hd
        exact ix_str value slice pins s σ H _ _ v u Q I rx ry ⟨z, i, c', rfl, rfl, of_decide_eq_true hz, hc, res.val so rfl⟩ hs
      · exact res.elim
    | _ => exact res.elim
  | ref n =>
    obtain ⟨a, ea, rfl⟩ := h1
    have res' : Res X.K ι H (idxC S[n]? d2 S) Q := by cases d2 <;> exact res
    have list : ∀ ds vs i, d2 = .int i → SqL X.K H a vs → DRs X.K ι H ds vs → Res X.K ι H (optR (L2.atI ds i) S) Q → wpAny (model X.prog X.w) X.A (PyProof.Rows.subscriptTail value slice v u) (EP X pins σ Q) X.xe s := by
      rintro ds vs i rfl sq dr res
      cases h2
      obtain ⟨d, hd, res⟩ := optR_res res
      obtain ⟨w, hw, rw'⟩ := dr.atI hd
      exact ix_list value slice pins s σ H _ _ v u Q I rx ry ⟨a, vs, i, w, rfl, rfl, sq, hw, res.val so rw'⟩ hs
    cases hc : S[n]? with
    | none => rw [hc] at res'; exact res'.elim
    | some cell =>
      rw [hc] at res'
      have ok := so.ok _ _ _ ea hc
      cases cell with
      | lst ds =>
        cases d2 with
        | int i =>
          obtain ⟨vs, e, dr⟩ := ok
          exact list ds vs i rfl (SqL.of e) dr res'
        | _ => exact res'.elim
      | frz ds =>
        cases d2 with
        | int i =>
          obtain ⟨vs, e, dr⟩ := ok
          exact list ds vs i rfl e.seq dr res'
        | _ => exact res'.elim
      | dK kvs =>
        obtain ⟨vs, e, kr⟩ := ok
        have res2 : Res X.K ι H (optR ((keyOf d2).bind (lookK kvs)) S) Q := by cases d2 <;> exact res'
        obtain ⟨d, hd, res2⟩ := optR_res res2
        obtain ⟨k, hk, hl⟩ := Option.bind_eq_some_iff.mp hd
        have hx := keyOf_kV hk h2
        subst hx
        cases rx
        rcases valV_lookK k kr with ⟨e1, e2⟩ | ⟨d', w, e1, e2, e3⟩
        · rw [e1] at hl; cases hl
        · rw [e1] at hl; cases hl
          have g : DGet H a (kV k) (some w) := by rw [← e2]; exact DGet.k e
          exact PyProof.Rows.tail_any (dict_typeIs I g) PySem.F.slot_dict_getitem.lookup (d_getItem un1 I g ry fun w' s' I' rw' => ⟨w, H, I', rw', res2.val so e3⟩) hs
      | _ => cases d2 <;> exact res'.elim
  | _ => cases d2 <;> exact res.elim
theorem slD : SlR X (fun x lo hi H Q => ∃ ι S d, Sok X.K ι H S ∧ DR X.K ι H d x ∧ Res X.K ι H (slcD d lo hi S) Q) := by
  intro pins s σ H x v vl vu lo hi sl Q I rx hs pl pu h
  obtain ⟨ι, S, d, so, h1, res⟩ := h
  cases d with
  | tup ds =>
    obtain ⟨a, vs, rfl, sq, dr⟩ := h1
    refine sl_tupA pins s σ H _ v vl vu lo hi sl Q I rx hs pl pu ⟨a, vs, rfl, sq.sq, fun hw => ?_, fun hw p hp => ?_⟩
    · refine res.val so ⟨a, vs, rfl, sq, ?_⟩
      have e : cutV vs lo hi = vs := by
        unfold cutV
        rw [hw.1, hw.2, List.drop_zero, Nat.sub_zero, List.take_length]
      have := dr.cut lo hi
      rw [e] at this
      exact this
    · exact res.newT so (dr.cut lo hi) hp
  | str z =>
    cases h1
    simp only [slcD] at res
    split at res
    · rename_i hz
      refine sl_str pins s σ H _ v vl vu lo hi sl Q I rx hs pl pu ⟨z, rfl, of_decide_eq_true hz, ?_⟩
      have e : cutS z lo hi = ⟨(cutD z.cps.toList lo hi).toArray⟩ := by
        unfold cutS cutD Str.length
        rw [Array.length_toList]
      rw [e]
      exact res.val so rfl
    · exact res.elim
  | ref n =>
    obtain ⟨a, ea, rfl⟩ := h1
    simp only [slcD] at res
    split at res
    · rename_i ds hl
      obtain ⟨b, vs, eb, sq, dr⟩ := lstAt_at so hl
      rw [ea] at eb; cases eb
      exact sl_list pins s σ H _ v vl vu lo hi sl Q I rx hs pl pu ⟨a, vs, rfl, sq, fun p hp => res.newL so (dr.cut lo hi) hp⟩
    · exact res.elim
  | _ => exact res.elim
def biV : Bi → Value
  | .len => .builtin "len" | .isi => .builtin "isinstance" | .abs => .builtin "abs" | .min => .builtin "min" | .max => .builtin "max"
  | .sum => .builtin "sum" | .all => .builtin "all" | .any => .builtin "any" | .list => .type "list" | .tuple => .type "tuple"
  | .str => .type "str" | .int => .type "int" | .repr => .builtin "repr" | .sorted => .builtin "sorted" | .dict => .type "dict" | .bool => .type "bool"
theorem tyX_of {K : PySem.W.Frag} {ι : List Addr} {H : Hp} {S : Store} (so : Sok K ι H S) {d : D} {v : V} {t : String} (h : DR K ι H d v) (e : tyOf S d = some t) : TyX K H v (.type t) := by
  cases d with
  | non => cases h; cases e; exact .base .non
  | bl b => cases h; cases e; exact .base (.bl b)
  | int b => cases h; cases e; exact .base (.int b)
  | str b => cases h; cases e; exact .base (.str b)
  | tup ds =>
    obtain ⟨a, vs, rfl, sq, dr⟩ := h
    cases e
    rcases sq with sq | ⟨o, its, n, hk, hc, _⟩
    · exact .base (.tup sq)
    · exact .kTuple hk hc
  | sta w => cases e
  | ref n =>
    obtain ⟨a, ea, rfl⟩ := h
    simp only [tyOf] at e
    split at e
    · rename_i ds hc
      cases e
      obtain ⟨vs, e, dr⟩ := so.ok _ _ _ ea hc
      exact .base (.lst e)
    · rename_i ds hc
      cases e
      obtain ⟨vs, e, dr⟩ := so.ok _ _ _ ea hc
      rcases e with ⟨o, e⟩ | ⟨o, its, n, hk, hc, _⟩
      · exact .base (.frz e)
      · exact .kList hk hc
    · rename_i ds hc
      cases e
      obtain ⟨vs, e, dr⟩ := so.ok _ _ _ ea hc
      exact .base (.dK e)
    · rename_i ds hc
      cases e
      obtain ⟨vs, e, dr⟩ := so.ok _ _ _ ea hc
      exact .base (.dT e)
    · cases e
theorem kit_sub {K : PySem.W.Frag} {a b : String} {r : Bool} (h : subTy a b = some r) : PySem.W.kitOne K (.type a) (.type b) = some r := by
  refine kit_ty ?_
  unfold subTy at h
  split at h <;> first | (cases h; decide +kernel) | cases h
theorem DRs.nil_iff {K : PySem.W.Frag} {ι : List Addr} {H : Hp} {vs : List V} (h : DRs K ι H [] vs) : vs = [] := h
theorem DRs.two {K : PySem.W.Frag} {ι : List Addr} {H : Hp} {d e : D} {vs : List V} (h : DRs K ι H [d, e] vs) : ∃ v w, vs = [v, w] ∧ DR K ι H d v ∧ DR K ι H e w := by
  obtain ⟨v, r, rfl, h1, w, t, rfl, h2, h3⟩ := h
  cases h3
  exact ⟨v, w, rfl, h1, h2⟩
theorem DRs.one' {K : PySem.W.Frag} {ι : List Addr} {H : Hp} {d : D} {vs : List V} (h : DRs K ι H [d] vs) : ∃ v, vs = [v] ∧ DR K ι H d v := by
  obtain ⟨v, r, rfl, h1, h3⟩ := h
  cases h3
  exact ⟨v, rfl, h1⟩
theorem isi_ok (c : Cg X) {pins : List (Addr × Obj)} {s : Shared} {σ : St} {H : Hp} {us : List Value} {Q : VK} {ι : List Addr} {S : Store} {d e : D} {v w : V} {b : Bool} (I : Inv X pins σ H s) (r : Vals [v, w] us)
    (so : Sok X.K ι H S) (h1 : DR X.K ι H d v) (h2 : DR X.K ι H e w) (hb : isiD S d e = some b) (res : Res X.K ι H (.ok (.bl b) S) Q) : wpAny (model X.prog X.w) X.A (call (.builtin "isinstance") us) (EP X pins σ Q) X.xe s := by
  unfold isiD at hb
  obtain ⟨t, ht, hb⟩ := Option.bind_eq_some_iff.mp hb
  have ty := tyX_of so h1 ht
  split at hb
  · rename_i q hq
    cases h2
    exact call_isi pins s σ H _ us Q I r ⟨v, _, _, _, b, rfl, .ty q, ty, kit_sub hb, res.val so rfl⟩
  · rename_i p q hq
    obtain ⟨a, vs, rfl, sq, dr⟩ := h2
    obtain ⟨v1, v2, rfl, g1, g2⟩ := dr.two
    cases g1; cases g2
    split at hb
    · rename_i x y hx hy
      cases hb
      have any : PySem.W.kitAny X.K (.type t) [.type p, .type q] = some (x || y) :=
        kitAny_cons (kit_sub hx) (fun z => by subst z; exact kitAny_cons (kit_sub hy) (fun z => by subst z; exact kitAny_nil) (fun z => by subst z; rfl)) (fun z => by subst z; rfl)
      rcases sq with sq | ⟨o, its, n, hk, hc, hd, hz, rv⟩
      · exact call_isiT pins s σ H _ us Q I r ⟨v, a, _, _, _, _, rfl, sq, .cons (.ty p) (.cons (.ty q) .nil), ty, any, res.val so rfl⟩
      · obtain ⟨cl, dd, dt, sl⟩ := o
        simp only at hc hd
        subst hc hd
        have ei : its = [Value.type p, Value.type q].toArray := by
          obtain ⟨l⟩ := its
          simp only at rv
          cases rv with
          | cons g1 rv =>
            cases rv with
            | cons g2 rv =>
              cases rv
              cases g1; cases g2
              rfl
        subst ei
        exact call_isiK pins s σ H _ us Q I r ⟨v, a, dd, _, n, sl, _, _, rfl, hk, ty, any, res.val so rfl⟩
    · cases hb
  · cases hb
end
end Mi
namespace Mi
open PySem L2
section
variable {X : Cx}
theorem vals1' {x : V} {us : List Value} (h : Vals [x] us) : ∃ u, us = [u] ∧ RelV x u := by
  cases h with
  | cons a b => cases b; exact ⟨_, rfl, a⟩
theorem pairs_vals {K : PySem.W.Frag} {ι : List Addr} {H : Hp} : ∀ {ds : List D} {vs : List V} {kvs : List (Key × D)}, DRs K ι H ds vs → pairsOf ds = some kvs →
    ∃ (ps : List Addr) (kv : List (Key × V)), vs = ps.map V.ref ∧ Paired (fun p q => SqT K H p [kV q.1, q.2]) ps kv ∧ KR K ι H kvs kv
  | [], _, _, h, e => by
    cases h; cases e
    exact ⟨[], [], rfl, .nil, rfl, rfl⟩
  | d :: ds, _, kvs, h, e => by
    obtain ⟨v, r, rfl, h1, h2⟩ := h
    unfold pairsOf at e
    split at e
    · rename_i heq; cases heq
    · rename_i k w r' heq
      cases heq
      split at e
      · rename_i k' r2 hk hr
        cases e
        obtain ⟨a, vs, rfl, sq, dr⟩ := h1
        obtain ⟨v1, v2, rfl, g1, g2⟩ := dr.two
        obtain ⟨ps, kv, rfl, p, q⟩ := pairs_vals h2 hr
        have e1 := keyOf_kV hk g1
        subst e1
        refine ⟨a :: ps, (k', v2) :: kv, rfl, .cons sq.sq p, ?_, ?_⟩
        · rw [List.map_cons, List.map_cons, q.1]
        · exact ⟨v2, _, rfl, g2, q.2⟩
      · cases e
    · cases e
theorem bi_repr (c : Cg X) {pins : List (Addr × Obj)} {s : Shared} {σ : St} {H : Hp} {u : Value} {v : V} {Q : VK} {ι : List Addr} {S : Store} {d : D} {p : PyData} (I : Inv X pins σ H s) (r : RelV v u)
    (so : Sok X.K ι H S) (h1 : DR X.K ι H d v) (hp : py S d = some p) (sh : p.showable = true) (sz : p.shown.length ≤ sizeLine) (res : Res X.K ι H (.ok (.str p.shown) S) Q) :
    wpAny (model X.prog X.w) X.A (call (.builtin "repr") [u]) (EP X pins σ Q) X.xe s := by
  have fin : ∀ t s', Inv X pins σ H s' → EP X pins σ Q (.str p.shown t) s' := fun t s' I' => ⟨.str p.shown, H, I', ⟨_, rfl⟩, res.val so rfl⟩
  have ref : ∀ a, v = .ref a → wpAny (model X.prog X.w) X.A (call (.builtin "repr") [u]) (EP X pins σ Q) X.xe s := by
    rintro a rfl
    cases r
    obtain ⟨as, ra, hs⟩ := reads c I so 50 d p _ _ hp h1 rfl
    refine repr_of_reads' ra sh (fun _ => hs) c.gu ?_ (fun b o e => e) (fun h' u' tk hk => fin u' _ (I.kept (t' := tk) hk)) sz
    have dep : ∀ k d p, toPy k S d = some p → p.depth ≤ k := by
      intro k
      induction k with
      | zero =>
        intro d p e
        cases d <;> (first | (cases e; simp [PyData.depth]) | cases e)
      | succ k ih =>
        have all : ∀ (ds : List D) (ps : List PyData), allSome (ds.map (toPy k S)) = some ps → PyData.depthAll ps ≤ k := by
          intro ds
          induction ds with
          | nil => intro ps e; cases e; simp [PyData.depthAll]
          | cons d ds ihd =>
            intro ps e
            rw [List.map_cons] at e
            obtain ⟨q, qs, e1, e2, rfl⟩ := allSome_cons e
            have a1 := ih d q e1
            have a2 := ihd qs e2
            simp only [PyData.depthAll]
            omega
        intro d p e
        cases d with
        | tup ds =>
          simp only [toPy] at e
          obtain ⟨ps, e1, rfl⟩ := Option.map_eq_some_iff.mp e
          have := all ds ps e1
          simp only [PyData.depth]; omega
        | ref n =>
          simp only [toPy] at e
          split at e
          · obtain ⟨ps, e1, rfl⟩ := Option.map_eq_some_iff.mp e
            have := all _ ps e1
            simp only [PyData.depth]; omega
          · obtain ⟨ps, e1, rfl⟩ := Option.map_eq_some_iff.mp e
            have := all _ ps e1
            simp only [PyData.depth]; omega
          · rename_i kvs hc
            obtain ⟨ps, e1, rfl⟩ := Option.map_eq_some_iff.mp e
            have kk : ∀ (kvs : List (Key × D)) (ps : List PyData), allSome (kvs.map fun kv => toPy k S kv.2) = some ps → PyData.depthKv ((kvs.map fun kv => keyPy kv.1).zip ps) ≤ k := by
              intro kvs
              induction kvs with
              | nil => intro ps e; cases e; simp [PyData.depthKv]
              | cons kv kvs ihk =>
                intro ps e
                rw [List.map_cons] at e
                obtain ⟨q, qs, e1, e2, rfl⟩ := allSome_cons e
                have a1 := ih kv.2 q e1
                have a2 := ihk qs e2
                have a3 : (keyPy kv.1).depth = 0 := by cases kv.1 <;> simp [keyPy, PyData.depth]
                rw [List.map_cons, List.zip_cons_cons]
                simp only [PyData.depthKv]
                omega
            have := kk kvs ps e1
            simp only [PyData.depth]; omega
          · cases e
        | _ => first | (cases e; simp [PyData.depth]) | cases e
    have h50 := dep 50 d p hp
    have := c.un
    omega
  cases d with
  | non => cases hp; cases h1; cases r; exact P.repr_of_none (fin _ _ (I.tok _))
  | bl b => cases hp; cases h1; cases r; exact P.repr_of_bool (by cases b <;> exact fin _ _ (I.tok _))
  | int i => cases hp; cases h1; obtain ⟨t, rfl⟩ := r; exact P.repr_of_int (by simpa [PyData.showable] using sh) (fin _ _ (I.tok _))
  | str x => cases hp; cases h1; obtain ⟨t, rfl⟩ := r; exact P.repr_of_str (fin _ _ (I.tok _)) sz
  | sta w => cases hp
  | tup ds => obtain ⟨a, vs, e, _⟩ := h1; exact ref a e
  | ref n => obtain ⟨a, _, e⟩ := h1; exact ref a e
def RC (K : PySem.W.Frag) (f : List D → Store → R D) : List V → Hp → VK → Prop := fun xs H Q => ∃ ι S ds, Sok K ι H S ∧ DRs K ι H ds xs ∧ Res K ι H (f ds S) Q
theorem bi_ok (c : Cg X) (f : Bi) : CallR X (biV f) (RC X.K (biD f)) := by
  intro pins s σ H xs us Q I r h
  obtain ⟨ι, S, ds, so, dr, res⟩ := h
  cases f with
  | int => exact res.elim
  | bool => exact res.elim
  | len =>
    simp only [biD] at res
    split at res
    · rename_i d
      obtain ⟨v, rfl, h1⟩ := dr.one'
      obtain ⟨e, he, res⟩ := optR_res res
      obtain ⟨n, hn, rfl⟩ := Option.map_eq_some_iff.mp he
      cases d with
      | tup es =>
        obtain ⟨a, vs, rfl, sq, dr⟩ := h1
        cases hn
        exact call_len_seq pins s σ H _ us Q I r ⟨a, vs, rfl, .inr sq.sq, by rw [dr.length]; exact res.val so rfl⟩
      | str z =>
        cases h1
        simp only [lenD] at hn
        split at hn
        · rename_i hz
          cases hn
          exact call_len_str pins s σ H _ us Q I r ⟨z, rfl, of_decide_eq_true hz, res.val so rfl⟩
        · cases hn
      | ref k =>
        obtain ⟨a, ea, rfl⟩ := h1
        simp only [lenD] at hn
        split at hn
        · rename_i es hc
          cases hn
          obtain ⟨vs, e, dr⟩ := so.ok _ _ _ ea hc
          exact call_len_seq pins s σ H _ us Q I r ⟨a, vs, rfl, .inl (SqL.of e), by rw [dr.length]; exact res.val so rfl⟩
        · rename_i es hc
          cases hn
          obtain ⟨vs, e, dr⟩ := so.ok _ _ _ ea hc
          exact call_len_seq pins s σ H _ us Q I r ⟨a, vs, rfl, .inl e.seq, by rw [dr.length]; exact res.val so rfl⟩
        · rename_i kvs hc
          cases hn
          obtain ⟨vs, e, kr⟩ := so.ok _ _ _ ea hc
          exact call_lenD pins s σ H _ us Q I r ⟨a, vs, rfl, e, by rw [KR.length kr]; exact res.val so rfl⟩
        · cases hn
      | _ => cases hn
    · exact res.elim
  | isi =>
    simp only [biD] at res
    split at res
    · obtain ⟨v, w, rfl, h1, h2⟩ := dr.two
      obtain ⟨b, hb, res⟩ := ofB_res res
      exact isi_ok c I r so h1 h2 hb res
    · exact res.elim
  | abs =>
    simp only [biD] at res
    split at res
    · rename_i i
      obtain ⟨v, rfl, h1⟩ := dr.one'
      cases h1
      exact call_abs pins s σ H _ us Q I r ⟨i, rfl, res.val so rfl⟩
    · exact res.elim
  | min =>
    simp only [biD] at res
    split at res
    · rename_i i j
      obtain ⟨v, w, rfl, h1, h2⟩ := dr.two
      cases h1; cases h2
      exact call_min2 c.calm pins s σ H _ us Q I r ⟨i, j, rfl, res.val so rfl⟩
    · exact res.elim
  | max =>
    simp only [biD] at res
    split at res
    · rename_i i j
      obtain ⟨v, w, rfl, h1, h2⟩ := dr.two
      cases h1; cases h2
      exact call_max2 c.calm pins s σ H _ us Q I r ⟨i, j, rfl, res.val so rfl⟩
    · exact res.elim
  | sum =>
    simp only [biD] at res
    split at res
    · rename_i n
      obtain ⟨v, rfl, h1⟩ := dr.one'
      obtain ⟨e, he, res⟩ := optR_res res
      obtain ⟨es, hl, he⟩ := Option.bind_eq_some_iff.mp he
      obtain ⟨ns, hn, rfl⟩ := Option.map_eq_some_iff.mp he
      obtain ⟨a, ea, rfl⟩ := h1
      obtain ⟨b, vs, eb, sq, dr2⟩ := lstAt_at so hl
      rw [ea] at eb; cases eb
      have e1 := intsOf_vals dr2 hn
      subst e1
      exact cr_sum c.calm pins s σ H _ us Q I r ⟨a, ns, rfl, sq, res.val so rfl⟩
    · exact res.elim
  | all =>
    simp only [biD] at res
    split at res
    · rename_i n
      obtain ⟨v, rfl, h1⟩ := dr.one'
      obtain ⟨e, he, res⟩ := ofB_res res
      obtain ⟨es, hl, he⟩ := Option.bind_eq_some_iff.mp he
      obtain ⟨ns, hn, rfl⟩ := Option.map_eq_some_iff.mp he
      obtain ⟨a, ea, rfl⟩ := h1
      obtain ⟨b, vs, eb, sq, dr2⟩ := lstAt_at so hl
      rw [ea] at eb; cases eb
      have e1 := bolsOf_vals dr2 hn
      subst e1
      exact cr_all c.calm pins s σ H _ us Q I r ⟨a, ns, rfl, sq, res.val so rfl⟩
    · exact res.elim
  | any =>
    simp only [biD] at res
    split at res
    · rename_i n
      obtain ⟨v, rfl, h1⟩ := dr.one'
      obtain ⟨e, he, res⟩ := ofB_res res
      obtain ⟨es, hl, he⟩ := Option.bind_eq_some_iff.mp he
      obtain ⟨ns, hn, rfl⟩ := Option.map_eq_some_iff.mp he
      obtain ⟨a, ea, rfl⟩ := h1
      obtain ⟨b, vs, eb, sq, dr2⟩ := lstAt_at so hl
      rw [ea] at eb; cases eb
      have e1 := bolsOf_vals dr2 hn
      subst e1
      exact cr_any c.calm pins s σ H _ us Q I r ⟨a, ns, rfl, sq, res.val so rfl⟩
    · exact res.elim
  | list =>
    simp only [biD] at res
    split at res
    · rename_i es
      obtain ⟨v, rfl, h1⟩ := dr.one'
      obtain ⟨a, vs, rfl, sq, dr2⟩ := h1
      exact call_list_of pins s σ H _ us Q I r ⟨a, vs, rfl, .inr sq.sq, fun l hl => res.newL so dr2 hl⟩
    · rename_i n
      obtain ⟨v, rfl, h1⟩ := dr.one'
      obtain ⟨a, ea, rfl⟩ := h1
      split at res
      · rename_i es hc
        obtain ⟨vs, e, dr2⟩ := so.ok _ _ _ ea hc
        exact call_list_of pins s σ H _ us Q I r ⟨a, vs, rfl, .inl (SqL.of e), fun l hl => res.newL so dr2 hl⟩
      · rename_i es hc
        obtain ⟨vs, e, dr2⟩ := so.ok _ _ _ ea hc
        exact call_list_of pins s σ H _ us Q I r ⟨a, vs, rfl, .inl e.seq, fun l hl => res.newL so dr2 hl⟩
      · rename_i kvs hc
        obtain ⟨vs, e, kr⟩ := so.ok _ _ _ ea hc
        exact call_list_dK c.calm pins s σ H _ us Q I r ⟨a, vs, rfl, e, fun l hl => res.newL so (DRs_keys kr) hl⟩
      · exact res.elim
    · exact res.elim
  | tuple =>
    simp only [biD] at res
    split at res
    · rename_i es
      obtain ⟨v, rfl, h1⟩ := dr.one'
      have h1' := h1
      obtain ⟨a, vs, rfl, sq, dr2⟩ := h1
      exact call_tuple_of pins s σ H _ us Q I r ⟨a, vs, rfl, .inr ⟨sq.sq, res.val so h1'⟩⟩
    · rename_i n
      obtain ⟨v, rfl, h1⟩ := dr.one'
      obtain ⟨a, ea, rfl⟩ := h1
      split at res
      · rename_i es hl
        obtain ⟨b, vs, eb, sq, dr2⟩ := lstAt_at so hl
        rw [ea] at eb; cases eb
        exact call_tuple_of pins s σ H _ us Q I r ⟨a, vs, rfl, .inl ⟨sq, fun l hl => res.newT so dr2 hl⟩⟩
      · exact res.elim
    · exact res.elim
  | str =>
    simp only [biD] at res
    split at res
    · rename_i i
      obtain ⟨v, rfl, h1⟩ := dr.one'
      cases h1
      split at res
      · rename_i hz
        exact call_str_int pins s σ H _ us Q I r ⟨i, rfl, hz, res.val so rfl⟩
      · exact res.elim
    · rename_i b
      obtain ⟨v, rfl, h1⟩ := dr.one'
      cases h1
      obtain ⟨u, rfl, ru⟩ := vals1' r
      obtain rfl : u = Value.bool b := ru
      exact P.str_of_bool ⟨.str _, H, I.tok _, ⟨_, rfl⟩, res.val so rfl⟩
    · exact res.elim
  | repr =>
    simp only [biD] at res
    split at res
    · rename_i d
      obtain ⟨v, rfl, h1⟩ := dr.one'
      obtain ⟨u, rfl, ru⟩ := vals1' r
      split at res
      · rename_i p hp
        split at res
        · rename_i hz
          exact bi_repr c I ru so h1 hp hz.1 (of_decide_eq_true hz.2) res
        · exact res.elim
      · exact res.elim
    · exact res.elim
  | sorted =>
    simp only [biD] at res
    split at res
    · rename_i n
      obtain ⟨v, rfl, h1⟩ := dr.one'
      obtain ⟨a, ea, rfl⟩ := h1
      split at res
      · rename_i es hc
        split at res
        · rename_i xs hx
          split at res
          · rename_i hz
            obtain ⟨vs, e, dr2⟩ := so.ok _ _ _ ea hc
            have e1 := strsOf_vals dr2 hx
            subst e1
            refine cr_sortedS pins s σ H _ us Q I r ⟨a, xs, rfl, SqL.of e, hz, fun ys p hp hs hn => ?_⟩
            rw [sorted_eq hp hs]
            exact res.newL so (DRs_strs _) hn
          · exact res.elim
        · exact res.elim
      · rename_i kvs hc
        split at res
        · rename_i xs hx
          split at res
          · rename_i hz
            obtain ⟨vs, e, kr⟩ := so.ok _ _ _ ea hc
            refine call_sortedD c.calm pins s σ H _ us Q I r ⟨a, vs, xs, rfl, .inl e, kr.1.symm.trans (keysOf_eq hx), hz, fun ys p hp hs hn => ?_⟩
            rw [sorted_eq hp hs]
            exact res.newL so (DRs_strs _) hn
          · exact res.elim
        · exact res.elim
      · exact res.elim
    · exact res.elim
  | dict =>
    simp only [biD] at res
    split at res
    · rename_i n
      obtain ⟨v, rfl, h1⟩ := dr.one'
      obtain ⟨a, ea, rfl⟩ := h1
      split at res
      · rename_i es hl
        split at res
        · rename_i kvs hk
          obtain ⟨b, vs, eb, sq, dr2⟩ := lstAt_at so hl
          rw [ea] at eb; cases eb
          obtain ⟨ps, kv, rfl, pp, kr⟩ := pairs_vals dr2 hk
          refine call_dictP c.calm pins s σ H _ us Q I r ⟨a, ps, kv, rfl, sq, pp, fun p hp => ?_⟩
          have k0 : KR X.K ι H ([] : List (Key × D)) ([] : List (Key × V)) := ⟨rfl, rfl⟩
          exact res.newC so hp ⟨_, upd_same, (k0.merge kr).mono (List.prefix_append ι [p]) (Xt.new hp)⟩
        · exact res.elim
      · exact res.elim
    · exact res.elim
def mtT : Mt → String
  | .join => "str" | .upper => "str" | .get => "dict" | _ => "list"
def mtId : Mt → String
  | .append => "list.append" | .pop => "list.pop" | .insert => "list.insert" | .extend => "list.extend" | .join => "str.join" | .upper => "str.upper" | .get => "dict.get" | _ => ""
def RM (K : PySem.W.Frag) (f : D → List D → Store → R D) : V → List V → Hp → VK → Prop := fun x xs H Q => ∃ ι S d ds, Sok K ι H S ∧ DR K ι H d x ∧ DRs K ι H ds xs ∧ Res K ι H (f d ds S) Q
/-- a list written -/
theorem Res.setL {K : PySem.W.Frag} {ι : List Addr} {H : Hp} {S : Store} {Q : VK} {n : Nat} {c : Cell} {c' : Cell} {d : D} {a : Addr} (res : Res K ι H (setC S n c' d) Q) (so : Sok K ι H S) (ea : ι[n]? = some a) (hc : S[n]? = some c) (m : c.mu = true) {o : HO}
    (new : Xt H (upd H a o) → CellOk K ι (upd H a o) a c') {v : V} (dr : DR K ι H d v) : Q v (upd H a o) := by
  obtain ⟨s', x⟩ := so.put (o := o) (c' := c') ea hc m new
  exact res ι _ v (List.prefix_refl ι) x s' (dr.mono (List.prefix_refl ι) x)
theorem mt_ok (c : Cg X) (m : Mt) : MtR X (mtId m) (RM X.K (mtD m)) := by
  intro pins s σ H x xs v us Q I rx rs h
  obtain ⟨ι, S, d, ds, so, h1, dr, res⟩ := h
  have un1 : X.A.units + 1 < cLine := by have := c.un; omega
  cases m with
  | append =>
    simp only [mtD] at res
    split at res
    · rename_i n y
      obtain ⟨w, rfl, hw⟩ := dr.one'
      obtain ⟨a, ea, rfl⟩ := h1
      split at res
      · rename_i es hc
        split at res
        · rename_i hz
          obtain ⟨vs, e, dr2⟩ := so.ok _ _ _ ea hc
          exact mt_append pins s σ H _ _ v us Q I rx rs ⟨a, vs, w, rfl, rfl, e, by rw [dr2.length]; exact hz,
            res.setL so ea hc rfl (fun x => ⟨_, upd_same, (dr2.append (DRs.one hw)).mono (List.prefix_refl ι) x⟩) rfl⟩
        · exact res.elim
      · exact res.elim
    · exact res.elim
  | pop =>
    simp only [mtD] at res
    split at res
    · rename_i n i
      obtain ⟨w, rfl, hw⟩ := dr.one'
      cases hw
      obtain ⟨a, ea, rfl⟩ := h1
      split at res
      · rename_i es hc
        split at res
        · rename_i k hk
          split at res
          · rename_i y hy
            split at res
            · rename_i hz
              obtain ⟨vs, e, dr2⟩ := so.ok _ _ _ ea hc
              obtain ⟨q1, q2, q3, q4⟩ := ixN_seq hk
              obtain ⟨w, hw, rw'⟩ := dr2.get hy
              exact mt_popAt pins s σ H _ _ v us Q I rx rs ⟨a, vs, i, k, w, rfl, rfl, e, hz.1, hz.2, by rw [dr2.length]; exact q1, hw,
                res.setL so ea hc rfl (fun x => ⟨_, upd_same, (dr2.eraseIdx k).mono (List.prefix_refl ι) x⟩) rw'⟩
            · exact res.elim
          · exact res.elim
        · exact res.elim
      · exact res.elim
    · rename_i n
      cases dr.nil_iff
      obtain ⟨a, ea, rfl⟩ := h1
      split at res
      · rename_i es hc
        split at res
        · rename_i y hy
          obtain ⟨vs, e, dr2⟩ := so.ok _ _ _ ea hc
          obtain ⟨w, hw, rw'⟩ := dr2.get hy
          have dl : DRs X.K ι H es.dropLast vs.dropLast := by
            rw [List.dropLast_eq_take, List.dropLast_eq_take, dr2.length]
            exact dr2.take _
          exact mt_pop pins s σ H _ _ v us Q I rx rs ⟨a, vs, w, rfl, rfl, e, by rw [dr2.length]; exact hw, res.setL so ea hc rfl (fun x => ⟨_, upd_same, dl.mono (List.prefix_refl ι) x⟩) rw'⟩
        · exact res.elim
      · exact res.elim
    · exact res.elim
  | insert =>
    simp only [mtD] at res
    split at res
    · rename_i n i y
      obtain ⟨w1, w, rfl, hw1, hw⟩ := dr.two
      cases hw1
      obtain ⟨a, ea, rfl⟩ := h1
      split at res
      · rename_i es hc
        split at res
        · rename_i hz
          obtain ⟨vs, e, dr2⟩ := so.ok _ _ _ ea hc
          exact mt_insert pins s σ H _ _ v us Q I rx rs ⟨a, vs, i, w, rfl, rfl, e, by rw [dr2.length]; exact hz.1, hz.2.1, hz.2.2,
            res.setL so ea hc rfl (fun x => ⟨_, upd_same, (((dr2.take _).append (DRs.one hw)).append (dr2.drop _)).mono (List.prefix_refl ι) x⟩) rfl⟩
        · exact res.elim
      · exact res.elim
    · exact res.elim
  | extend =>
    simp only [mtD] at res
    split at res
    · rename_i n m
      obtain ⟨w, rfl, hw⟩ := dr.one'
      obtain ⟨b, eb, rfl⟩ := hw
      obtain ⟨a, ea, rfl⟩ := h1
      split at res
      · rename_i es fs hc hc2
        split at res
        · rename_i hz
          obtain ⟨vs, e, dr2⟩ := so.ok _ _ _ ea hc
          obtain ⟨ws, e2, dr3⟩ := so.ok _ _ _ eb hc2
          exact mt_extend pins s σ H _ _ v us Q I rx rs ⟨a, b, vs, ws, rfl, rfl, e, e2, by rw [dr2.length, dr3.length]; exact hz,
            res.setL so ea hc rfl (fun x => ⟨_, upd_same, (dr2.append dr3).mono (List.prefix_refl ι) x⟩) rfl⟩
        · exact res.elim
      · exact res.elim
    · exact res.elim
  | join =>
    simp only [mtD] at res
    split at res
    · rename_i z n
      obtain ⟨w, rfl, hw⟩ := dr.one'
      obtain ⟨a, ea, rfl⟩ := hw
      cases h1
      split at res
      · rename_i es hl
        split at res
        · rename_i ys hy
          split at res
          · rename_i hz
            obtain ⟨b, vs, eb, sq, dr2⟩ := lstAt_at so hl
            rw [ea] at eb; cases eb
            have e1 := strsOf_vals dr2 hy
            subst e1
            exact mt_join pins s σ H _ _ v us Q I rx rs ⟨z, a, ys, rfl, rfl, .inl sq, hz, res.val so rfl⟩
          · exact res.elim
        · exact res.elim
      · exact res.elim
    · exact res.elim
  | upper =>
    simp only [mtD] at res
    split at res
    · rename_i z
      cases dr.nil_iff
      cases h1
      split at res
      · rename_i hz
        exact mt_upper pins s σ H _ _ v us Q I rx rs ⟨z, rfl, rfl, hz, res.val so rfl⟩
      · exact res.elim
    · exact res.elim
  | get =>
    simp only [mtD] at res
    split at res
    · rename_i n k
      obtain ⟨w, rfl, hw⟩ := dr.one'
      obtain ⟨a, ea, rfl⟩ := h1
      split at res
      · rename_i kvs k' hc hk
        obtain ⟨vs, e, kr⟩ := so.ok _ _ _ ea hc
        have e1 := keyOf_kV hk hw
        subst e1
        cases rx
        obtain ⟨u, rfl, ru⟩ := vals1' rs
        refine d_get1 un1 I (DGet.k (k := k') e) ru fun w' s' I' rw' => ⟨_, H, I', rw', ?_⟩
        rcases valV_lookK k' kr with ⟨e1, e2⟩ | ⟨d', w, e1, e2, e3⟩
        · rw [e1] at res; rw [e2]; exact res.val so rfl
        · rw [e1] at res; rw [e2]; exact res.val so e3
      · exact res.elim
    · rename_i n k dd
      obtain ⟨w, w2, rfl, hw, hw2⟩ := dr.two
      obtain ⟨a, ea, rfl⟩ := h1
      split at res
      · rename_i kvs k' hc hk
        obtain ⟨vs, e, kr⟩ := so.ok _ _ _ ea hc
        have e1 := keyOf_kV hk hw
        subst e1
        cases rx
        obtain ⟨u, u2, rfl, ru, ru2⟩ := vals2 rs
        refine d_get2 un1 I (DGet.k (k := k') e) ru ru2 fun w' s' I' rw' => ⟨_, H, I', rw', ?_⟩
        rcases valV_lookK k' kr with ⟨e1, e2⟩ | ⟨d', w, e1, e2, e3⟩
        · rw [e1] at res; rw [e2]; exact res.val so hw2
        · rw [e1] at res; rw [e2]; exact res.val so e3
      · exact res.elim
    · exact res.elim
  | _ => exact res.elim
/-- methods that are served -/
def mtHas : Mt → Bool
  | .append | .pop | .insert | .extend | .join | .upper | .get => true
  | _ => false
def mtName : Mt → Str
  | .append => "append" | .pop => "pop" | .insert => "insert" | .extend => "extend" | .join => "join" | .upper => "upper" | .get => "get" | _ => ""
theorem mt_pa : ∀ m, mtHas m = true → PlainAttrs (mtT m) := by
  intro m h
  cases m <;> first
    | exact PySem.F.plainAttrs_list
    | exact PySem.F.plainAttrs_str
    | exact PySem.F.plainAttrs_dict
    | cases h
theorem mt_slot : ∀ m, mtHas m = true → Slot (mtT m) (mtName m) (mtId m) ∧ typeOf (.builtin (mtId m)) = pure (.type "method_descriptor") := by
  intro m h
  cases m with
  | append => exact ⟨PySem.F.slot_list_append, PySem.F.type_list_append⟩
  | pop => exact ⟨PySem.F.slot_list_pop, PySem.F.type_list_pop⟩
  | insert => exact ⟨PySem.F.slot_list_insert, PySem.F.type_list_insert⟩
  | extend => exact ⟨PySem.F.slot_list_extend, PySem.F.type_list_extend⟩
  | join => exact ⟨PySem.F.slot_str_join, PySem.F.type_str_join⟩
  | upper => exact ⟨PySem.F.slot_str_upper, PySem.F.type_str_upper⟩
  | get => exact ⟨PySem.F.slot_dict_get, PySem.F.type_dict_get⟩
  | _ => cases h
theorem mt_ty {K : PySem.W.Frag} {ι : List Addr} {H : Hp} {S : Store} {m : Mt} {d : D} {v : V} (so : Sok K ι H S) (h : mtTy m d S = true) (r : DR K ι H d v) : tyV K (mtT m) v H := by
  have lst : ∀ n, d = .ref n → (lstAt S (.ref n)).isSome = true → tyV K "list" v H := by
    rintro n rfl e
    obtain ⟨ds, hd⟩ := Option.isSome_iff_exists.mp e
    obtain ⟨a, vs, ea, sq, _⟩ := lstAt_at so hd
    obtain ⟨b, eb, rfl⟩ := r
    rw [ea] at eb; cases eb
    exact .inl ⟨rfl, vs, sq⟩
  cases m with
  | join => cases d with
    | str z => cases r; exact rfl
    | _ => cases h
  | upper => cases d with
    | str z => cases r; exact rfl
    | _ => cases h
  | get => cases d with
    | ref n =>
      obtain ⟨b, eb, rfl⟩ := r
      simp only [mtTy] at h
      split at h
      · rename_i kvs hc
        obtain ⟨vs, e, _⟩ := so.ok _ _ _ eb hc
        exact .inr (.inr (.inl ⟨rfl, .inl ⟨vs, e⟩⟩))
      · cases h
    | _ => cases h
  | append => cases d with
    | ref n => exact lst n rfl h
    | _ => cases h
  | pop => cases d with
    | ref n => exact lst n rfl h
    | _ => cases h
  | insert => cases d with
    | ref n => exact lst n rfl h
    | _ => cases h
  | extend => cases d with
    | ref n => exact lst n rfl h
    | _ => cases h
  | _ => cases d <;> cases h
theorem set_ok (c : Cg X) {pins : List (Addr × Obj)} {s : Shared} {σ : St} {H : Hp} {o i v : V} {ov iv u : Value} {Q : Hp → Prop} {ι : List Addr} {S S' : Store} {d k e : D} (I : Inv X pins σ H s) (ro : RelV o ov) (ri : RelV i iv) (rv : RelV v u)
    (so : Sok X.K ι H S) (h1 : DR X.K ι H d o) (h2 : DR X.K ι H k i) (h3 : DR X.K ι H e v) (hs : subD d k e S = some S') (q : ∀ H', Xt H H' → Sok X.K ι H' S' → Q H') :
    wpAny (model X.prog X.w) X.A (setItem ov iv u) (fun _ s' => ∃ H', Inv X pins σ H' s' ∧ Q H') X.xe s := by
  have un1 : X.A.units + 1 < cLine := by have := c.un; omega
  cases d with
  | ref n =>
    obtain ⟨a, ea, rfl⟩ := h1
    simp only [subD] at hs
    split at hs
    · rename_i ds j hc
      cases h2
      obtain ⟨m, hm, rfl⟩ := Option.map_eq_some_iff.mp hs
      obtain ⟨vs, e, dr⟩ := so.ok _ _ _ ea hc
      obtain ⟨s2, x⟩ := so.put (o := .lst (vs.set m v)) (c' := .lst (ds.set m _)) ea hc rfl fun x => ⟨_, upd_same, (dr.set m h3).mono (List.prefix_refl ι) x⟩
      exact set_list pins s σ H _ _ v ov iv u Q I ro ri rv ⟨a, vs, j, m, rfl, rfl, e, by rw [dr.length]; exact hm, q _ x s2⟩
    · rename_i kvs hc
      split at hs
      · rename_i k' hk
        split at hs
        · rename_i hz
          cases hs
          obtain ⟨vs, e, kr⟩ := so.ok _ _ _ ea hc
          have e1 := keyOf_kV hk h2
          subst e1
          cases ro
          obtain ⟨s2, x⟩ := so.put (o := .dK (putK vs k' v)) (c' := .dK (putD kvs k' _)) ea hc rfl fun x => ⟨_, upd_same, (kr.put k' h3).mono (List.prefix_refl ι) x⟩
          exact d_setItem un1 I (DPut.k e (by rw [KR.length kr]; exact hz)) ri rv fun s' I' => ⟨_, I', q _ x s2⟩
        · cases hs
      · cases hs
    · cases hs
  | _ => cases hs
end
end Mi
namespace Mi
open PySem L2
/-- what is wished of an exception that leaves -/
def WX0 (K : PySem.W.Frag) (W : Str → Hp → Prop) : XK := fun cls d H => ∃ x C, ClsN K x C ∧ cls = .ref C ∧ d = none ∧ W x H
def ResX (K : PySem.W.Frag) (ι : List Addr) (H : Hp) (r : R D) (Q : VK) (W : Str → Hp → Prop) : Prop := match r with
  | .ok d S' => ∀ ι' H' v, ι <+: ι' → Xt H H' → Sok K ι' H' S' → DR K ι' H' d v → Q v H'
  | .exc x S' => ∀ ι' H', ι <+: ι' → Xt H H' → Sok K ι' H' S' → W x.cls H'
  | .bad => False
theorem Res.x {K : PySem.W.Frag} {ι : List Addr} {H : Hp} {r : R D} {Q : VK} {W : Str → Hp → Prop} (h : Res K ι H r Q) : ResX K ι H r Q W := by
  cases r with
  | ok d S' => exact h
  | exc x S' => exact h.elim
  | bad => exact h
structure FnG (P : Program) (w : World) (K : PySem.W.Frag) (mg : Str → Option Value) (base : Heap) (k : Nat) (f : Addr) (fd : FuncData) (ps : List Str) (F : List D → Store → R D) : Prop where
  run : ∀ (A : Around) (outer : List Env) (s : Shared) (H : Hp) (args : Args) (us : List Value) (vs : List V) (Q : VK) (W : Str → Hp → Prop), Room (k + 2) A → A.guards = some [] → Env0 P w K mg base A outer s H →
    BindsTo s fd args (ps.zip us) → Vals vs us → vs.length = ps.length →
    (∃ ι S ds, Sok K ι H S ∧ DRs K ι H ds vs ∧ ResX K ι H (F ds S) Q W) →
    codeAny (model P w) A (.call (.ref f) args) (CR (L2.CX P w) outer P w H s Q (WX0 K W)) s
/-- what a call needs of a def -/
structure FnAt (X : Cx) (k : Nat) (x : Str) (F : List D → Store → R D) : Prop where
  ex : ∃ f fd ps, X.mg x = some (.ref f) ∧ PySem.W.keepIn X.K (.ref f) = true ∧ FnG X.prog X.w X.K X.mg X.base k f fd ps F ∧ Binds X.K fd ps [] ∧ ∀ ds S, ds.length ≠ ps.length → F ds S = .bad
section
variable {X : Cx} {k : Nat} {x : Str} {F : List D → Store → R D}
theorem run_g {f : Addr} {fd : FuncData} {ps : List Str} (G : FnG X.prog X.w X.K X.mg X.base k f fd ps F) (hr : Room (k + 2) X.A) (hg : X.A.guards = some []) (hb : Binds X.K fd ps []) (har : ∀ ds S, ds.length ≠ ps.length → F ds S = .bad)
    {pins : List (Addr × Obj)} {σ : St} {H : Hp} {s : Shared} {Q : VK} {us : List Value} {vs : List V} (I : Inv X pins σ H s) (r : Vals vs us) (h : RC X.K F vs H Q) :
    wpAny (model X.prog X.w) X.A (call (.ref f) us) (EP X pins σ Q) X.xe s := by
  obtain ⟨ι, S, ds, so, dr, res⟩ := h
  have hl : ds.length = ps.length := Classical.byContradiction fun z => by
    rw [har ds S z] at res
    exact res.elim
  have hv : vs.length = ps.length := by rw [dr.length]; exact hl
  have hu : (us ++ ([] : List Value)).length = ps.length := by rw [List.append_nil, ← r.length]; exact hv
  have bd := hb s us I.kIn hu
  rw [List.append_nil] at bd
  refine wpAny_call (codeAny_mono (G.run X.A X.stack s H ⟨us, []⟩ us vs Q (fun _ _ => False) hr hg I.env0 bd r hv ⟨ι, S, ds, so, dr, res.x⟩) fun r s' hq => ?_)
  cases r with
  | error e =>
    obtain ⟨_, _, _, _, _, _, _, _, _, _, _, _, _, _, _, _, _, no⟩ := (show L2.CX X.prog X.w X.stack H s (WX0 X.K fun _ _ => False) e s' from hq)
    exact no.elim
  | ok fl =>
    cases fl with
    | ret u => exact I.after hq
    | next => exact False.elim hq
    | brk => exact False.elim hq
    | cont => exact False.elim hq
variable {p pos : Pos} {e : Expr} {es : List Expr} {t : TA}
theorem pe_callG (G : FnAt X k x F) (hr : Room (k + 2) X.A) (hg : X.A.guards = some []) (gl : L2.Gl X x) (hdb : (x == ("__debug__" : Str)) = false) (ha : PA X (e :: es) t)
    (he : starEach (e :: es) X.env = (false, eval e X.env) :: starEach es X.env) (hpl : (backTo pos (starEach es X.env)).any (·.1) = false) : PE X (.Call (.Name x p) (e :: es) [] pos) (tCB (RC X.K F) t) := by
  obtain ⟨f, fd, ps, hm, hk, G, hb, har⟩ := G.ex
  refine ⟨fun pins s σ H Q I h => ?_⟩
  refine wpAny_Call_Name_kw (ld_glob I gl hm ?_ hdb)
  refine PySem.W.callWith_K (h₀ := X.base) I.ok.mod.kin hk (thn (ha.run pos pins s σ H _ I h) fun us s1 ⟨vs, H1, I1, r, q⟩ => ⟨I1.kIn, ?_⟩) he hpl
  exact run_g G hr hg hb har I1 r q
/-- a call that may raise -/
def RXC (K : PySem.W.Frag) (F : List D → Store → R D) (W : Str → Hp → Prop) : List V → Hp → VK → Prop := fun vs H Q => ∃ ι S ds, Sok K ι H S ∧ DRs K ι H ds vs ∧ ResX K ι H (F ds S) Q W
abbrev WXs (K : PySem.W.Frag) (W : Str → Hp → Prop) : L2.WX := fun cls d _ H => WX0 K W cls d H
theorem run_x {f : Addr} {fd : FuncData} {ps : List Str} {Wf : Str → Hp → Prop} {W' : L2.WX} (tk : L2.Takes X W') (G : FnG X.prog X.w X.K X.mg X.base k f fd ps F) (hr : Room (k + 2) X.A) (hg : X.A.guards = some []) (hb : Binds X.K fd ps []) (har : ∀ ds S, ds.length ≠ ps.length → F ds S = .bad)
    {pins : List (Addr × Obj)} {σ : St} {H : Hp} {s : Shared} {Q : VK} {us : List Value} {vs : List V} (hW : ∀ x C H2, ClsN X.K x C → Wf x H2 → W' (.ref C) none σ H2) (I : Inv X pins σ H s) (r : Vals vs us) (h : RXC X.K F Wf vs H Q) :
    wpAny (model X.prog X.w) X.A (call (.ref f) us) (EP X pins σ Q) X.xe s := by
  obtain ⟨ι, S, ds, so, dr, res⟩ := h
  have hl : ds.length = ps.length := Classical.byContradiction fun z => by
    rw [har ds S z] at res
    exact res.elim
  have hv : vs.length = ps.length := by rw [dr.length]; exact hl
  have bd := hb s us I.kIn (by rw [List.append_nil, ← r.length]; exact hv)
  rw [List.append_nil] at bd
  refine wpAny_call (codeAny_mono (G.run X.A X.stack s H ⟨us, []⟩ us vs Q Wf hr hg I.env0 bd r hv ⟨ι, S, ds, so, dr, res⟩) fun q s' hq => ?_)
  cases q with
  | error e => exact tk _ _ (L2.XE.of_call I (fun cls d H' ⟨x, C, hC, e1, e2, w⟩ => by subst e1 e2; exact hW x C H' hC w) hq)
  | ok fl =>
    cases fl with
    | ret u => exact I.after hq
    | next => exact hq.elim
    | brk => exact hq.elim
    | cont => exact hq.elim
theorem pe_callX {Wf : St → Str → Hp → Prop} {W' : L2.WX} (tk : L2.Takes X W') (hW : ∀ σ x C H2, ClsN X.K x C → Wf σ x H2 → W' (.ref C) none σ H2) (G : FnAt X k x F) (hr : Room (k + 2) X.A) (hg : X.A.guards = some []) (gl : L2.Gl X x) (hdb : (x == ("__debug__" : Str)) = false) (ha : PA X (e :: es) t)
    (he : starEach (e :: es) X.env = (false, eval e X.env) :: starEach es X.env) (hpl : (backTo pos (starEach es X.env)).any (·.1) = false) : PE X (.Call (.Name x p) (e :: es) [] pos) (fun σ H Q => t σ H fun vs H1 => RXC X.K F (Wf σ) vs H1 Q) := by
  obtain ⟨f, fd, ps, hm, hk, G, hb, har⟩ := G.ex
  refine ⟨fun pins s σ H Q I h => ?_⟩
  refine wpAny_Call_Name_kw (ld_glob I gl hm ?_ hdb)
  exact PySem.W.callWith_K (h₀ := X.base) I.ok.mod.kin hk (thn (ha.run pos pins s σ H _ I h) fun us s1 ⟨vs, H1, I1, r, q⟩ => ⟨I1.kIn, run_x tk G hr hg hb har (hW σ) I1 r q⟩) he hpl
theorem pe_callG0 (G : FnAt X k x F) (hr : Room (k + 2) X.A) (hg : X.A.guards = some []) (gl : L2.Gl X x) (hdb : (x == ("__debug__" : Str)) = false) : PE X (.Call (.Name x p) [] [] pos) (tCB (RC X.K F) tNil) := by
  obtain ⟨f, fd, ps, hm, hk, G, hb, har⟩ := G.ex
  refine ⟨fun pins s σ H Q I h => ?_⟩
  refine wpAny_Call_Name_kw (ld_glob I gl hm ?_ hdb)
  exact PySem.W.callWith_K0 I.kIn hk (run_g (us := []) G hr hg hb har I .nil h)
end
def Lok (K : PySem.W.Frag) (ι : List Addr) (H : Hp) (L : Lcs) (σ : St) : Prop := L.length = σ.length ∧ ∀ (i : Nat) (d : D), L[i]? = some (some d) → ∃ v, σ[i]? = some (some v) ∧ DR K ι H d v
section
variable {K : PySem.W.Frag} {ι ι' : List Addr} {H H' : Hp} {L : Lcs} {σ : St}
theorem Lok.mono (h : Lok K ι H L σ) (p : ι <+: ι') (x : Xt H H') : Lok K ι' H' L σ := ⟨h.1, fun i d e => by
  obtain ⟨v, a, b⟩ := h.2 i d e
  exact ⟨v, a, b.mono p x d⟩⟩
theorem Lok.set (h : Lok K ι H L σ) (i : Nat) {d : D} {v : V} (r : DR K ι H d v) : Lok K ι H (L.set i (some d)) (σ.set i (some v)) := by
  refine ⟨by simp [h.1], fun j e hj => ?_⟩
  rw [List.getElem?_set] at hj ⊢
  by_cases hi : i = j
  · subst hi
    rw [if_pos rfl] at hj ⊢
    by_cases hl : i < L.length
    · rw [if_pos hl] at hj
      cases hj
      rw [if_pos (by rw [← h.1]; exact hl)]
      exact ⟨v, rfl, r⟩
    · rw [if_neg hl] at hj; cases hj
  · rw [if_neg hi] at hj ⊢
    exact h.2 j e hj
theorem Lok.wipe (h : Lok K ι H L σ) : ∀ vs : List Nat, Lok K ι H (wipeL L vs) (L2.wipe σ vs)
  | [] => h
  | v :: vs => by
    have ih := Lok.wipe h vs
    show Lok K ι H ((wipeL L vs).set v none) ((L2.wipe σ vs).set v none)
    refine ⟨by simp [ih.1], fun j e hj => ?_⟩
    rw [List.getElem?_set] at hj ⊢
    by_cases hi : v = j
    · subst hi
      rw [if_pos rfl] at hj
      split at hj <;> cases hj
    · rw [if_neg hi] at hj ⊢
      exact ih.2 j e hj
theorem Lok.start {N : List Str} {ds : List D} {vs : List V} (h : DRs K ι H ds vs) {n : Nat} (hn : n = N.length - ds.length) : Lok K ι H (ds.map some ++ List.replicate n none) (L2.start N vs) := by
  unfold L2.start
  subst hn
  refine ⟨by simp [h.length], fun i d e => ?_⟩
  rw [List.getElem?_append] at e ⊢
  simp only [List.length_map] at e ⊢
  rw [h.length]
  by_cases hi : i < ds.length
  · rw [if_pos hi] at e ⊢
    rw [List.getElem?_map] at e ⊢
    obtain ⟨d', e1, e2⟩ := Option.map_eq_some_iff.mp e
    cases e2
    obtain ⟨v, a, b⟩ := h.get e1
    exact ⟨v, by rw [a]; rfl, b⟩
  · rw [if_neg hi, List.getElem?_replicate] at e
    split at e <;> cases e
end
def TEc (G : Gv) (K : PySem.W.Frag) (c : CE) : TE := fun σ H Q => ∃ ι S L, Sok K ι H S ∧ Lok K ι H L σ ∧ Res K ι H (evE G c L S) Q
def TTc (G : Gv) (K : PySem.W.Frag) (c : CE) : TT := fun σ H Q => ∃ ι S L, Sok K ι H S ∧ Lok K ι H L σ ∧ Res K ι H (evE G c L S) fun v H' => ∃ b, v = .bl b ∧ Q b H'
def ResA (K : PySem.W.Frag) (ι : List Addr) (H : Hp) (r : R (List D)) (Q : List V → Hp → Prop) : Prop := match r with
  | .ok ds S' => ∀ ι' H' vs, ι <+: ι' → Xt H H' → Sok K ι' H' S' → DRs K ι' H' ds vs → Q vs H'
  | _ => False
def TAc (G : Gv) (K : PySem.W.Frag) (as : CA) : TA := fun σ H Q => ∃ ι S L, Sok K ι H S ∧ Lok K ι H L σ ∧ ResA K ι H (evA G as L S) Q
theorem ResA.mono {K : PySem.W.Frag} {ι ι1 : List Addr} {H H1 : Hp} {r : R (List D)} {Q : List V → Hp → Prop} (h : ResA K ι H r Q) (p : ι <+: ι1) (x : Xt H H1) : ResA K ι1 H1 r Q := by
  cases r with
  | ok d S' => exact fun ι' H' v a b c e => h ι' H' v (p.trans a) (x.trans b) c e
  | exc _ _ => exact h
  | bad => exact h
theorem ResA.step {α : Type} {K : PySem.W.Frag} {ι : List Addr} {H : Hp} {r : R α} {f : α → Store → R (List D)} {Q : List V → Hp → Prop} (h : ResA K ι H (r.bind f) Q) : ∃ d S1, r = .ok d S1 ∧ ResA K ι H (f d S1) Q := by
  cases r with
  | ok d S' => exact ⟨d, S', rfl, h⟩
  | exc _ _ => exact h.elim
  | bad => exact h.elim
theorem _root_.L2.PE.imp {X : Cx} {e : Expr} {t t' : TE} (h : PE X e t) (i : ∀ σ H Q, t' σ H Q → t σ H Q) : PE X e t' := ⟨fun pins s σ H Q I q => h.run pins s σ H Q I (i σ H Q q)⟩
theorem _root_.L2.PT.imp {X : Cx} {e : Expr} {t t' : TT} (h : PT X e t) (i : ∀ σ H Q, t' σ H Q → t σ H Q) : PT X e t' := ⟨fun pins s σ H Q I q => h.run pins s σ H Q I (i σ H Q q)⟩
theorem _root_.L2.PW.imp {X : Cx} {e : Expr} {t t' : TT} (h : PW X e t) (i : ∀ σ H Q, t' σ H Q → t σ H Q) : PW X e t' := ⟨fun wh pins s σ H Q I q => h.run wh pins s σ H Q I (i σ H Q q)⟩
theorem _root_.L2.PA.imp {X : Cx} {es : List Expr} {t t' : TA} (h : PA X es t) (i : ∀ σ H Q, t' σ H Q → t σ H Q) : PA X es t' := ⟨fun pos pins s σ H Q I q => h.run pos pins s σ H Q I (i σ H Q q)⟩
theorem _root_.L2.PS.imp {X : Cx} {e : Stmt} {t t' : TS} (h : PS X e t) (i : ∀ D σ H, t' D σ H → t D σ H) : PS X e t' := ⟨fun pins s σ H D I q => h.run pins s σ H D I (i D σ H q)⟩
theorem _root_.L2.PSs.imp {X : Cx} {e : List Stmt} {t t' : TS} (h : PSs X e t) (i : ∀ D σ H, t' D σ H → t D σ H) : PSs X e t' := ⟨fun pins s σ H D I q => h.run pins s σ H D I (i D σ H q)⟩
section
variable {G : Gv} {K : PySem.W.Frag} {ι : List Addr} {H : Hp} {S : Store} {L : Lcs} {σ : St} {c : CE}
/-- a value is there: whatever comes behind -/
theorem TEc.of {d : D} {S1 : Store} {Q : VK} (so : Sok K ι H S) (lo : Lok K ι H L σ) (e : evE G c L S = .ok d S1) (q : ∀ ι' H' v, ι <+: ι' → Xt H H' → Sok K ι' H' S1 → DR K ι' H' d v → Q v H') : TEc G K c σ H Q :=
  ⟨ι, S, L, so, lo, by rw [e]; exact q⟩
theorem TAc.of {as : CA} {ds : List D} {S1 : Store} {Q : List V → Hp → Prop} (so : Sok K ι H S) (lo : Lok K ι H L σ) (e : evA G as L S = .ok ds S1) (q : ∀ ι' H' v, ι <+: ι' → Xt H H' → Sok K ι' H' S1 → DRs K ι' H' ds v → Q v H') : TAc G K as σ H Q :=
  ⟨ι, S, L, so, lo, by rw [e]; exact q⟩
theorem TTc.of {b : Bool} {S1 : Store} {Q : Bool → Hp → Prop} (so : Sok K ι H S) (lo : Lok K ι H L σ) (e : evE G c L S = .ok (.bl b) S1) (q : ∀ ι' H', ι <+: ι' → Xt H H' → Sok K ι' H' S1 → Q b H') : TTc G K c σ H Q :=
  ⟨ι, S, L, so, lo, by rw [e]; exact fun ι' H' v p x s r => ⟨b, r, q ι' H' p x s⟩⟩
theorem ifB_res {d : D} {x y : R D} {Q : VK} (h : Res K ι H (ifB d x y) Q) : ∃ b, d = .bl b ∧ Res K ι H (if b = true then x else y) Q := by
  cases d with
  | bl b => exact ⟨b, rfl, h⟩
  | _ => exact h.elim
end
mutual
def CT.ixs : CT → List Nat
  | .nm i => [i]
  | .tp ts => CT.ixss ts
def CT.ixss : List CT → List Nat
  | [] => []
  | t :: ts => CT.ixs t ++ CT.ixss ts
end
/-- nothing but these places is written -/
def Sm (is : List Nat) (σ σ' : St) : Prop := σ'.length = σ.length ∧ ∀ i : Nat, i ∉ is → σ'[i]? = σ[i]?
theorem Sm.refl (is : List Nat) (σ : St) : Sm is σ σ := ⟨rfl, fun _ _ => rfl⟩
theorem Sm.set (σ : St) (i : Nat) (v : Option V) : Sm [i] σ (σ.set i v) := ⟨by simp, fun j hj => by rw [List.getElem?_set_ne (by intro e; subst e; simp at hj)]⟩
theorem Sm.trans {a b : List Nat} {σ σ1 σ2 : St} (h : Sm a σ σ1) (g : Sm b σ1 σ2) : Sm (a ++ b) σ σ2 := ⟨g.1.trans h.1, fun i hi => by
  rw [List.mem_append, not_or] at hi
  rw [g.2 i hi.2, h.2 i hi.1]⟩
theorem wipe_get (σ : St) : ∀ (vs : List Nat) (i : Nat), (L2.wipe σ vs)[i]? = if i ∈ vs then σ[i]?.map fun _ => none else σ[i]?
  | [], i => by simp [L2.wipe]
  | v :: vs, i => by
    show ((L2.wipe σ vs).set v none)[i]? = _
    rw [List.getElem?_set]
    have len := L2.wipe_length σ vs
    by_cases hi : v = i
    · subst hi
      rw [if_pos rfl, len, if_pos (List.mem_cons_self (a := v) (l := vs))]
      by_cases hl : v < σ.length
      · rw [if_pos hl, List.getElem?_eq_getElem hl] <;> rfl
      · rw [if_neg hl, List.getElem?_eq_none (by omega)] <;> rfl
    · rw [if_neg hi, wipe_get σ vs i]
      by_cases hm : i ∈ vs
      · rw [if_pos hm, if_pos (List.mem_cons_of_mem _ hm)]
      · rw [if_neg hm, if_neg (by simp [hm, Ne.symm hi])]
theorem Sm.wipe {is vs : List Nat} {σ σ' : St} (h : Sm is (L2.wipe σ vs) σ') (sub : ∀ i ∈ is, i ∈ vs) : L2.wipe σ' vs = L2.wipe σ vs := by
  refine List.ext_getElem? fun i => ?_
  have hl := h.1
  rw [L2.wipe_length] at hl
  rw [wipe_get, wipe_get]
  by_cases hm : i ∈ vs
  · rw [if_pos hm, if_pos hm]
    by_cases hi : i < σ.length
    · rw [List.getElem?_eq_getElem hi, List.getElem?_eq_getElem (by omega)] <;> rfl
    · rw [List.getElem?_eq_none (by omega), List.getElem?_eq_none (by omega)]
  · rw [if_neg hm, if_neg hm, h.2 i fun z => hm (sub i z), wipe_get, if_neg hm]
def TGc (K : PySem.W.Frag) (t : CT) : TG := fun v σ H Q => ∃ ι S L d L', Sok K ι H S ∧ Lok K ι H L σ ∧ DR K ι H d v ∧ asgT t d S L = some L' ∧ ∀ σ', Lok K ι H L' σ' → Sm t.ixs σ σ' → Q σ' H
def TGsc (K : PySem.W.Frag) (ts : List CT) : TGs := fun vs σ H Q => ∃ ι S L ds L', Sok K ι H S ∧ Lok K ι H L σ ∧ DRs K ι H ds vs ∧ asgTs ts ds S L = some L' ∧ ds.length = ts.length ∧ ∀ σ', Lok K ι H L' σ' → Sm (CT.ixss ts) σ σ' → Q σ' H
/-- the place of a name -/
def ixOf (N : List Str) (x : Str) : Option Nat := N.findIdx? (fun y => decide (y = x))
theorem ixOf_get {N : List Str} {x : Str} {i : Nat} (h : ixOf N x = some i) : N[i]? = some x := by
  unfold ixOf at h
  obtain ⟨hi, e, _⟩ := List.findIdx?_eq_some_iff_getElem.mp h
  rw [List.getElem?_eq_getElem hi, of_decide_eq_true e]
/-- targets: names and tuples of targets -/
def erT (N : List Str) (sc : Scope) (tc : Str → Bool) : Nat → Expr → Option CT
  | 0, _ => none
  | n + 1, e => match e with
    | .Name x _ => match sc.names.lookup x with
      | some .local => (ixOf N x).map .nm
      | some .cell => if tc x then (ixOf N x).map .nm else none
      | _ => none
    | .Tuple es _ _ => (allSome (es.map (erT N sc tc n))).map .tp
    | _ => none
section
variable {X : Cx}
theorem assign_len (es : List Expr) (env : Env) : (assignEach es env).length = es.length := by
  induction es with
  | nil => rfl
  | cons e es ih => cases e <;> (unfold assignEach; simp [ih])
theorem er_tgt (hc : X.calm = true) (nd : X.N.Nodup) {sc : Scope} (hsc : X.env.scope = sc) {tc : Str → Bool} (hf : ∀ x, tc x = true → X.fn x = true) : ∀ (n : Nat) (e : Expr) (t : CT), erT X.N sc tc n e = some t → PG X e (TGc X.K t) := by
  intro n
  induction n with
  | zero => intro e t h; cases h
  | succ n ih =>
    intro e t h
    have name : ∀ x i p, (sc.names.lookup x = some .local ∨ (sc.names.lookup x = some .cell ∧ tc x = true)) → ixOf X.N x = some i → PG X (.Name x p) (TGc X.K (.nm i)) := by
      intro x i p hx hi
      have hN := ixOf_get hi
      have loc : L2.Loc X.env.scope x := by
        rw [L2.Loc, hsc]
        rcases hx with hx | hx
        · exact .inl hx
        · exact .inr hx.1
      have hfn : X.fn x = true ∨ X.env.scope.names.lookup x = some .local := by
        rcases hx with hx | hx
        · exact .inr (by rw [hsc]; exact hx)
        · exact .inl (hf x hx.2)
      have g := pg_name (pos := p) nd hN loc hfn
      refine ⟨fun pins s σ H v u Q I r hw => g.run pins s σ H v u Q I r ?_⟩
      obtain ⟨ι, S, L, d, L', so, lo, dr, ha, q⟩ := hw
      simp only [asgT] at ha
      split at ha
      · cases ha
        exact q _ (lo.set i dr) (Sm.set σ i _)
      · cases ha
    have tup : ∀ es k p ts, allSome (es.map (erT X.N sc tc n)) = some ts → PG X (.Tuple es k p) (TGc X.K (.tp ts)) := by
      intro es k p ts hts
      have gs : ∀ (es : List Expr) (ts : List CT), allSome (es.map (erT X.N sc tc n)) = some ts → PGs X es (TGsc X.K ts) ∧ es.length = ts.length ∧ (assignEach es X.env).findIdx? (·.1) = none := by
        intro es
        induction es with
        | nil =>
          intro ts h
          cases h
          refine ⟨⟨fun pins s σ H vs us Q I r hw => pgs_nil.run pins s σ H vs us Q I r ?_⟩, rfl, rfl⟩
          obtain ⟨ι, S, L, ds, L', so, lo, dr, ha, hl, q⟩ := hw
          cases ds with
          | cons _ _ => cases hl
          | nil =>
            cases ha
            exact ⟨dr.nil_iff, q σ lo (Sm.refl _ σ)⟩
        | cons e es ihs =>
          intro ts h
          rw [List.map_cons] at h
          obtain ⟨t, ts', h1, h2, rfl⟩ := allSome_cons h
          obtain ⟨g2, l2, st⟩ := ihs ts' h2
          have g1 := ih e t h1
          have ns : ∀ (env : Env), assignEach (e :: es) env = (false, assign e env) :: assignEach es env := by
            intro env
            cases e <;> first
              | rfl
              | (cases n with
                | zero => cases h1
                | succ n => simp only [erT] at h1; cases h1)
          have g := pgs_cons g1 g2 (by rw [ns]; rfl)
          refine ⟨⟨fun pins s σ H vs us Q I r hw => g.run pins s σ H vs us Q I r ?_⟩, by simp [l2], by rw [ns, List.findIdx?_cons]; simp [st]⟩
          obtain ⟨ι, S, L, ds, L', so, lo, dr, ha, hl, q⟩ := hw
          cases ds with
          | nil => cases hl
          | cons d ds =>
            obtain ⟨v, vr, rfl, d1, d2⟩ := dr
            simp only [asgTs] at ha
            obtain ⟨L1, a1, a2⟩ := Option.bind_eq_some_iff.mp ha
            exact ⟨v, vr, rfl, ι, S, L, d, L1, so, lo, d1, a1, fun σ' lo' sm => ⟨ι, S, L1, ds, L', so, lo', d2, a2, by simpa using hl, fun σ'' lo'' sm' => q σ'' lo'' (sm.trans sm')⟩⟩
      obtain ⟨g, hl, st⟩ := gs es ts hts
      have gt := pg_tup (pos := p) (k := k) (n := ts.length) hc g (by rw [assign_len, hl]) st
      have gu := pg_unl (pos := p) (k := k) (n := ts.length) hc g (by rw [assign_len, hl]) st
      refine ⟨fun pins s σ H v u Q I r hw => ?_⟩
      obtain ⟨ι, S, L, d, L', so, lo, dr, ha, q⟩ := hw
      simp only [asgT] at ha
      split at ha
      · rename_i ds hs
        split at ha
        · rename_i hlen
          cases d with
          | tup es' =>
            cases hs
            obtain ⟨a, vs, rfl, sq, dr⟩ := dr
            exact gt.run pins s σ H _ u Q I r ⟨a, vs, rfl, sq.sq, by rw [dr.length]; exact hlen, ι, S, L, ds, L', so, lo, dr, ha, hlen, q⟩
          | ref m =>
            obtain ⟨a, vs, ea, sq, dr2⟩ := lstAt_at so (show lstAt S (.ref m) = some ds from hs)
            obtain ⟨b, eb, rfl⟩ := dr
            rw [ea] at eb; cases eb
            exact gu.run pins s σ H _ u Q I r ⟨a, vs, rfl, sq, by rw [dr2.length]; exact hlen, ι, S, L, ds, L', so, lo, dr2, ha, hlen, q⟩
          | _ => cases hs
        · cases ha
      · cases ha
    cases e with
    | Name x p =>
      simp only [erT] at h
      split at h
      · obtain ⟨i, hi, rfl⟩ := Option.map_eq_some_iff.mp h
        exact name x i p (.inl ‹_›) hi
      · split at h
        · obtain ⟨i, hi, rfl⟩ := Option.map_eq_some_iff.mp h
          exact name x i p (.inr ⟨‹_›, ‹_›⟩) hi
        · cases h
      · cases h
    | Tuple es k p =>
      simp only [erT] at h
      obtain ⟨ts, hts, rfl⟩ := Option.map_eq_some_iff.mp h
      exact tup es k p ts hts
    | _ => cases h
end
end Mi
namespace Mi
open PySem L2
theorem meets_enumB {v : Value} {o : Obj} {H : Heap → Prop} (B : Begins v o H) :
    Meets (Builtin.«enumerate.__new__» ⟨[.type "enumerate", v], []⟩) (fun _ R s => H s.heap ∧
      R (.ok (.ret (.ref (s.heap.push o).objs.size)))
        { s with heap := (s.heap.push o).push { cls := .type "enumerate", data := .fields #[.none, .bool false, .ref s.heap.objs.size, rawInt 0, .none, .none] } }) :=
  .of_wp fun prog w A R s h => by
    obtain ⟨hp, g, d, tk, os⟩ := s; obtain ⟨h1, h⟩ := h
    have hsub := sub_enumerate
    have q1 : ∀ {A' : Around} {E : Value → Shared → Prop} {Q : Value → Shared → Prop}, Q (.ref hp.objs.size) ⟨(hp.push o), g, d, tk, os⟩ → wpAny (model prog w) A' (pyIter v) Q E ⟨hp, g, d, tk, os⟩ :=
      fun q => B.iter prog w _ _ ⟨hp, g, d, tk, os⟩ _ (B.keeps _ _ h1 fun b o' e => e) q
    wp_walk using q1
    refine wpAny_stack_any fun st => wpAny_pure ?_
    split
    · rename_i c _ _ _ _ _
      cases (c == Value.type "enumerate")
      · wp_walk using q1
        exact ⟨_, rfl, h⟩
      · wp_walk using q1
        exact ⟨_, rfl, h⟩
    · wp_walk using q1
      exact ⟨_, rfl, h⟩
theorem call_enumB {prog : Program} {w : World} {A : Around} {E : Value → Shared → Prop} {s : Shared} {v : Value} {o : Obj} {H : Heap → Prop} (B : Begins v o H) {Q : Value → Shared → Prop} (hH : H s.heap)
    (h : ∀ h', IsEnum h' (s.heap.objs.size + 1) s.heap.objs.size 0 .none → h'.get? s.heap.objs.size = some o → h'.objs.size = s.heap.objs.size + 2 →
      (∀ b o, s.heap.get? b = some o → h'.get? b = some o) → Q (.ref (s.heap.objs.size + 1)) { s with heap := h' }) :
    wpAny (model prog w) A (call (.type "enumerate") [v]) Q E s := by
  refine callType_new F.called_enumerate (by decide) (F.typeCall_enumerate_1 _) (F.newCall_enumerate_1 _) (fun obj => F.args_object_init_2 obj _) F.entry_enumerate_new
    (meets_enumB B) ⟨hH, ?_⟩
  have hz : (s.heap.push o).objs.size = s.heap.objs.size + 1 := Heap.size_push ..
  show _ ∧ _
  rw [hz]
  have he : IsEnum ((s.heap.push o).push { cls := .type "enumerate", data := .fields #[.none, .bool false, .ref s.heap.objs.size, rawInt 0, .none, .none] }) (s.heap.objs.size + 1) s.heap.objs.size 0 .none := by
    have := Heap.get?_push_size (s.heap.push o) (o := { cls := .type "enumerate", data := .fields #[.none, .bool false, .ref s.heap.objs.size, rawInt 0, .none, .none] }) rfl
    rw [hz] at this; exact this
  refine ⟨⟨_, he, rfl⟩, h _ he (Heap.get?_push_of_some _ (Heap.get?_push_size _ B.free)) (by rw [Heap.size_push, hz]) fun b o x => Heap.get?_push_of_some _ (Heap.get?_push_of_some _ x)⟩
def IteT (K : PySem.W.Frag) (a : Addr) : It :=
  ⟨fun i H => ∃ (xs : List V) (x : V), SqT K H a xs ∧ xs[i]? = some x, fun i H v H' => ∃ T x, v = .ref T ∧ H T = none ∧ H' = upd H T (.tup [.int (i : Nat), x]) ∧ ∀ xs, SqT K H a xs → xs[i]? = some x, fun i H => ∃ xs : List V, SqT K H a xs ∧ xs.length ≤ i⟩
theorem turn_enumT {P : Program} {w : World} {K : PySem.W.Frag} {elts : List Expr} {kk : Nat} {tpos : Pos} (a e it : Addr) :
    L2.Turn P w K (.Tuple elts kk tpos) (IteT K a) [e, it] e (fun i h => (∃ old, IsEnum h e it ((i : Nat) : Int) old) ∧ h.IsTupleIter it a i ∧ e ≠ it ∧ a ≠ it ∧ e ≠ a) where
  mem := by simp
  obj := fun i h st b hb => by
    obtain ⟨⟨old, he⟩, ⟨o, ho, hc, hd⟩, _⟩ := st
    have e' : b = e ∨ b = it := by simpa using hb
    rcases e' with z | z
    · rw [z]; exact ⟨_, he, fun v q => nomatch q⟩
    · rw [z]; exact ⟨o, ho, fun v q => by rw [hd] at q; cases q⟩
  keep := fun i h h' st k => let ⟨⟨old, he⟩, hi, hne⟩ := st; ⟨⟨old, k e (by simp) _ he⟩, hi.at fun o q => k it (by simp) o q, hne⟩
  item := by
    intro X hP hw hK hc i pins s σ H E I hf st hg
    subst hP hw hK
    obtain ⟨⟨old, he⟩, hit, hne, hai, hea⟩ := st
    obtain ⟨xs, x, hq, hx⟩ := hg
    obtain ⟨its, rv, p, hz⟩ := I.tuple hq
    have hel : e < s.heap.objs.size := Heap.lt_size he
    have hil : it < s.heap.objs.size := by obtain ⟨_, q, _⟩ := hit; exact Heap.lt_size q
    have hlt : i < its.toArray.size := by
      have := (List.getElem?_eq_some_iff.mp hx).1
      rw [List.size_toArray, ← rv.length]; exact this
    refine wpAny_pyNext_enum_itemD (Draws.tuple (A := X.A.in1) (I.ok.hd hc) it a hai its.toArray) he ⟨hit, show s.heap.IsTuple a its.toArray from p⟩ hlt hne (by simp [hne, hea]) fun u h' tk hu ho hit' hT hsz hk => ?_
    obtain ⟨u', hu', ru⟩ := rv.get hx
    have eu : u' = u := by
      rw [List.getElem?_toArray] at hu
      rw [hu] at hu'
      exact (Option.some.inj hu').symm
    subst eu
    refine ⟨_, rfl, wpAny_letOwnedTupleGo_enum (s := { s with heap := h', toks := tk + 1 }) ho fun h'' he' sb => ?_⟩
    have hT2 : h''.get? s.heap.objs.size = some { cls := .type "tuple", data := .seq #[.int i tk, u'] } := (sb.2 _ (Nat.ne_of_gt hel)).trans hT
    have new : ObjOk X.prog X.w (upd H s.heap.objs.size (.tup [.int (i : Nat), x])) h'' s.heap.objs.size (.tup [.int (i : Nat), x]) :=
      ⟨by show 2 ≤ sizeLine; decide, [.int i tk, u'], .cons ⟨_, rfl⟩ (.cons ru .nil), ⟨_, hT2, rfl, _, rfl⟩⟩
    have I1 : Inv X pins σ (upd H s.heap.objs.size (.tup [.int (i : Nat), x])) { s with heap := h'', toks := tk + 1 } :=
      I.turnedNew (ch := [e, it]) (fun b ob hb q => (sb.2 b (fun z => hb (by simp [z]))).trans (hk b ob (fun z => hb (by simp [z])) (fun z => hb (by simp [z])) q)) hf (Nat.le_refl _) new
    refine ⟨.ref s.heap.objs.size, _, I1, rfl, ⟨_, x, rfl, I.hok.fresh (Nat.le_refl _), rfl, fun ys hy => by rw [I.tuple_inj hy hq]; exact hx⟩, ⟨⟨u', ?_⟩, hit'.1.at fun o q => (sb.2 it (Ne.symm hne)).trans q, hne, hai, hea⟩, fun b hb => ?_⟩
    · have e1 : ((i + 1 : Nat) : Int) = (i : Int) + 1 := by omega
      rw [e1]; exact he'
    · have hb' : b < s.heap.objs.size := by
        have e' : b = e ∨ b = it := by simpa using hb
        rcases e' with z | z
        · rw [z]; exact hel
        · rw [z]; exact hil
      rw [upd_ne (Nat.ne_of_lt hb')]
      exact (hf b hb).1
  done := by
    intro X hP hw hK hc i pins s σ H E I hf st hg
    subst hP hw hK
    obtain ⟨⟨old, he⟩, hit, hne, hai, hea⟩ := st
    obtain ⟨xs, hq, hx⟩ := hg
    obtain ⟨its, rv, p, hz⟩ := I.tuple hq
    obtain ⟨f0, f1, f2, f3, f4, f5⟩ := hf it (by simp)
    have hl := rv.length
    refine wpAny_pyNext_enum_end' (I.ok.hd hc) he hit (show s.heap.IsTuple a its.toArray from p) (by simp; omega) fun h' eb => ⟨rfl, I.turned (t' := s.toks) (fun b o hb q => eb b o hb q) f0 f1 f3 f4 f5⟩
  self := fun A i s Q E st h => let ⟨⟨_, he⟩, _⟩ := st; wpAny_pyIter_enum he h
where
  wpAny_pyNext_enum_end' {prog : Program} {w : World} {A : Around} {E : Value → Shared → Prop} {s : Shared} {e it l : Addr} {i : Nat} {j : Int} {items : Array Value} {old : Value} {Q : Option Value → Shared → Prop} (hh : A.handled = none)
      (he : IsEnum s.heap e it j old) (hit : s.heap.IsTupleIter it l i) (hl : s.heap.IsTuple l items) (hx : items[i]? = none)
      (hQ : ∀ h', Heap.ExtBut it s.heap h' → Q none { s with heap := h' }) : wpAny (model prog w) A (pyNext (.ref e)) Q E s := by
    have hT : s.TypeIs (.ref e) "enumerate" := ⟨_, he, rfl⟩
    unfold pyNext
    refine wpAny_bind (wpAny_attempt (wpAny_callSpecial?_slot (name := Str.ofString "__next__") hT F.slot_enumerate_next
      (wpAny_call_entry F.slot_enumerate_next hT F.entry_enumerate_next ?_ (F.args_enumerate_next_1 _))))
    show wpAny _ _ (field (.ref e) 2 >>= _) _ _ _
    refine wpAny_bind (wpAny_field he rfl (x := .ref it) rfl ?_)
    refine wpAny_bind (wpAny_nextOf_tuple_end hh hit hl hx fun h' x he' hx' => ?_)
    obtain ⟨o, ho, hc⟩ := hx'
    refine wpAny_bind (wpAny_isInstance (T := "StopIteration") (b := true) ⟨o, ho, hc⟩ isSubtype_stop ?_)
    exact wpAny_pure (hQ _ he')
def iEnumT (K : PySem.W.Frag) (ta : TA) : TI := fun σ H R => ta σ H fun vs H1 => ∃ a xs, vs = [.ref a] ∧ SqT K H1 a xs ∧ R (IteT K a) H1
theorem pi_enumT {X : Cx} {e : Expr} {ta : TA} {p pos tpos : Pos} {elts : List Expr} {kk : Nat} (hg : L2.Gl X "enumerate") (hm : X.mg "enumerate" = none) (ha : PA X [e] ta) (hs : starEach [e] X.env = [(false, eval e X.env)]) :
    PI X (.Tuple elts kk tpos) (.Call (.Name "enumerate" p) [e] [] pos) (iEnumT X.K ta) := by
  refine ⟨fun pins s σ H R I h => ?_⟩
  refine PyProof.Rows.Call_ (ld_blt I hg hm PyProof.Rows.boot_enumerate (PyProof.Rows.callWith_type1 (thn (ha.run pos pins s σ H _ I h) fun us s1 ⟨vs, H1, I1, r1, q1⟩ => ?_) hs rfl))
  obtain ⟨a, xs, ex, hq, q⟩ := q1
  subst ex
  cases r1 with
  | cons r rr =>
    cases rr
    cases r
    obtain ⟨its, rv, p', hz⟩ := I1.tuple hq
    obtain ⟨oa, hoa, _⟩ := id p'
    have hal : a < s1.heap.objs.size := Heap.lt_size hoa
    refine call_enumB (begins_tuple a its.toArray) (show s1.heap.IsTuple a its.toArray from p') fun h' he hit hsz hk => wpAny_pyIter_enum he ?_
    have I2 : Inv X pins σ H1 { s1 with heap := h' } := I1.kept (t' := s1.toks) hk
    refine ⟨s1.heap.objs.size + 1, [s1.heap.objs.size + 1, s1.heap.objs.size], _, _, H1, rfl, I2, turn_enumT a (s1.heap.objs.size + 1) s1.heap.objs.size, ⟨⟨.none, he⟩, ⟨_, hit, rfl, rfl⟩, Nat.succ_ne_self _, Nat.ne_of_lt hal, Nat.ne_of_gt (Nat.lt_succ_of_lt hal)⟩, fun b hb => ?_, q⟩
    have e' : b = s1.heap.objs.size + 1 ∨ b = s1.heap.objs.size := by simpa using hb
    have hle : s1.heap.objs.size ≤ b := by
      rcases e' with z | z
      · rw [z]; exact Nat.le_add_right _ _
      · rw [z]; exact Nat.le_refl _
    exact I1.fpOk hle (I1.hok.fresh hle)
def tRevT (K : PySem.W.Frag) (te : TE) : TE := fun σ H Q => te σ H fun x H1 => ∃ a xs, x = .ref a ∧ SqT K H1 a xs ∧ ∀ p, H1 p = none → Q (.ref p) (upd H1 p (.tup xs.reverse))
structure Wk (K : PySem.W.Frag) (ι : List Addr) (H : Hp) (J : It) (ds : List D) (g : Guard) : Prop where
  run : ∀ (ι' : List Addr) (H' : Hp) (S' : Store) (i : Nat), ι <+: ι' → Xt H H' → Sok K ι' H' S' → Gok g S' →
    (ds.length ≤ i → J.stop i H') ∧ ∀ d, ds[i]? = some d → J.go i H' ∧ ∀ x H2, J.yld i H' x H2 → Xt H' H2 ∧ Sok K ι' H2 S' ∧ DR K ι' H2 d x
def ResI (K : PySem.W.Frag) (ι : List Addr) (H : Hp) (r : R (List D × Guard)) (Q : It → Hp → Prop) : Prop := match r with
  | .ok p S' => ∀ ι' H' J, ι <+: ι' → Xt H H' → Sok K ι' H' S' → Wk K ι' H' J p.1 p.2 → Q J H'
  | _ => False
def TIc (G : Gv) (K : PySem.W.Frag) (it : CI) : TI := fun σ H R => ∃ ι S L, Sok K ι H S ∧ Lok K ι H L σ ∧ ResI K ι H (evI G it L S) R
theorem ResI.step {α : Type} {K : PySem.W.Frag} {ι : List Addr} {H : Hp} {r : R α} {f : α → Store → R (List D × Guard)} {Q : It → Hp → Prop} (h : ResI K ι H (r.bind f) Q) : ∃ d S1, r = .ok d S1 ∧ ResI K ι H (f d S1) Q := by
  cases r with
  | ok d S' => exact ⟨d, S', rfl, h⟩
  | exc _ _ => exact h.elim
  | bad => exact h.elim
theorem ResI.mono {K : PySem.W.Frag} {ι ι1 : List Addr} {H H1 : Hp} {r : R (List D × Guard)} {Q : It → Hp → Prop} (h : ResI K ι H r Q) (p : ι <+: ι1) (x : Xt H H1) : ResI K ι1 H1 r Q := by
  cases r with
  | ok d S' => exact fun ι' H' v a b c e => h ι' H' v (p.trans a) (x.trans b) c e
  | exc _ _ => exact h
  | bad => exact h
theorem ofO_step {α : Type} {o : Option α} {S : Store} {K : PySem.W.Frag} {ι : List Addr} {H : Hp} {f : α → Store → R (List D × Guard)} {Q : It → Hp → Prop} (h : ResI K ι H ((ofO o S).bind f) Q) : ∃ a, o = some a ∧ ResI K ι H (f a S) Q := by
  cases o with
  | some a => exact ⟨a, rfl, h⟩
  | none => exact h.elim
theorem ofO_res {S : Store} {K : PySem.W.Frag} {ι : List Addr} {H : Hp} {o : Option (List D × Guard)} {Q : It → Hp → Prop} (h : ResI K ι H (ofO o S) Q) : ∃ a, o = some a ∧ ResI K ι H (.ok a S) Q := by
  cases o with
  | some a => exact ⟨a, rfl, h⟩
  | none => exact h.elim
section
variable {K : PySem.W.Frag} {ι : List Addr} {H : Hp} {S : Store}
theorem lst_at (s : Sok K ι H S) {n : Nat} {ds : List D} {c : Cell} (hc : c = .lst ds ∨ c = .frz ds) (e : S[n]? = some c) {ι0 : List Addr} (p0 : ι0 <+: ι) {a : Addr} (ea : ι0[n]? = some a) : ∃ vs, SqL K H a vs ∧ DRs K ι H ds vs := by
  have el : lstAt S (.ref n) = some ds := by
    rcases hc with rfl | rfl <;> simp only [lstAt, e]
  obtain ⟨b, vs, eb, sq, dr⟩ := lstAt_at s el
  rw [pre_get p0 ea] at eb
  cases eb
  exact ⟨vs, sq, dr⟩
theorem sql_get {a : Addr} {ds : List D} {vs : List V} (dr : DRs K ι H ds vs) {i : Nat} {d : D} (hd : ds[i]? = some d) : ∃ v, vs[i]? = some v ∧ DR K ι H d v := dr.get hd
theorem wk_list {n : Nat} {a : Addr} {ds : List D} {c : Cell} (hc : c = .lst ds ∨ c = .frz ds) (ea : ι[n]? = some a) : Wk K ι H (Itl K a) ds [(n, c)] := by
  refine ⟨fun ι' H' S' i p x so g => ?_⟩
  obtain ⟨vs, sq, dr⟩ := lst_at so hc (g (n, c) (by simp)) p ea
  refine ⟨fun hi => ⟨vs, sq, by rw [dr.length]; exact hi⟩, fun d hd => ?_⟩
  obtain ⟨v, hv, r⟩ := dr.get hd
  refine ⟨⟨vs, v, sq, hv⟩, fun y H2 ⟨e1, e2⟩ => ?_⟩
  subst e1
  have := e2 vs sq
  rw [hv] at this
  cases this
  exact ⟨Xt.refl _, so, r⟩
theorem wk_tup {a : Addr} {ds : List D} {vs : List V} (sq : Tq K H a vs) (dr : DRs K ι H ds vs) : Wk K ι H (Itt K a) ds [] := by
  refine ⟨fun ι' H' S' i p x so g => ?_⟩
  have sq' := (sqT_mono x sq).sq
  have dr' := dr.mono p x
  refine ⟨fun hi => ⟨vs, sq', by rw [dr.length]; exact hi⟩, fun d hd => ?_⟩
  obtain ⟨v, hv, r⟩ := dr'.get hd
  refine ⟨⟨vs, v, sq', hv⟩, fun y H2 ⟨e1, e2⟩ => ?_⟩
  subst e1
  have := e2 vs sq'
  rw [hv] at this
  cases this
  exact ⟨Xt.refl _, so, r⟩
theorem wk_str {z : Str} : Wk K ι H (Its z) (z.cps.toList.map fun c => .str ⟨#[c]⟩) [] := by
  refine ⟨fun ι' H' S' i p x so g => ⟨fun hi => (show z.cps.size ≤ i by simpa using hi), fun d hd => ?_⟩⟩
  rw [List.getElem?_map] at hd
  obtain ⟨c, hc, rfl⟩ := Option.map_eq_some_iff.mp hd
  have hi : i < z.cps.size := by
    have := (List.getElem?_eq_some_iff.mp hc).1
    simpa using this
  refine ⟨hi, fun y H2 ⟨e1, c', e2, e3⟩ => ?_⟩
  subst e1 e3
  have e4 : z.cps[i]? = some c := by rw [← Array.getElem?_toList]; exact hc
  rw [e4] at e2
  cases e2
  exact ⟨Xt.refl _, so, rfl⟩
theorem wk_rng {lo : Int} {n : Nat} : Wk K ι H (Itr lo n) ((List.range n).map fun (k : Nat) => D.int (lo + (k : Int))) [] := by
  refine ⟨fun ι' H' S' i p x so g => ⟨fun hi => (show n ≤ i by simpa using hi), fun d hd => ?_⟩⟩
  rw [List.getElem?_map] at hd
  obtain ⟨c, hc, rfl⟩ := Option.map_eq_some_iff.mp hd
  have hi : i < n ∧ c = i := by
    obtain ⟨h1, h2⟩ := List.getElem?_eq_some_iff.mp hc
    rw [List.getElem_range] at h2
    exact ⟨by simpa using h1, h2.symm⟩
  obtain ⟨hi, rfl⟩ := hi
  refine ⟨hi, fun y H2 ⟨e1, e2⟩ => ?_⟩
  subst e1 e2
  exact ⟨Xt.refl _, so, rfl⟩
theorem enu_get : ∀ (ds : List D) (k i : Nat), (enuFrom k ds)[i]? = (ds[i]?).map fun d => .tup [.int ((k + i : Nat) : Int), d]
  | [], k, i => by simp [enuFrom]
  | d :: ds, k, 0 => by simp [enuFrom]
  | d :: ds, k, i + 1 => by
    show (enuFrom (k + 1) ds)[i]? = _
    rw [enu_get ds (k + 1) i]
    have : k + 1 + i = k + (i + 1) := by omega
    rw [this] <;> rfl
theorem enu_len : ∀ (ds : List D) (k : Nat), (enuFrom k ds).length = ds.length
  | [], _ => rfl
  | d :: ds, k => by simp [enuFrom, enu_len ds (k + 1)]
/-- a new pair is laid -/
theorem pair_new {ι' : List Addr} {H' : Hp} {S' : Store} (so : Sok K ι' H' S') {T : Addr} (hT : H' T = none) {d1 d2 : D} {v1 v2 : V} (r1 : DR K ι' H' d1 v1) (r2 : DR K ι' H' d2 v2) :
    Xt H' (upd H' T (.tup [v1, v2])) ∧ Sok K ι' (upd H' T (.tup [v1, v2])) S' ∧ DR K ι' (upd H' T (.tup [v1, v2])) (.tup [d1, d2]) (.ref T) := by
  have x := Xt.new (o := .tup [v1, v2]) hT
  exact ⟨x, so.tup hT, T, [v1, v2], rfl, .inl upd_same, v1, [v2], rfl, r1.mono (List.prefix_refl _) x _, v2, [], rfl, r2.mono (List.prefix_refl _) x _, rfl⟩
theorem wk_enuL {n : Nat} {a : Addr} {ds : List D} {c : Cell} (hc : c = .lst ds ∨ c = .frz ds) (ea : ι[n]? = some a) : Wk K ι H (Ite K a) (enuFrom 0 ds) [(n, c)] := by
  refine ⟨fun ι' H' S' i p x so g => ?_⟩
  obtain ⟨vs, sq, dr⟩ := lst_at so hc (g (n, c) (by simp)) p ea
  refine ⟨fun hi => ⟨vs, sq, by rw [dr.length, ← enu_len ds 0]; exact hi⟩, fun d hd => ?_⟩
  rw [enu_get] at hd
  obtain ⟨d', hd', rfl⟩ := Option.map_eq_some_iff.mp hd
  obtain ⟨v, hv, r⟩ := dr.get hd'
  refine ⟨⟨vs, v, sq, hv⟩, fun y H2 ⟨T, y', e1, hT, e2, e3⟩ => ?_⟩
  have := e3 vs sq
  rw [hv] at this
  cases this
  subst e1 e2
  rw [Nat.zero_add]
  exact pair_new so hT (show DR K ι' H' (.int (i : Nat)) (.int (i : Nat)) from rfl) r
theorem wk_enuT {a : Addr} {ds : List D} {vs : List V} (sq : Tq K H a vs) (dr : DRs K ι H ds vs) : Wk K ι H (IteT K a) (enuFrom 0 ds) [] := by
  refine ⟨fun ι' H' S' i p x so g => ?_⟩
  have sq' := (sqT_mono x sq).sq
  have dr' := dr.mono p x
  refine ⟨fun hi => ⟨vs, sq', by rw [dr.length, ← enu_len ds 0]; exact hi⟩, fun d hd => ?_⟩
  rw [enu_get] at hd
  obtain ⟨d', hd', rfl⟩ := Option.map_eq_some_iff.mp hd
  obtain ⟨v, hv, r⟩ := dr'.get hd'
  refine ⟨⟨vs, v, sq', hv⟩, fun y H2 ⟨T, y', e1, hT, e2, e3⟩ => ?_⟩
  have := e3 vs sq'
  rw [hv] at this
  cases this
  subst e1 e2
  rw [Nat.zero_add]
  exact pair_new so hT (show DR K ι' H' (.int (i : Nat)) (.int (i : Nat)) from rfl) r
theorem wk_zipT {a b : Addr} {ds es : List D} {vs us : List V} (sq : Tq K H a vs) (dr : DRs K ι H ds vs) (sq2 : Tq K H b us) (dr2 : DRs K ι H es us) : Wk K ι H (RZ.ItzT K a b) (zipL ds es) [] := by
  refine ⟨fun ι' H' S' i p x so g => ?_⟩
  have sqa := (sqT_mono x sq).sq
  have sqb := (sqT_mono x sq2).sq
  have dra := dr.mono p x
  have drb := dr2.mono p x
  refine ⟨fun hi => ⟨vs, us, sqa, sqb, ?_⟩, fun d hd => ?_⟩
  · unfold zipL at hi
    rw [List.length_map, List.length_zip] at hi
    rw [dr.length, dr2.length]
    omega
  · unfold zipL at hd
    rw [List.getElem?_map] at hd
    obtain ⟨q, hq, rfl⟩ := Option.map_eq_some_iff.mp hd
    rw [List.getElem?_zip_eq_some] at hq
    obtain ⟨v, hv, r⟩ := dra.get hq.1
    obtain ⟨u, hu, r2⟩ := drb.get hq.2
    refine ⟨⟨vs, us, v, u, sqa, sqb, hv, hu⟩, fun y H2 ⟨T, y1, y2, e1, hT, e2, e3, e4⟩ => ?_⟩
    have h3 := e3 vs sqa
    have h4 := e4 us sqb
    rw [hv] at h3
    rw [hu] at h4
    cases h3; cases h4
    subst e1 e2
    exact pair_new so hT r r2
theorem wk_zipL {n m : Nat} {a b : Addr} {ds es : List D} {c c2 : Cell} (hc : c = .lst ds ∨ c = .frz ds) (hc2 : c2 = .lst es ∨ c2 = .frz es) (ea : ι[n]? = some a) (eb : ι[m]? = some b) : Wk K ι H (Itz K a b) (zipL ds es) [(n, c), (m, c2)] := by
  refine ⟨fun ι' H' S' i p x so g => ?_⟩
  obtain ⟨vs, sqa, dra⟩ := lst_at so hc (g (n, c) (by simp)) p ea
  obtain ⟨us, sqb, drb⟩ := lst_at so hc2 (g (m, c2) (by simp)) p eb
  refine ⟨fun hi => ⟨vs, us, sqa, sqb, ?_⟩, fun d hd => ?_⟩
  · unfold zipL at hi
    rw [List.length_map, List.length_zip] at hi
    rw [dra.length, drb.length]
    omega
  · unfold zipL at hd
    rw [List.getElem?_map] at hd
    obtain ⟨q, hq, rfl⟩ := Option.map_eq_some_iff.mp hd
    rw [List.getElem?_zip_eq_some] at hq
    obtain ⟨v, hv, r⟩ := dra.get hq.1
    obtain ⟨u, hu, r2⟩ := drb.get hq.2
    refine ⟨⟨vs, us, v, u, sqa, sqb, hv, hu⟩, fun y H2 ⟨T, y1, y2, e1, hT, e2, e3, e4⟩ => ?_⟩
    have h3 := e3 vs sqa
    have h4 := e4 us sqb
    rw [hv] at h3
    rw [hu] at h4
    cases h3; cases h4
    subst e1 e2
    exact pair_new so hT r r2
end
end Mi
namespace Mi
open PySem L2 PyProof.Rows
theorem adjust_rev (n : Nat) : Builtin.Slice.sliceAdjust none none (-1) (n : Int) = ((n : Int) - 1, -1) := by
  unfold Builtin.Slice.sliceAdjust
  simp
theorem places_rev (n : Nat) : Builtin.Slice.slicePlaces ((n : Int) - 1) (-1) (-1) = n := by
  unfold Builtin.Slice.slicePlaces
  simp
  try omega
theorem pick_rev (xs : Array Value) : ((List.range xs.size).filterMap fun (m : Nat) => xs[(((xs.size : Int) - 1) + (m : Int) * -1).toNat]?).toArray = xs.toList.reverse.toArray := by
  have gen : ∀ k, k ≤ xs.size → ((List.range k).filterMap fun (m : Nat) => xs[(((xs.size : Int) - 1) + (m : Int) * -1).toNat]?) = xs.toList.reverse.take k := by
    intro k
    induction k with
    | zero => intro _; simp
    | succ k ih =>
      intro hk
      rw [List.range_succ, List.filterMap_append, ih (by omega)]
      have h1 : (((xs.size : Int) - 1) + (k : Int) * -1).toNat = xs.size - 1 - k := by omega
      have h2 : k < xs.toList.reverse.length := by simp; omega
      have h4 : xs.toList.reverse[k]? = xs[xs.size - 1 - k]? := by
        rw [List.getElem?_reverse (by simpa using h2), Array.length_toList, Array.getElem?_toList]
      have h3 : xs.size - 1 - k < xs.size := by omega
      rw [List.take_succ, h4, Array.getElem?_eq_getElem h3]
      simp only [List.filterMap_cons, h1, Array.getElem?_eq_getElem h3, List.filterMap_nil]
      rfl
  rw [gen _ (Nat.le_refl _)]
  congr 1
  rw [List.take_of_length_le (by simp)]
theorem getItem_tuple_rev {prog : Program} {w : World} {A : Around} {E : Value → Shared → Prop} {s : Shared} {t sl : Addr} {items : Array Value} {vl vu vs : Value} {Q : Value → Shared → Prop} (ht : IsTup s.heap t items) (hs : s.heap.IsSliceOf sl vl vu vs) (pl : IsPart vl none) (pu : IsPart vu none) (ps : IsPart vs (some (-1)))
    (h : Q (.ref s.heap.objs.size) { s with heap := s.heap.push { cls := .type "tuple", data := .seq items.toList.reverse.toArray } })
    (hsz : items.size ≤ sizeLine) : wpAny (model prog w) A (getItem (.ref t) (.ref sl)) Q E s := by
  have htake : PySem.sizeOk (.seq items.toList.reverse.toArray) := by
    show items.toList.reverse.toArray.size ≤ sizeLine
    simpa using hsz
  obtain ⟨os, hos, hcs, hds⟩ := id hs
  have hTs : s.TypeIs (.ref sl) "slice" := ⟨os, hos, hcs⟩
  have ap : ∀ {A' : Around} {E' : Value → Shared → Prop} {Q' : Int × Int × Nat → Shared → Prop}, Q' ((items.size : Int) - 1, -1, items.size) s → wpAny (model prog w) A' (Builtin.Slice.sliceApplied (.ref sl) (pure (items.size : Int))) Q' E' s := by
    intro A' E' Q' hq
    unfold Builtin.Slice.sliceApplied Builtin.Slice.sliceFields
    refine wpAny_bind (wpAny_bind (wpAny_field hos hds (x := vl) rfl (wpAny_bind (wpAny_field hos hds (x := vu) rfl (wpAny_bind (wpAny_field hos hds (x := vs) rfl (wpAny_pure ?_)))))))
    refine wpAny_bind (HT.slicePart_ ps ?_)
    show wpAny _ _ (if ((-1 : Int) == 0) = true then _ else _) _ _ s
    rw [if_neg (by decide)]
    refine wpAny_bind (HT.slicePart_ pl (wpAny_bind (HT.slicePart_ pu (wpAny_bind (wpAny_pure ?_)))))
    show wpAny _ _ (match Builtin.Slice.sliceAdjust none none (-1) (items.size : Int) with | (lo, hi) => pure (lo, (-1 : Int), Builtin.Slice.slicePlaces lo hi (-1))) _ _ s
    rw [adjust_rev]
    show wpAny _ _ (pure (((items.size : Int) - 1), (-1 : Int), Builtin.Slice.slicePlaces ((items.size : Int) - 1) (-1) (-1))) _ _ s
    rw [places_rev]
    exact wpAny_pure hq
  unfold getItem
  try with_reducible refine wpAny_holding ?_
  first | refine wpAny_bind (wpAny_pure ?_) | skip
  refine wpAny_bind (wpAny_sequenceKey ht.typeIs (by decide) ?_)
  refine wpAny_bind (wpAny_callSpecial?_slot (name := Str.ofString "__getitem__") ht.typeIs PyProof.Rows.slot_tuple_getitem
    (wpAny_call_entry PyProof.Rows.slot_tuple_getitem ht.typeIs entry_tuple_getitem ?_ (args_tuple_getitem _ _)))
  show wpAny _ _ (Builtin.Tuple.tupleItemsOf (.ref t) >>= _) _ _ s
  refine wpAny_bind (tupleItemsOf_ ht ?_)
  refine wpAny_bind (wpAny_typeOf hTs ?_)
  rw [if_pos (by decide)]
  refine wpAny_bind (ap ?_)
  have hno : ¬ ((((items.size : Int) - 1) == 0 && (-1 : Int) == 1 && items.size == items.size) = true) := by
    rw [show ((-1 : Int) == 1) = false from rfl, Bool.and_false, Bool.false_and]
    exact Bool.false_ne_true
  show wpAny _ _ (if (((items.size : Int) - 1) == 0 && (-1 : Int) == 1 && items.size == items.size) = true then _ else _) _ _ s
  rw [if_neg hno, pick_rev]
  first
    | exact wpAny_bind (m := Builtin.Tuple.tupleExact _) (wpAny_newObj_type (wpAny_pure ⟨_, rfl, wpAny_pure h⟩) htake)
    | exact wpAny_bind (m := Builtin.Tuple.tupleExact _) (wpAny_newObj_type (wpAny_bind (wpAny_pure (wpAny_pure ⟨_, rfl, wpAny_pure h⟩))) htake)
    | exact wpAny_bind (wpAny_bind (m := Builtin.Tuple.tupleExact _) (wpAny_newObj_type (wpAny_pure (wpAny_pure ⟨_, rfl, wpAny_pure h⟩)) htake))
    | exact wpAny_bind (wpAny_bind (m := Builtin.Tuple.tupleExact _) (wpAny_newObj_type (wpAny_pure ⟨_, rfl, wpAny_pure h⟩) htake))
def RU1 (K : PySem.W.Frag) (f : D → Store → R D) : V → Hp → VK → Prop := fun x H Q => ∃ ι S d, Sok K ι H S ∧ DR K ι H d x ∧ Res K ι H (f d S) Q
theorem pe_revD {X : Cx} {e : Expr} {te : TE} {k : Nat} {p1 p2 p3 pos : Pos} (he : PE X e te) : PE X (.Subscript e (.Slice none none (some (.UnaryOp .USub (.Constant (.int 1) k p1) p2)) p3) pos) (tUn (RU1 X.K revD) te) := by
  refine ⟨fun pins s σ H Q I h => ?_⟩
  refine Subscript_ (thn (he.run pins s σ H _ I h) fun v s1 ⟨x, H1, I1, r1, q1⟩ => ?_)
  have hst : PO X (some (.UnaryOp .USub (.Constant (.int 1) k p1) p2)) (tPart (tUn (rU fun i => .int (-i)) (tC (.int 1)))) := po_some (pe_un un_neg pe_int)
  refine wpAny_Slice (thn (po_none.run pins s1 σ H1 (fun o H2 => o = none ∧ H2 = H1) I1 ⟨rfl, rfl⟩) fun vl s2 ⟨l, H2, I2, pl, el, e2⟩ => ?_)
  subst el e2
  refine thn (po_none.run pins s2 σ H2 (fun o H3 => o = none ∧ H3 = H2) I2 ⟨rfl, rfl⟩) fun vu s3 ⟨u, H3, I3, pu, eu, e3⟩ => ?_
  subst eu e3
  refine thn (hst.run pins s3 σ H3 (fun o H4 => o = some (-1) ∧ H4 = H3) I3 ⟨1, rfl, -1, rfl, rfl, rfl⟩) fun vs s4 ⟨o, H4, I4, ps, eo, e4⟩ => ?_
  subst eo e4
  have I5 : Inv X pins σ H4 { s4 with heap := s4.heap.push { cls := .type "slice", data := .fields #[vl, vu, vs] } } := I4.kept (t' := s4.toks) fun b ob q => Heap.get?_push_of_some _ q
  obtain ⟨ι, S, d, so, dr, res⟩ := q1
  show wpAny (model X.prog X.w) X.A (subscriptTail e (.Slice none none (some (.UnaryOp .USub (.Constant (.int 1) k p1) p2)) p3) v (.ref s4.heap.objs.size)) (EP X pins σ Q) X.xe { s4 with heap := s4.heap.push { cls := .type "slice", data := .fields #[vl, vu, vs] } }
  cases d with
  | tup ds =>
    obtain ⟨a, xs, rfl, sq, dr⟩ := dr
    cases r1
    obtain ⟨its, r, ht, hz⟩ := I5.tuple sq.sq
    have hlen := r.length
    refine tail_any (ops := [.ref a, .ref s4.heap.objs.size]) ht.typeIs (PyProof.Rows.slot_tuple_getitem.lookup) ?_ (by with_unfolding_all rfl)
    refine getItem_tuple_rev ht (Heap.IsSliceOf.new _ vl vu vs) pl pu ps ?_ (by rw [List.size_toArray]; omega)
    refine ⟨.ref _, _, I5.laid (t' := s4.toks) (o := .tup xs.reverse) (fun b ob q => Heap.get?_push_of_some _ q) (Nat.le_refl _) ?_, rfl, res.newT so dr.reverse (I5.hok.fresh (Nat.le_refl _))⟩
    exact ⟨by rw [List.length_reverse]; exact hz, _, r.reverse, IsTup.new _ _⟩
  | ref n =>
    simp only [revD] at res
    split at res
    · rename_i ds hl
      obtain ⟨a, xs, ea, sq, dr2⟩ := lstAt_at so hl
      obtain ⟨b, eb, rfl⟩ := dr
      rw [ea] at eb; cases eb
      cases r1
      obtain ⟨its, r, ht, hz⟩ := I5.list sq
      have hlen := r.length
      refine tail_any (ops := [.ref a, .ref s4.heap.objs.size]) ht.isList.typeIs (PySem.slot_list_getitem.lookup) ?_ (by with_unfolding_all rfl)
      refine wpAny_getItem_list_slice ht.isList (Heap.IsSliceOf.new _ vl vu vs) pl pu ps (by decide) ?_ (by rw [List.size_toArray]; omega)
      rw [PySem.W.krv_pick]
      refine ⟨.ref _, _, I5.laid (t' := s4.toks) (o := .lst xs.reverse) (fun b ob q => Heap.get?_push_of_some _ q) (Nat.le_refl _) ?_, rfl, res.newL so dr2.reverse (I5.hok.fresh (Nat.le_refl _))⟩
      exact ⟨by rw [List.length_reverse]; exact hz, _, 0, r.reverse, Heap.get?_push_size _ rfl⟩
    · exact res.elim
  | _ => exact res.elim
end Mi
namespace Mi
open PySem L2
structure Nm where
  fn : Str → Option Nat
  ct : Str → Option Nat
  bl : List Str
  /-- classes that are raised, defs that may raise; of classes asked: those raised ones that are such -/
  xs : List Str
  rx : List Str
  yes : List Str → Option (List Str)
  /-- classes that catch all of xs -/
  cat : List Str
  /-- classes that keep one field -/
  fx : List (Str × Str)
/-- all classes whose exceptions are held -/
abbrev Nm.held (nm : Nm) : List Str := nm.xs ++ nm.fx.map (·.1)
def biName : Bi → Str
  | .len => "len" | .isi => "isinstance" | .abs => "abs" | .min => "min" | .max => "max" | .sum => "sum" | .all => "all" | .any => "any"
  | .list => "list" | .tuple => "tuple" | .str => "str" | .int => "int" | .repr => "repr" | .sorted => "sorted" | .dict => "dict" | .bool => "bool"
def allBi : List Bi := [.len, .isi, .abs, .min, .max, .sum, .all, .any, .list, .tuple, .str, .int, .repr, .sorted, .dict, .bool]
def biOf (x : Str) : Option Bi := allBi.find? fun f => decide (biName f = x)
theorem biOf_eq {x : Str} {f : Bi} (h : biOf x = some f) : x = biName f := by
  have := List.find?_some h
  exact (of_decide_eq_true this).symm
theorem bi_boot : ∀ f, bootBuiltins (biName f) = some (biV f) := by
  intro f; cases f <;> decide +kernel
theorem bi_name : ∀ f, biName f ≠ "__name__" ∧ (biName f == ("__debug__" : Str)) = false := by
  intro f; cases f <;> decide +kernel
def tyB (x : Str) : Option String :=
  if x = "int" then some "int" else if x = "str" then some "str" else if x = "bool" then some "bool" else if x = "tuple" then some "tuple" else if x = "list" then some "list" else if x = "dict" then some "dict" else none
theorem tyB_boot {x : Str} {t : String} (h : tyB x = some t) : bootBuiltins x = some (.type t) ∧ x ≠ "__name__" ∧ (x == ("__debug__" : Str)) = false := by
  unfold tyB at h
  split at h
  · cases h; subst x; decide +kernel
  · split at h
    · cases h; subst x; decide +kernel
    · split at h
      · cases h; subst x; decide +kernel
      · split at h
        · cases h; subst x; decide +kernel
        · split at h
          · cases h; subst x; decide +kernel
          · split at h
            · cases h; subst x; decide +kernel
            · cases h
def allMt : List Mt := [.append, .pop, .insert, .extend, .join, .upper, .get]
def mtOf (x : Str) : Option Mt := allMt.find? fun f => decide (mtName f = x)
theorem mtOf_eq {x : Str} {f : Mt} (h : mtOf x = some f) : x = mtName f ∧ mtHas f = true := by
  have h1 := List.find?_some h
  refine ⟨(of_decide_eq_true h1).symm, ?_⟩
  have := List.mem_of_find?_eq_some h
  simp only [allMt, List.mem_cons, List.not_mem_nil, or_false] at this
  rcases this with rfl | rfl | rfl | rfl | rfl | rfl | rfl <;> rfl
def notStar2 : Expr → Bool
  | .Starred _ _ => false
  | _ => true
def caOf : List CE → CA
  | [] => .nil
  | c :: r => .cons c (caOf r)
def andL : List CE → CE
  | [] => .cst (.bl true)
  | [a] => a
  | a :: r => .and a (andL r)
def orL : List CE → CE
  | [] => .cst (.bl false)
  | [a] => a
  | a :: r => .or a (orL r)
def notSuper : Expr → Bool
  | .Call (.Name id _) [] [] _ => decide (id ≠ "super")
  | _ => true
def ownOf (N : List Str) (scope : Scope) : List (Str × Nat) := scope.names.filterMap fun y => match y.2 with
  | .local => (ixOf N y.1).map fun i => (y.1, i)
  | .cell => (ixOf N y.1).map fun i => (y.1, i)
  | _ => none
def isG (sc : Scope) (x : Str) : Bool := match sc.names.lookup x with
  | some .globalImplicit => true
  | _ => false
def cells (scope : Scope) (x : Str) : Bool := scope.names.lookup x == some .cell
def subL (is vs : List Nat) : Bool := is.all fun i => decide (i ∈ vs)
section
variable (nm : Nm) (N : List Str)
def erName (sc : Scope) (x : Str) : Option CE := match sc.names.lookup x with
  | some .local => if x = "__debug__" ∨ x = "__classdict__" then none else (ixOf N x).map .loc
  | some .cell => if x = "__debug__" ∨ x = "__classdict__" then none else (ixOf N x).map .loc
  | some .free => if x = "__debug__" ∨ x = "__classdict__" then none else (ixOf N x).map .loc
  | some .globalImplicit => match nm.ct x with
    | some i => some (.glb i)
    | none => match tyB x with
      | some t => if x ∈ nm.bl then some (.cst (.sta (.ty t))) else none
      | none => none
  | _ => none
def pairUp : List (Option Expr) → List Expr → Option (List Expr)
  | [], [] => some []
  | some k :: ks, v :: vs => (pairUp ks vs).map fun r => k :: v :: r
  | _, _ => none
end
def erC (c : Const) : Option CE := match c with
  | .int i => some (.cst (.int i))
  | .bool b => some (.cst (.bl b))
  | .none => some (.cst .non)
  | .str x => some (.cst (.str x))
  | _ => none
section
variable (er : Expr → Option CE)
def erAll (es : List Expr) : Option (List CE) := allSome (es.map er)
def erUn (op : UnaryOp) (a : Expr) : Option CE := match op with
  | .USub => (er a).map .neg
  | .Not => (er a).map .not
  | _ => none
def erBo (op : BoolOp) (es : List Expr) : Option CE := if es.isEmpty then none else match op with
  | .And => (erAll er es).map andL
  | .Or => (erAll er es).map orL
def erCmp (a : Expr) (ops : List CmpOp) (bs : List Expr) : Option CE := match ops, bs with
  | [op], [b] => if behindInMarks op b then none else (er a).bind fun a => (er b).map fun b => .cmp op a b
  | [p, q], [b, c] => if lastMarks [p, q] [b, c] then none else (er a).bind fun a => (er b).bind fun b => (er c).map fun c => .chn p q a b c
  | _, _ => none
def isRev (st : Expr) : Bool := match st with
  | .UnaryOp .USub (.Constant (.int i) _ _) _ => decide (i = 1)
  | _ => false
def erOpt (o : Option Expr) : Option (Bool × CE) := match o with
  | none => some (false, .cst .non)
  | some e => (er e).map fun c => (true, c)
def erSub (e i : Expr) : Option CE := match i with
  | .Slice lo hi st _ => match st with
    | none => (er e).bind fun e => (erOpt er lo).bind fun l => (erOpt er hi).map fun h => .slc e l.1 l.2 h.1 h.2
    | some st => if isRev st = true ∧ lo.isNone = true ∧ hi.isNone = true then (er e).map .rev else none
  | i => (er e).bind fun e => (er i).map fun i => .idx e i
def erCall (nm : Nm) (sc : Scope) (f : Expr) (es : List Expr) (kws : List Keyword) (cpos : Pos) : Option CE := if kws.isEmpty then (match f with
  | .Name x _ => if isG sc x = true then (match nm.fn x with
      | some i => (erAll er es).map fun cs => .call i (caOf cs)
      | none => match biOf x with
        | some f => if x ∈ nm.bl ∧ es.isEmpty = false then (erAll er es).map fun cs => .bi f (caOf cs) else none
        | none => none) else none
  | .Attribute o m apos => match mtOf m with
    | some f => if notSuper o = true ∧ (apos.endLine == cpos.line) = true ∧ es.length < 30 then (er o).bind fun o => (erAll er es).map fun cs => .mth f o (caOf cs) else none
    | none => none
  | _ => none) else none
def clsName (sc : Scope) : Expr → Option Str
  | .Name y _ => if isG sc y = true then some y else none
  | _ => none
def clsNames (sc : Scope) : Expr → Option (List Str)
  | .Tuple es _ _ => allSome (es.map (clsName sc))
  | e => (clsName sc e).map fun y => [y]
/-- isinstance of a kept exception -/
def erIsx (nm : Nm) (sc : Scope) (f : Expr) (es : List Expr) (kws : List Keyword) : Option (Expr × List (Str × Bool)) := match f, es with
  | .Name x _, [e, c] => if x = "isinstance" ∧ isG sc x = true ∧ x ∈ nm.bl ∧ kws.isEmpty = true ∧ notStar2 e = true then (clsNames sc c).bind fun ys => (nm.yes ys).map fun yes => (e, nm.held.map fun x => (x, yes.contains x)) else none
  | _, _ => none
/-- a refusal that is made as a value -/
def erMk (nm : Nm) (sc : Scope) (f : Expr) (es : List Expr) (kws : List Keyword) : Option (Str ⊕ (Str × Str × Expr)) := match f, es with
  | .Name x _, [] => if isG sc x = true ∧ x ∈ nm.xs ∧ kws.isEmpty = true then some (.inl x) else none
  | .Name x _, [e] => if isG sc x = true ∧ kws.isEmpty = true ∧ notStar2 e = true then (nm.fx.lookup x).map fun f => .inr (x, f, e) else none
  | _, _ => none
def notSet : Expr → Bool
  | .Set _ _ _ => false
  | _ => true
def erVal (it : Expr) : Option CI := if notSet it = true then (er it).map .val else none
def isTup : Expr → Bool
  | .Tuple _ _ _ => true
  | _ => false
/-- what is walked -/
def erI (nm : Nm) (sc : Scope) (tg : Expr) (it : Expr) : Option CI := match it with
  | .Call (.Name x _) es kws _ => if isG sc x = true ∧ x ∈ nm.bl ∧ kws.isEmpty = true then
      (if x = "range" then (match es with
        | [a] => (er a).map fun a => .rng (caOf [a])
        | [a, b] => (er a).bind fun a => (er b).map fun b => .rng (caOf [a, b])
        | _ => none)
      else if x = "enumerate" then (match es with
        | [a] => if isTup tg = true then (er a).map .enu else none
        | _ => none)
      else if x = "zip" then (match es with
        | [a, b] => if isTup tg = true then (er a).bind fun a => (er b).map fun b => .zip a b else none
        | _ => none)
      else erVal er it) else erVal er it
  | _ => erVal er it
end
def erIf (er : Expr → Option CE) (ifs : List Expr) : Option CE := match ifs with
  | [] => some (.cst (.bl true))
  | [c] => er c
  | _ => none
def erLc (nm : Nm) (N : List Str) (er : Scope → Expr → Option CE) (n : Nat) (sc : Scope) (elt : Expr) (gs : List Comprehension) (scope : Scope) : Option CE := match gs with
  | [⟨tg, it, ifs, k⟩] => if k = 0 ∧ blkC N sc scope (ownOf N scope) = true then
      (erT N (relS scope sc) (cells scope) n tg).bind fun t => (erI (er sc) nm sc tg it).bind fun i =>
        if subL t.ixs ((ownOf N scope).map (·.2)) = true then
          (erIf (er (relS scope sc)) ifs).bind fun c => (er (relS scope sc) elt).map fun e => .lc ((ownOf N scope).map (·.2)) t i c e
        else none
      else none
  | _ => none
def erDc (nm : Nm) (N : List Str) (er : Scope → Expr → Option CE) (n : Nat) (sc : Scope) (kx vx : Expr) (gs : List Comprehension) (scope : Scope) : Option CE :=
  (erLc nm N er n sc kx gs scope).bind fun a => (erLc nm N er n sc vx gs scope).bind fun b => match a, b with
    | .lc vs t i c ck, .lc _ _ _ _ cv => some (.dc vs t i c ck cv)
    | _, _ => none
def erE (nm : Nm) (N : List Str) : Nat → Scope → Expr → Option CE
  | 0, _, _ => none
  | n + 1, sc, e => match e with
    | .Constant c _ _ => erC c
    | .Name x _ => erName nm N sc x
    | .BinOp a op b _ => (erE nm N n sc a).bind fun a => (erE nm N n sc b).map fun b => .bin op a b
    | .UnaryOp op a _ => erUn (erE nm N n sc) op a
    | .BoolOp op es _ => erBo (erE nm N n sc) op es
    | .Compare a ops bs _ => erCmp (erE nm N n sc) a ops bs
    | .IfExp c a b _ => (erE nm N n sc c).bind fun c => (erE nm N n sc a).bind fun a => (erE nm N n sc b).map fun b => .ite c a b
    | .Tuple es _ _ => (erAll (erE nm N n sc) es).map fun cs => .tup (caOf cs)
    | .List es _ => (erAll (erE nm N n sc) es).map fun cs => .lst (caOf cs)
    | .Dict ks vs _ => if ks.length ≤ 15 then (pairUp ks vs).bind fun es => (erAll (erE nm N n sc) es).map fun cs => .dct (caOf cs) else none
    | .Subscript e i _ => erSub (erE nm N n sc) e i
    | .Call f es kws cpos => match erIsx nm sc f es kws with
      | some (e, tab) => (erE nm N n sc e).map fun c => .isx c tab
      | none => match erMk nm sc f es kws with
        | some (.inl x) => some (.mkx x)
        | some (.inr (x, f, e)) => (erE nm N n sc e).map fun c => .mkf x f c
        | none => erCall (erE nm N n sc) nm sc f es kws cpos
    | .Attribute e f _ => if notSuper e = true then (erE nm N n sc e).map fun c => .fld c f else none
    | .ListComp elt gs scope _ => erLc nm N (erE nm N n) n sc elt gs scope
    | .DictComp kx vx gs scope _ => erDc nm N (erE nm N n) n sc kx vx gs scope
    | _ => none
/-- a class that is raised -/
structure XcF (X : Cx) (x : Str) : Prop where
  ex : ∃ (C : Addr) (bmB : List Value) (B newId initId : String), X.mg x = some (.ref C) ∧ ClsN X.K x C ∧ PySem.W.keepIn X.K (.ref C) = true ∧ ExcBaseFacts B newId initId bmB ∧ PySem.W.excIn X.K C bmB newId = true ∧ L2.Raises X (.ref C) ∧ ExcC X.K C ∧ (x == ("__debug__" : Str)) = false
/-- a class by its name -/
def ClsV2 (X : Cx) (y : Str) (u : Value) : Prop := (y == ("__debug__" : Str)) = false ∧ ((X.mg y = some u ∧ ∃ C, u = .ref C) ∨ (X.mg y = none ∧ bootBuiltins y = some u ∧ y ≠ "__name__" ∧ ∃ t, u = .type t))
structure IsxF (X : Cx) (xs ys yes : List Str) : Prop where
  ex : ∃ us : List Value, us.length ≤ 1000 ∧ Paired (ClsV2 X) ys us ∧ ∀ x ∈ xs, ∀ C, ClsN X.K x C → PySem.W.kitAny X.K (.ref C) us = some (yes.contains x)
/-- a class that catches all that is raised -/
structure CatF (X : Cx) (xs : List Str) (c : Str) : Prop where
  ex : ∃ u, ClsV2 X c u ∧ ∀ x ∈ xs, ∀ C, ClsN X.K x C → PySem.W.exmOne X.K (.ref C) u = some true
/-- a class that keeps a field -/
structure FxF (X : Cx) (x f : Str) : Prop where
  ex : ∃ (C fI : Addr) (fd : FuncData) (pS pV : Str), X.mg x = some (.ref C) ∧ ClsN X.K x C ∧ FxC X.K C f ∧ PySem.W.findIn X.K (.ref C) "__init__" = some (some (.ref fI)) ∧ PySem.W.typeIn X.K (.ref fI) = some (.type "function") ∧ FnOk X.prog X.w X.K X.mg X.base (L2.CX X.prog X.w) 1 fI fd [pS, pV] (spI X.K f) ∧ Binds X.K fd [pS, pV] [] ∧ (x == ("__debug__" : Str)) = false
structure Gd (nm : Nm) (N : List Str) (G : Gv) (k : Nat) (X : Cx) : Prop where
  cg : Cg X
  n : X.N = N
  nd : N.Nodup
  room : Room (k + 2) X.A
  fns : ∀ x i, nm.fn x = some i → FnAt X k x (G.fn i) ∧ (x == ("__debug__" : Str)) = false
  cts : ∀ x i d, nm.ct x = some i → G.ct i = some d → ∃ u v, X.mg x = some u ∧ RelV v u ∧ (∀ ι H, DR X.K ι H d v) ∧ (x == ("__debug__" : Str)) = false
  bls : ∀ x, x ∈ nm.bl → X.mg x = none
  xs : ∀ x, x ∈ nm.xs → XcF X x
  ix : ∀ ys yes, nm.yes ys = some yes → IsxF X nm.held ys yes
  cat : ∀ c, c ∈ nm.cat → CatF X nm.xs c
  fx : ∀ p, p ∈ nm.fx → FxF X p.1 p.2
theorem Gd.tr {nm : Nm} {N : List Str} {G : Gv} {k : Nat} {X : Cx} (g : Gd nm N G k X) (pn : List (Addr × Obj)) (xe : Value → Shared → Prop) : Gd nm N G k (X.tr pn xe) where
  cg := ⟨g.cg.calm, g.cg.un, g.cg.gu, g.cg.sm⟩
  n := g.n
  nd := g.nd
  room := g.room
  fns := fun x i h => ⟨⟨(g.fns x i h).1.ex⟩, (g.fns x i h).2⟩
  cts := g.cts
  bls := g.bls
  xs := fun x h => ⟨(g.xs x h).ex⟩
  ix := fun ys yes h => ⟨(g.ix ys yes h).ex⟩
  cat := fun c h => ⟨(g.cat c h).ex⟩
  fx := fun p h => ⟨(g.fx p h).ex⟩
theorem Gd.blk {nm : Nm} {N : List Str} {G : Gv} {k : Nat} {X : Cx} (g : Gd nm N G k X) (s : Shared) (H : Hp) (scope : Scope) (cenv : Env) (fp : List Addr) : Gd nm N G k (X.blk s H scope cenv fp) where
  cg := ⟨g.cg.calm, g.cg.un, g.cg.gu, g.cg.sm⟩
  n := g.n
  nd := g.nd
  room := g.room
  fns := fun x i h => ⟨⟨(g.fns x i h).1.ex⟩, (g.fns x i h).2⟩
  cts := g.cts
  bls := g.bls
  xs := fun x h => ⟨(g.xs x h).ex⟩
  ix := fun ys yes h => ⟨(g.ix ys yes h).ex⟩
  cat := fun c h => ⟨(g.cat c h).ex⟩
  fx := fun p h => ⟨(g.fx p h).ex⟩
def notStar : Expr → Bool
  | .Starred _ _ => false
  | _ => true
theorem star_map : ∀ {es : List Expr} (env : Env), es.all notStar = true → starEach es env = es.map fun e => (false, eval e env)
  | [], env, _ => rfl
  | e :: es, env, h => by
    rw [List.all_cons, Bool.and_eq_true] at h
    have ih := star_map env h.2
    cases e with
    | Starred _ _ => exact absurd h.1 Bool.false_ne_true
    | _ => rw [List.map_cons, ← ih] <;> rfl
theorem star_cons {e : Expr} {es : List Expr} (env : Env) (h : (e :: es).all notStar = true) : starEach (e :: es) env = (false, eval e env) :: starEach es env := by
  rw [star_map env h, star_map env (by rw [List.all_cons, Bool.and_eq_true] at h; exact h.2)] <;> rfl
theorem star_plain {es : List Expr} (env : Env) (pos : Pos) (h : es.all notStar = true) : (backTo pos (starEach es env)).any (·.1) = false := by
  rw [star_map env h]
  simp [backTo]
theorem star_all {es : List Expr} (env : Env) (pos : Pos) (h : es.all notStar = true) : (backTo pos (starEach es env)).all (fun x => !x.1) = true := by
  rw [star_map env h]
  simp [backTo]
theorem base_of {o : Expr} {name : Str} {env : Env} {whole : Sem Value} (h : notSuper o = true) : attributeBase o name env whole = whole := by
  unfold attributeBase
  split
  · rename_i id _ _
    have : id ≠ "super" := of_decide_eq_true h
    simp [this, bne]
  · rfl
section
variable {nm : Nm} {N : List Str} {G : Gv} {k : Nat} {X : Cx}
theorem erE_star {n : Nat} {sc : Scope} {e : Expr} {c : CE} (h : erE nm N n sc e = some c) : notStar e = true := by
  cases n with
  | zero => cases h
  | succ n => cases e with
    | Starred _ _ => cases h
    | _ => rfl
theorem all_star {n : Nat} {sc : Scope} : ∀ {es : List Expr} {cs : List CE}, erAll (erE nm N n sc) es = some cs → es.all notStar = true
  | [], _, _ => rfl
  | e :: es, cs, h => by
    unfold erAll at h
    rw [List.map_cons] at h
    obtain ⟨t, ts', h1, h2, rfl⟩ := allSome_cons h
    rw [List.all_cons, erE_star h1, all_star (show erAll (erE nm N n sc) es = some ts' from h2)] <;> rfl
/-- an expression's two readings -/
structure EP2 (X : Cx) (G : Gv) (e : Expr) (c : CE) : Prop where
  pe : PE X e (TEc G X.K c)
  pt : PT X e (TTc G X.K c)
theorem EP2.of {e : Expr} {c : CE} (h : PE X e (TEc G X.K c)) (he : ∀ whole, isTrue e X.env whole = (do let v ← whole; standAt e.pos; holding [v] (truthy v))) : EP2 X G e c := by
  refine ⟨h, (pt_val h he).imp fun σ H Q q => ?_⟩
  obtain ⟨ι, S, L, so, lo, res⟩ := q
  exact ⟨ι, S, L, so, lo, res⟩
theorem pa_of : ∀ {es : List Expr} {cs : List CE} {er : Expr → Option CE}, erAll er es = some cs → es.all notStar = true → (∀ e c, er e = some c → EP2 X G e c) → PA X es (TAc G X.K (caOf cs))
  | [], cs, er, h, _, _ => by
    cases h
    exact pa_nil.imp fun σ H Q q => by
      obtain ⟨ι, S, L, so, lo, res⟩ := q
      exact res ι H [] (List.prefix_refl ι) (Xt.refl H) so rfl
  | e :: es, cs, er, h, hs, hp => by
    unfold erAll at h
    rw [List.map_cons] at h
    obtain ⟨t, ts', h1, h2, rfl⟩ := allSome_cons h
    refine (pa_cons (hp e t h1).pe (pa_of (show erAll er es = some ts' from h2) (by rw [List.all_cons, Bool.and_eq_true] at hs; exact hs.2) hp) (star_cons X.env hs)).imp fun σ H Q q => ?_
    obtain ⟨ι, S, L, so, lo, res⟩ := q
    obtain ⟨d, S1, e1, res⟩ := ResA.step res
    refine TEc.of so lo e1 fun ι1 H1 v p1 x1 so1 r1 => ?_
    obtain ⟨ds, S2, e2, res⟩ := ResA.step (res.mono p1 x1)
    refine TAc.of so1 (lo.mono p1 x1) e2 fun ι2 H2 vs p2 x2 so2 r2 => ?_
    exact res ι2 H2 (v :: vs) p2 x2 so2 ⟨v, vs, rfl, r1.mono p2 x2 _, r2⟩
/-- two values in a row -/
theorem two {ca cb : CE} {f : D → D → Store → R D} {ι : List Addr} {S : Store} {L : Lcs} {σ : St} {H : Hp} {Q : VK} (so : Sok X.K ι H S) (lo : Lok X.K ι H L σ)
    (res : Res X.K ι H ((evE G ca L S).bind fun x S1 => (evE G cb L S1).bind fun y S2 => f x y S2) Q) : tOp (RO X.K f) (TEc G X.K ca) (TEc G X.K cb) σ H Q := by
  obtain ⟨d, S1, e1, res⟩ := Res.step res
  refine TEc.of so lo e1 fun ι1 H1 v p1 x1 so1 r1 => ?_
  obtain ⟨d2, S2, e2, res⟩ := Res.step (res.mono p1 x1)
  refine TEc.of so1 (lo.mono p1 x1) e2 fun ι2 H2 v2 p2 x2 so2 r2 => ?_
  exact ⟨ι2, S2, d, d2, so2, r1.mono p2 x2 _, r2, res.mono p2 x2⟩
end
end Mi
namespace Mi
open PySem L2
section
variable {nm : Nm} {N : List Str} {G : Gv} {k : Nat} {X : Cx}
theorem ep_cst {e : Expr} {d : D} {v : V} (h : PE X e (tC v)) (r : ∀ ι H, DR X.K ι H d v) (he : ∀ whole, isTrue e X.env whole = (do let v ← whole; standAt e.pos; holding [v] (truthy v))) : EP2 X G e (.cst d) :=
  .of (h.imp fun σ H Q q => by
    obtain ⟨ι, S, L, so, lo, res⟩ := q
    exact res ι H v (List.prefix_refl ι) (Xt.refl H) so (r ι H)) he
theorem ep_bin {a b : Expr} {ca cb : CE} {op : Operator} {pos : Pos} (ha : EP2 X G a ca) (hb : EP2 X G b cb) : EP2 X G (.BinOp a op b pos) (.bin op ca cb) :=
  .of ((pe_op (op_bin op) ha.pe hb.pe).imp fun σ H Q ⟨ι, S, L, so, lo, res⟩ => two so lo res) fun _ => rfl
theorem ep_neg {a : Expr} {ca : CE} {pos : Pos} (ha : EP2 X G a ca) : EP2 X G (.UnaryOp .USub a pos) (.neg ca) :=
  .of ((pe_un un_negD ha.pe).imp fun σ H Q ⟨ι, S, L, so, lo, res⟩ => by
    obtain ⟨d, S1, e1, res⟩ := Res.step res
    refine TEc.of so lo e1 fun ι1 H1 v p1 x1 so1 r1 => ?_
    exact ⟨ι1, S1, d, so1, r1, res.mono p1 x1⟩) fun _ => rfl
theorem ep_not {a : Expr} {ca : CE} {pos : Pos} (ha : EP2 X G a ca) : EP2 X G (.UnaryOp .Not a pos) (.not ca) := by
  refine ⟨(pe_not ha.pe).imp fun σ H Q ⟨ι, S, L, so, lo, res⟩ => ?_, (pt_not ha.pt).imp fun σ H Q ⟨ι, S, L, so, lo, res⟩ => ?_⟩
  · obtain ⟨d, S1, e1, res⟩ := Res.step res
    obtain ⟨b, rfl, res⟩ := ifB_res res
    refine TEc.of so lo e1 fun ι1 H1 v p1 x1 so1 r1 => ⟨b, r1, ?_⟩
    have res := res.mono p1 x1
    cases b
    · exact res.val so1 (show DR X.K ι1 H1 (.bl true) (.bl true) from rfl)
    · exact res.val so1 (show DR X.K ι1 H1 (.bl false) (.bl false) from rfl)
  · obtain ⟨d, S1, e1, res⟩ := Res.step res
    obtain ⟨b, rfl, res⟩ := ifB_res res
    refine TTc.of so lo e1 fun ι1 H1 p1 x1 so1 => ?_
    have res := res.mono p1 x1
    cases b
    · obtain ⟨c, ec, q⟩ := res.val so1 (show DR X.K ι1 H1 (.bl true) (.bl true) from rfl)
      cases ec; exact q
    · obtain ⟨c, ec, q⟩ := res.val so1 (show DR X.K ι1 H1 (.bl false) (.bl false) from rfl)
      cases ec; exact q
theorem boolTail {b : CE} {ι : List Addr} {H : Hp} {S : Store} {L : Lcs} {Q : VK} (res : Res X.K ι H ((evE G b L S).bind fun y S2 => ifB y (.ok (.bl true) S2) (.ok (.bl false) S2)) Q) : Res X.K ι H (evE G b L S) Q := by
  obtain ⟨d, S1, e1, res⟩ := Res.step res
  obtain ⟨c, rfl, res⟩ := ifB_res res
  rw [e1]
  cases c <;> exact res
theorem ep_and1 {a : Expr} {ca : CE} {pos : Pos} (ha : EP2 X G a ca) : EP2 X G (.BoolOp .And [a] pos) ca ∧ PW X (.BoolOp .And [a] pos) (TTc G X.K ca) := ⟨⟨pe_one ha.pe, (pw_and1 ha.pt).pt⟩, pw_and1 ha.pt⟩
theorem ep_or1 {a : Expr} {ca : CE} {pos : Pos} (ha : EP2 X G a ca) : EP2 X G (.BoolOp .Or [a] pos) ca ∧ PW X (.BoolOp .Or [a] pos) (TTc G X.K ca) := ⟨⟨pe_one ha.pe, (pw_or1 ha.pt).pt⟩, pw_or1 ha.pt⟩
theorem ep_and2 {a b : Expr} {rest : List Expr} {ca cb : CE} {pos : Pos} (ha : EP2 X G a ca) (hb : EP2 X G (.BoolOp .And (b :: rest) pos) cb) (hw : PW X (.BoolOp .And (b :: rest) pos) (TTc G X.K cb)) :
    EP2 X G (.BoolOp .And (a :: b :: rest) pos) (.and ca cb) ∧ PW X (.BoolOp .And (a :: b :: rest) pos) (TTc G X.K (.and ca cb)) := by
  have pw : PW X (.BoolOp .And (a :: b :: rest) pos) (TTc G X.K (.and ca cb)) := (pw_and ha.pt hw).imp fun σ H Q ⟨ι, S, L, so, lo, res⟩ => by
    obtain ⟨d, S1, e1, res⟩ := Res.step res
    obtain ⟨c, rfl, res⟩ := ifB_res res
    refine TTc.of so lo e1 fun ι1 H1 p1 x1 so1 => ?_
    have res := res.mono p1 x1
    cases c
    · obtain ⟨c, ec, q⟩ := res.val so1 (show DR X.K ι1 H1 (.bl false) (.bl false) from rfl)
      cases ec; exact q
    · exact ⟨ι1, S1, L, so1, lo.mono p1 x1, boolTail res⟩
  refine ⟨⟨(pe_and ha.pe hb.pe).imp fun σ H Q ⟨ι, S, L, so, lo, res⟩ => ?_, pw.pt⟩, pw⟩
  obtain ⟨d, S1, e1, res⟩ := Res.step res
  obtain ⟨c, rfl, res⟩ := ifB_res res
  refine TEc.of so lo e1 fun ι1 H1 v p1 x1 so1 r1 => ⟨c, r1, ?_⟩
  have res := res.mono p1 x1
  cases c
  · exact res.val so1 (show DR X.K ι1 H1 (.bl false) (.bl false) from rfl)
  · exact ⟨ι1, S1, L, so1, lo.mono p1 x1, boolTail res⟩
theorem ep_or2 {a b : Expr} {rest : List Expr} {ca cb : CE} {pos : Pos} (ha : EP2 X G a ca) (hb : EP2 X G (.BoolOp .Or (b :: rest) pos) cb) (hw : PW X (.BoolOp .Or (b :: rest) pos) (TTc G X.K cb)) :
    EP2 X G (.BoolOp .Or (a :: b :: rest) pos) (.or ca cb) ∧ PW X (.BoolOp .Or (a :: b :: rest) pos) (TTc G X.K (.or ca cb)) := by
  have pw : PW X (.BoolOp .Or (a :: b :: rest) pos) (TTc G X.K (.or ca cb)) := (pw_or ha.pt hw).imp fun σ H Q ⟨ι, S, L, so, lo, res⟩ => by
    obtain ⟨d, S1, e1, res⟩ := Res.step res
    obtain ⟨c, rfl, res⟩ := ifB_res res
    refine TTc.of so lo e1 fun ι1 H1 p1 x1 so1 => ?_
    have res := res.mono p1 x1
    cases c
    · exact ⟨ι1, S1, L, so1, lo.mono p1 x1, boolTail res⟩
    · obtain ⟨c, ec, q⟩ := res.val so1 (show DR X.K ι1 H1 (.bl true) (.bl true) from rfl)
      cases ec; exact q
  refine ⟨⟨(pe_or ha.pe hb.pe).imp fun σ H Q ⟨ι, S, L, so, lo, res⟩ => ?_, pw.pt⟩, pw⟩
  obtain ⟨d, S1, e1, res⟩ := Res.step res
  obtain ⟨c, rfl, res⟩ := ifB_res res
  refine TEc.of so lo e1 fun ι1 H1 v p1 x1 so1 r1 => ⟨c, r1, ?_⟩
  have res := res.mono p1 x1
  cases c
  · exact ⟨ι1, S1, L, so1, lo.mono p1 x1, boolTail res⟩
  · exact res.val so1 (show DR X.K ι1 H1 (.bl true) (.bl true) from rfl)
theorem ep_andL {pos : Pos} {er : Expr → Option CE} (hp : ∀ e c, er e = some c → EP2 X G e c) : ∀ {es : List Expr} {cs : List CE}, es ≠ [] → erAll er es = some cs → EP2 X G (.BoolOp .And es pos) (andL cs) ∧ PW X (.BoolOp .And es pos) (TTc G X.K (andL cs))
  | [], _, h, _ => absurd rfl h
  | [a], cs, _, h => by
    unfold erAll at h
    rw [List.map_cons] at h
    obtain ⟨t, ts, h1, h2, rfl⟩ := allSome_cons h
    cases h2
    exact ep_and1 (hp a t h1)
  | a :: b :: rest, cs, _, h => by
    unfold erAll at h
    rw [List.map_cons] at h
    obtain ⟨t, ts, h1, h2, rfl⟩ := allSome_cons h
    obtain ⟨i1, i2⟩ := ep_andL hp (es := b :: rest) (cs := ts) (by simp) h2
    rw [List.map_cons] at h2
    obtain ⟨t2, ts2, _, _, rfl⟩ := allSome_cons h2
    exact ep_and2 (hp a t h1) i1 i2
theorem ep_orL {pos : Pos} {er : Expr → Option CE} (hp : ∀ e c, er e = some c → EP2 X G e c) : ∀ {es : List Expr} {cs : List CE}, es ≠ [] → erAll er es = some cs → EP2 X G (.BoolOp .Or es pos) (orL cs) ∧ PW X (.BoolOp .Or es pos) (TTc G X.K (orL cs))
  | [], _, h, _ => absurd rfl h
  | [a], cs, _, h => by
    unfold erAll at h
    rw [List.map_cons] at h
    obtain ⟨t, ts, h1, h2, rfl⟩ := allSome_cons h
    cases h2
    exact ep_or1 (hp a t h1)
  | a :: b :: rest, cs, _, h => by
    unfold erAll at h
    rw [List.map_cons] at h
    obtain ⟨t, ts, h1, h2, rfl⟩ := allSome_cons h
    obtain ⟨i1, i2⟩ := ep_orL hp (es := b :: rest) (cs := ts) (by simp) h2
    rw [List.map_cons] at h2
    obtain ⟨t2, ts2, _, _, rfl⟩ := allSome_cons h2
    exact ep_or2 (hp a t h1) i1 i2
theorem ep_cmp {a b : Expr} {ca cb : CE} {op : CmpOp} {pos : Pos} (c : Cg X) (ha : EP2 X G a ca) (hb : EP2 X G b cb) (hm : behindInMarks op b = false) : EP2 X G (.Compare a [op] [b] pos) (.cmp op ca cb) :=
  ⟨(pe_cmpR (op_cmp c op) ha.pe hb.pe hm).imp fun σ H Q ⟨ι, S, L, so, lo, res⟩ => two so lo (Res.ungc so res),
   (pt_cmpR (op_cmp c op) ha.pe hb.pe hm).imp fun σ H Q ⟨ι, S, L, so, lo, res⟩ => two so lo (Res.ungc so res)⟩
theorem chain_go {ca cb cc : CE} {p q : CmpOp} {σ : St} {H : Hp} {Q : VK} (h : TEc G X.K (.chn p q ca cb cc) σ H Q) :
    tChain (RO X.K (cmpD p)) (RO X.K (cmpD q)) (TEc G X.K ca) (TEc G X.K cb) (TEc G X.K cc) σ H Q := by
  obtain ⟨ι, S, L, so, lo, res⟩ := h
  obtain ⟨d, S1, e1, res⟩ := Res.step (Res.ungc so res)
  refine TEc.of so lo e1 fun ι1 H1 v p1 x1 so1 r1 => ?_
  obtain ⟨d2, S2, e2, res⟩ := Res.step (res.mono p1 x1)
  have lo1 := lo.mono p1 x1
  refine TEc.of so1 lo1 e2 fun ι2 H2 v2 p2 x2 so2 r2 => ?_
  obtain ⟨z, S3, e3, res⟩ := Res.step (res.mono p2 x2)
  refine ⟨ι2, S2, d, d2, so2, r1.mono p2 x2 _, r2, ?_⟩
  rw [e3]
  obtain ⟨b, rfl, res⟩ := ifB_res res
  refine fun ι3 H3 v3 p3 x3 so3 r3 => ⟨b, r3, ?_⟩
  have lo3 := (lo1.mono p2 x2).mono p3 x3
  have res := res.mono p3 x3
  cases b
  · exact res.val so3 (show DR X.K ι3 H3 (.bl false) (.bl false) from rfl)
  · obtain ⟨w, S4, e4, res⟩ := Res.step res
    refine TEc.of so3 lo3 e4 fun ι4 H4 v4 p4 x4 so4 r4 => ?_
    exact ⟨ι4, S4, d2, w, so4, (r2.mono p3 x3 _).mono p4 x4 _, r4, res.mono p4 x4⟩
theorem ep_chn {a b c : Expr} {ca cb cc : CE} {p q : CmpOp} {pos : Pos} (cg : Cg X) (ha : EP2 X G a ca) (hb : EP2 X G b cb) (hc : EP2 X G c cc) (hm : lastMarks [p, q] [b, c] = false) : EP2 X G (.Compare a [p, q] [b, c] pos) (.chn p q ca cb cc) :=
  ⟨(pe_chain (op_cmp cg p) (op_cmp cg q) ha.pe hb.pe hc.pe hm).imp fun σ H Q h => chain_go h,
   (pt_chain (op_cmp cg p) (op_cmp cg q) ha.pe hb.pe hc.pe hm).imp fun σ H Q h => chain_go h⟩
theorem ep_ite {c a b : Expr} {cc ca cb : CE} {pos : Pos} (hc : EP2 X G c cc) (ha : EP2 X G a ca) (hb : EP2 X G b cb) : EP2 X G (.IfExp c a b pos) (.ite cc ca cb) := by
  refine ⟨(pe_ifExp hc.pt ha.pe hb.pe).imp fun σ H Q ⟨ι, S, L, so, lo, res⟩ => ?_, ⟨fun pins s σ H Q I ⟨ι, S, L, so, lo, res⟩ => ?_⟩⟩
  · obtain ⟨d, S1, e1, res⟩ := Res.step res
    obtain ⟨t, rfl, res⟩ := ifB_res res
    refine TTc.of so lo e1 fun ι1 H1 p1 x1 so1 => ?_
    have res := res.mono p1 x1
    cases t
    · exact ⟨ι1, S1, L, so1, lo.mono p1 x1, res⟩
    · exact ⟨ι1, S1, L, so1, lo.mono p1 x1, res⟩
  · obtain ⟨d, S1, e1, res⟩ := Res.step res
    obtain ⟨t, rfl, res⟩ := ifB_res res
    refine PyProof.Rows.isTrue_IfExp (thn (hc.pt.run pins s σ H (fun b H1 => if b = true then TTc G X.K ca σ H1 Q else TTc G X.K cb σ H1 Q) I (TTc.of so lo e1 fun ι1 H1 p1 x1 so1 => ?_)) fun d s1 ⟨H1, I1, q1⟩ => ?_)
    · have res := res.mono p1 x1
      cases t
      · exact ⟨ι1, S1, L, so1, lo.mono p1 x1, res⟩
      · exact ⟨ι1, S1, L, so1, lo.mono p1 x1, res⟩
    · cases d with
      | true => exact ha.pt.run pins s1 σ H1 Q I1 q1
      | false => exact hb.pt.run pins s1 σ H1 Q I1 q1
theorem args_go {as : CA} {f : List D → Store → R D} {ι : List Addr} {S : Store} {L : Lcs} {σ : St} {H : Hp} {Q : VK} (so : Sok X.K ι H S) (lo : Lok X.K ι H L σ)
    (res : Res X.K ι H ((evA G as L S).bind f) Q) : tCB (RC X.K f) (TAc G X.K as) σ H Q := by
  obtain ⟨ds, S1, e1, res⟩ := Res.step res
  refine TAc.of so lo e1 fun ι1 H1 vs p1 x1 so1 r1 => ?_
  exact ⟨ι1, S1, ds, so1, r1, res.mono p1 x1⟩
theorem ep_tup {es : List Expr} {as : CA} {kk : Nat} {pos : Pos} (ha : PA X es (TAc G X.K as)) : EP2 X G (.Tuple es kk pos) (.tup as) :=
  .of ((pe_tup ha).imp fun σ H Q ⟨ι, S, L, so, lo, res⟩ => by
    obtain ⟨ds, S1, e1, res⟩ := Res.step res
    obtain ⟨hb, res⟩ := okIf_res res
    refine TAc.of so lo e1 fun ι1 H1 vs p1 x1 so1 r1 => ?_
    have hl : vs.length ≤ sizeLine := by rw [r1.length]; exact of_decide_eq_true hb
    exact ⟨hl, fun p hp => (res.mono p1 x1).newT so1 r1 hp⟩) fun _ => rfl
theorem ep_lst {es : List Expr} {as : CA} {pos : Pos} (ha : PA X es (TAc G X.K as)) : EP2 X G (.List es pos) (.lst as) :=
  .of ((pe_lst ha).imp fun σ H Q ⟨ι, S, L, so, lo, res⟩ => by
    obtain ⟨ds, S1, e1, res⟩ := Res.step res
    split at res
    · rename_i hb
      refine TAc.of so lo e1 fun ι1 H1 vs p1 x1 so1 r1 => ?_
      have hl : vs.length ≤ sizeLine := by rw [r1.length]; exact of_decide_eq_true hb
      exact ⟨hl, fun p hp => (res.mono p1 x1).newL so1 r1 hp⟩
    · exact res.elim) fun _ => rfl
end
end Mi
namespace Mi
open PySem L2
section
variable {nm : Nm} {N : List Str} {G : Gv} {k : Nat} {X : Cx}
def trs (G : Gv) (K : PySem.W.Frag) : List CE → List (TE × TE)
  | a :: b :: r => (TEc G K a, TEc G K b) :: trs G K r
  | _ => []
theorem pps_of {pos : Pos} {er : Expr → Option CE} (hp : ∀ e c, er e = some c → EP2 X G e c) : ∀ {ks : List (Option Expr)} {vs es : List Expr} {cs : List CE}, pairUp ks vs = some es → erAll er es = some cs →
    PPs X pos ks vs (trs G X.K cs) ∧ ks.all (·.isSome) = true ∧ ks.length = vs.length
  | [], [], es, cs, h, h2 => by
    cases h
    cases h2
    exact ⟨pps_nil, rfl, rfl⟩
  | [], v :: vs, _, _, h, _ => by cases h
  | none :: ks, _, _, _, h, _ => by cases h
  | some _ :: ks, [], _, _, h, _ => by cases h
  | some e :: ks, v :: vs, es, cs, h, h2 => by
    simp only [pairUp] at h
    obtain ⟨r, hr, rfl⟩ := Option.map_eq_some_iff.mp h
    unfold erAll at h2
    rw [List.map_cons] at h2
    obtain ⟨t, ts, h1, h5, rfl⟩ := allSome_cons h2
    rw [List.map_cons] at h5
    obtain ⟨t2, ts2, h3, h4, rfl⟩ := allSome_cons h5
    obtain ⟨i1, i2, i3⟩ := pps_of hp hr h4
    exact ⟨pps_cons (hp e t h1).pe (hp v t2 h3).pe i1, by simpa using i2, by simp [i3]⟩
/-- keys and values, one after another -/
def flat : List (V × V) → List V
  | [] => []
  | (a, b) :: r => a :: b :: flat r
theorem pairs_go : ∀ (n : Nat) {cs : List CE} {σ : St} {H : Hp} {Q : List (V × V) → Hp → Prop} {ι : List Addr} {S S' : Store} {L : Lcs} {ds : List D}, cs.length = n + n → Sok X.K ι H S → Lok X.K ι H L σ → evA G (caOf cs) L S = .ok ds S' →
    (∀ ι' H' ps, ι <+: ι' → Xt H H' → Sok X.K ι' H' S' → DRs X.K ι' H' ds (flat ps) → Q ps H') → tPairs (trs G X.K cs) σ H Q
  | 0, cs, σ, H, Q, ι, S, S', L, ds, hn, so, lo, e, q => by
    cases cs with
    | cons _ _ => simp at hn
    | nil =>
      cases e
      exact q ι H [] (List.prefix_refl ι) (Xt.refl H) so rfl
  | n + 1, cs, σ, H, Q, ι, S, S', L, ds, hn, so, lo, e, q => by
    match cs, hn with
    | [], hn => simp at hn
    | [_], hn => simp at hn; omega
    | a :: b :: r, hn =>
      have e : ((evE G a L S).bind fun d S1 => ((evE G b L S1).bind fun d S1 => (evA G (caOf r) L S1).bind fun ds S2 => .ok (d :: ds) S2).bind fun ds S2 => .ok (d :: ds) S2) = .ok ds S' := e
      cases e1 : evE G a L S with
      | bad => rw [e1] at e; cases e
      | exc _ _ => rw [e1] at e; cases e
      | ok d1 S1 =>
        rw [e1, R.bind_ok] at e
        cases e2 : evE G b L S1 with
        | bad => rw [e2] at e; cases e
        | exc _ _ => rw [e2] at e; cases e
        | ok d2 S2 =>
          rw [e2, R.bind_ok] at e
          cases e3 : evA G (caOf r) L S2 with
          | bad => rw [e3] at e; cases e
          | exc _ _ => rw [e3] at e; cases e
          | ok d3 S3 =>
            rw [e3, R.bind_ok, R.bind_ok] at e
            cases e
            refine TEc.of so lo e1 fun ι1 H1 v1 p1 x1 so1 r1 => ?_
            refine TEc.of so1 (lo.mono p1 x1) e2 fun ι2 H2 v2 p2 x2 so2 r2 => ?_
            refine pairs_go n (by simp at hn; omega) so2 ((lo.mono p1 x1).mono p2 x2) e3 fun ι3 H3 ps p3 x3 so3 r3 => ?_
            exact q ι3 H3 ((v1, v2) :: ps) ((p1.trans p2).trans p3) ((x1.trans x2).trans x3) so3 ⟨v1, _, rfl, (r1.mono p2 x2 _).mono p3 x3 _, v2, _, rfl, r2.mono p3 x3 _, r3⟩
theorem dct_vals {K : PySem.W.Frag} {ι : List Addr} {H : Hp} : ∀ {ds : List D} {kvs : List (Key × D)} {ps : List (V × V)}, dctD ds = some kvs → DRs K ι H ds (flat ps) → ∃ vs : List (Key × V), KR K ι H kvs vs ∧ ps = vs.map fun kv => (kV kv.1, kv.2)
  | [], kvs, ps, e, r => by
    cases e
    cases ps with
    | nil => exact ⟨[], ⟨rfl, rfl⟩, rfl⟩
    | cons p ps => exact absurd r (by simp [flat, DRs])
  | [_], kvs, ps, e, r => by simp [dctD] at e
  | d1 :: d2 :: ds, kvs, ps, e, r => by
    simp only [dctD] at e
    split at e
    · rename_i k kr hk hr
      cases e
      cases ps with
      | nil => 
        obtain ⟨v, vr, e1, _⟩ := r
        cases e1
      | cons p ps =>
        obtain ⟨v, vr, e1, a1, v2, vr2, e2, a2, a3⟩ := r
        cases e2
        obtain ⟨p1, p2⟩ := p
        have e1 : p1 :: p2 :: flat ps = v :: v2 :: vr2 := e1
        injection e1 with q1 q2
        injection q2 with q2 q3
        subst q1 q2 q3
        obtain ⟨vs, h1, h2⟩ := dct_vals hr a3
        have := keyOf_kV hk a1
        subst this
        refine ⟨(k, p2) :: vs, ⟨by simp [h1.1], ?_⟩, by simp [h2]⟩
        exact ⟨p2, _, rfl, a2, h1.2⟩
    · cases e
theorem pair_len {er : Expr → Option CE} : ∀ {ks : List (Option Expr)} {vs es : List Expr} {cs : List CE}, pairUp ks vs = some es → erAll er es = some cs → ∃ n, cs.length = n + n
  | [], [], es, cs, h, h2 => by
    cases h
    cases h2
    exact ⟨0, rfl⟩
  | [], v :: vs, _, _, h, _ => by cases h
  | none :: ks, _, _, _, h, _ => by cases h
  | some _ :: ks, [], _, _, h, _ => by cases h
  | some e :: ks, v :: vs, es, cs, h, h2 => by
    simp only [pairUp] at h
    obtain ⟨r, hr, rfl⟩ := Option.map_eq_some_iff.mp h
    unfold erAll at h2
    rw [List.map_cons] at h2
    obtain ⟨t, ts, _, h5, rfl⟩ := allSome_cons h2
    rw [List.map_cons] at h5
    obtain ⟨t2, ts2, _, h4, rfl⟩ := allSome_cons h5
    obtain ⟨n, hn⟩ := pair_len hr (show erAll er r = some ts2 from h4)
    exact ⟨n + 1, by simp [hn]; omega⟩
theorem ep_dct {ks : List (Option Expr)} {vs es : List Expr} {cs : List CE} {pos : Pos} {er : Expr → Option CE} (hp : ∀ e c, er e = some c → EP2 X G e c) (h15 : ks.length ≤ 15) (h1 : pairUp ks vs = some es) (h2 : erAll er es = some cs) : EP2 X G (.Dict ks vs pos) (.dct (caOf cs)) := by
  refine .of ?_ fun _ => rfl
  by_cases h0 : ks = []
  · subst h0
    cases vs with
    | cons _ _ => cases h1
    | nil =>
      cases h1
      cases h2
      refine pe_dnewK.imp fun σ H Q ⟨ι, S, L, so, lo, res⟩ p hp => ?_
      have e : evE G (.dct (caOf [])) L S = .ok (.ref S.length) (S ++ [.dK []]) := by
        simp [evE, evA, caOf, dctD, mergeD]
      rw [e] at res
      have nw := so.push hp (o := .dK []) (c := .dK []) ⟨[], upd_same, rfl, rfl⟩
      exact res (ι ++ [p]) _ _ (List.prefix_append ..) (Xt.new hp) nw ⟨p, by simp [so.len], rfl⟩
  · obtain ⟨pp, hall, hl⟩ := pps_of (pos := pos) hp h1 h2
    refine (pe_disp pp hall hl h0 h15).imp fun σ H Q ⟨ι, S, L, so, lo, res⟩ p hp => ?_
    obtain ⟨ds, S1, e1, res⟩ := Res.step res
    split at res
    · rename_i kvs hd hc
      split at res
      · rename_i h15'
        have x0 := Xt.new (o := .dK []) hp
        have nw := so.push hp (o := .dK []) (c := .dK []) ⟨[], upd_same, rfl, rfl⟩
        have pre : ι <+: ι ++ [p] := List.prefix_append ..
        obtain ⟨n, hn⟩ := pair_len h1 h2
        refine pairs_go n hn nw (lo.mono pre x0) e1 fun ι2 H2 ps p2 x2 so2 r2 => ?_
        obtain ⟨vs', kr, eps⟩ := dct_vals hd r2
        have ea : ι2[S.length]? = some p := pre_get p2 (by simp [so.len])
        obtain ⟨a, ea', ck⟩ := so2.at hc
        rw [ea] at ea'; cases ea'
        obtain ⟨ws, hw, kw⟩ := ck
        have : ws = [] := by
          have := kw.1
          cases ws with
          | nil => rfl
          | cons _ _ => simp at this
        subst this
        refine ⟨hw, vs', eps, by rw [kr.length]; exact h15', ?_⟩
        obtain ⟨s3, x3⟩ := so2.put (o := .dK (mergeK [] vs')) (c' := .dK (mergeD [] kvs)) ea hc rfl fun x => ⟨_, upd_same, (KR.merge (kvs := []) (vs := []) ⟨rfl, rfl⟩ kr).mono (List.prefix_refl _) x⟩
        exact res ι2 _ _ (pre.trans p2) ((x0.trans x2).trans x3) s3 ⟨p, ea, rfl⟩
      · exact res.elim
    · exact res.elim
end
end Mi
namespace Mi
open PySem L2
section
variable {nm : Nm} {N : List Str} {G : Gv} {k : Nat} {X : Cx}
def notSlice : Expr → Bool
  | .Slice _ _ _ _ => false
  | _ => true
theorem ix_plain {b : Expr} (h : notSlice b = true) : PlainIx b := by
  intro o i
  cases b <;> first | rfl | cases h
theorem ep_idx {a b : Expr} {ca cb : CE} {pos : Pos} (c : Cg X) (ha : EP2 X G a ca) (hb : EP2 X G b cb) (hs : notSlice b = true) : EP2 X G (.Subscript a b pos) (.idx ca cb) :=
  .of ((pe_ix (ixD c) ha.pe hb.pe (ix_plain hs)).imp fun σ H Q ⟨ι, S, L, so, lo, res⟩ => two so lo (Res.ungc so res)) fun _ => rfl
/-- a slice's part -/
def TOc (G : Gv) (K : PySem.W.Frag) (b : Bool) (c : CE) : TO := fun σ H Q => ∃ ι S L o S', Sok K ι H S ∧ Lok K ι H L σ ∧
  (if b = true then ∃ i, evE G c L S = .ok (.int i) S' ∧ o = some i else o = none ∧ S' = S) ∧ ∀ ι' H', ι <+: ι' → Xt H H' → Sok K ι' H' S' → Q o H'
theorem po_imp {e : Option Expr} {t t' : TO} (h : PO X e t) (i : ∀ σ H Q, t' σ H Q → t σ H Q) : PO X e t' := ⟨fun pins s σ H Q I q => h.run pins s σ H Q I (i σ H Q q)⟩
theorem po_of {er : Expr → Option CE} (hp : ∀ e c, er e = some c → EP2 X G e c) {o : Option Expr} {b : Bool} {c : CE} (h : erOpt er o = some (b, c)) : PO X o (TOc G X.K b c) := by
  cases o with
  | none =>
    cases h
    refine po_imp po_none fun σ H Q ⟨ι, S, L, o, S', so, lo, e, q⟩ => ?_
    rw [if_neg Bool.false_ne_true] at e
    obtain ⟨rfl, rfl⟩ := e
    exact q ι H (List.prefix_refl ι) (Xt.refl H) so
  | some e =>
    simp only [erOpt] at h
    obtain ⟨c', h1, h2⟩ := Option.map_eq_some_iff.mp h
    cases h2
    refine po_imp (po_some (hp e c h1).pe) fun σ H Q ⟨ι, S, L, o, S', so, lo, e, q⟩ => ?_
    rw [if_pos rfl] at e
    obtain ⟨i, e1, rfl⟩ := e
    exact TEc.of so lo e1 fun ι1 H1 v p1 x1 so1 r1 => ⟨i, r1, q ι1 H1 p1 x1 so1⟩
theorem bindO {α : Type} {r : R (Option Int)} {f : Option Int → Store → R D} {ι : List Addr} {H : Hp} {Q : VK} (h : Res X.K ι H (r.bind f) Q) : ∃ o S1, r = .ok o S1 ∧ Res X.K ι H (f o S1) Q := Res.step h
theorem ep_slc {e : Expr} {lo hi : Option Expr} {ce cl ch : CE} {bl bh : Bool} {p2 pos : Pos} {er : Expr → Option CE} (hp : ∀ e c, er e = some c → EP2 X G e c) (he : EP2 X G e ce) (hl : erOpt er lo = some (bl, cl)) (hh : erOpt er hi = some (bh, ch)) :
    EP2 X G (.Subscript e (.Slice lo hi none p2) pos) (.slc ce bl cl bh ch) := by
  refine .of ((pe_slice slD he.pe (po_of hp hl) (po_of hp hh)).imp fun σ H Q ⟨ι, S, L, so, lo, res⟩ => ?_) fun _ => rfl
  obtain ⟨d, S1, e1, res⟩ := Res.step (Res.ungc so res)
  refine TEc.of so lo e1 fun ι1 H1 v p1 x1 so1 r1 => ?_
  have res := res.mono p1 x1
  have lo1 := lo.mono p1 x1
  have part1 : ∃ o1 S2, (if bl = true then ∃ i, evE G cl L S1 = .ok (.int i) S2 ∧ o1 = some i else o1 = none ∧ S2 = S1) ∧ ∀ ι2 H2, ι1 <+: ι2 → Xt H1 H2 → Sok X.K ι2 H2 S2 → ∃ o2 S3, (if bh = true then ∃ i, evE G ch L S2 = .ok (.int i) S3 ∧ o2 = some i else o2 = none ∧ S3 = S2) ∧ Res X.K ι2 H2 (slcD d o1 o2 S3) Q := by
    have tail : ∀ {o1 : Option Int} {S2 : Store} {ι2 : List Addr} {H2 : Hp} {r : R D}, Res X.K ι2 H2 r Q →
        (r = if bh = true then (evE G ch L S2).bind fun u S3 => (match u with | .int i => slcD d o1 (some i) S3 | _ => .bad) else slcD d o1 none S2) →
        ∃ o2 S3, (if bh = true then ∃ i, evE G ch L S2 = .ok (.int i) S3 ∧ o2 = some i else o2 = none ∧ S3 = S2) ∧ Res X.K ι2 H2 (slcD d o1 o2 S3) Q := by
      intro o1 S2 ι2 H2 r hr e
      subst e
      cases bh
      · exact ⟨none, S2, by rw [if_neg Bool.false_ne_true]; exact ⟨rfl, rfl⟩, hr⟩
      · rw [if_pos rfl] at hr
        obtain ⟨u, S3, e3, hr⟩ := Res.step hr
        cases u with
        | int i => exact ⟨some i, S3, by rw [if_pos rfl]; exact ⟨i, e3, rfl⟩, hr⟩
        | _ => exact hr.elim
    have eqT : ∀ {o1 : Option Int} {S2 : Store}, ((if bh = true then (evE G ch L S2).bind fun u S3 => (match u with | .int i => .ok (some i) S3 | _ => .bad) else .ok none S2 : R (Option Int)).bind fun h S3 => slcD d o1 h S3) =
        if bh = true then (evE G ch L S2).bind fun u S3 => (match u with | .int i => slcD d o1 (some i) S3 | _ => .bad) else slcD d o1 none S2 := by
      intro o1 S2
      cases bh
      · rfl
      · rw [if_pos rfl, if_pos rfl]
        cases evE G ch L S2 with
        | bad => rfl
        | exc _ _ => rfl
        | ok u S3 => cases u <;> rfl
    cases bl
    · refine ⟨none, S1, by rw [if_neg Bool.false_ne_true]; exact ⟨rfl, rfl⟩, fun ι2 H2 p2 x2 so2 => tail (res.mono p2 x2) eqT⟩
    · cases e1' : evE G cl L S1 with
      | bad => rw [if_pos rfl, e1'] at res; exact res.elim
      | exc _ _ => rw [if_pos rfl, e1'] at res; exact res.elim
      | ok u S2 =>
        rw [if_pos rfl, e1'] at res
        cases u with
        | int i => exact ⟨some i, S2, by rw [if_pos rfl]; exact ⟨i, rfl, rfl⟩, fun ι2 H2 p2 x2 so2 => tail (res.mono p2 x2) eqT⟩
        | _ => exact res.elim
  obtain ⟨o1, S2, pe1, k1⟩ := part1
  refine ⟨ι1, S1, L, o1, S2, so1, lo1, pe1, fun ι2 H2 p2 x2 so2 => ?_⟩
  obtain ⟨o2, S3, pe2, res⟩ := k1 ι2 H2 p2 x2 so2
  exact ⟨ι2, S2, L, o2, S3, so2, lo1.mono p2 x2, pe2, fun ι3 H3 p3 x3 so3 => ⟨ι3, S3, d, so3, (r1.mono p2 x2 _).mono p3 x3 _, res.mono p3 x3⟩⟩
theorem ep_rev {e st : Expr} {ce : CE} {p2 pos : Pos} (he : EP2 X G e ce) (h : isRev st = true) : EP2 X G (.Subscript e (.Slice none none (some st) p2) pos) (.rev ce) := by
  cases st with
  | UnaryOp op a p1 =>
    cases op with
    | USub =>
      cases a with
      | Constant cst kk p0 =>
        cases cst with
        | int i =>
          have hi : i = 1 := of_decide_eq_true h
          subst hi
          refine .of ((pe_revD he.pe).imp fun σ H Q ⟨ι, S, L, so, lo, res⟩ => ?_) fun _ => rfl
          obtain ⟨d, S1, e1, res⟩ := Res.step (Res.ungc so res)
          refine TEc.of so lo e1 fun ι1 H1 v p1 x1 so1 r1 => ?_
          exact ⟨ι1, S1, d, so1, r1, res.mono p1 x1⟩
        | _ => cases h
      | _ => cases h
    | _ => cases h
  | _ => cases h
theorem ep_call {x : Str} {i : Nat} {es : List Expr} {cs : List CE} {np pos : Pos} {er : Expr → Option CE} (g : Gd nm N G k X) (hp : ∀ e c, er e = some c → EP2 X G e c) (hst : es.all notStar = true) (h : erAll er es = some cs) (hf : nm.fn x = some i) (hg : L2.Gl X x) : EP2 X G (.Call (.Name x np) es [] pos) (.call i (caOf cs)) := by
  obtain ⟨fa, hd⟩ := g.fns x i hf
  refine .of ?_ fun _ => rfl
  cases es with
  | nil =>
    cases h
    refine (pe_callG0 fa g.room g.cg.gu hg hd).imp fun σ H Q ⟨ι, S, L, so, lo, res⟩ => ?_
    have res := Res.ungc so res
    exact ⟨ι, S, [], so, rfl, res⟩
  | cons e es =>
    refine (pe_callG fa g.room g.cg.gu hg hd (pa_of h hst hp) (star_cons X.env hst) (star_plain X.env pos (by rw [List.all_cons, Bool.and_eq_true] at hst; exact hst.2))).imp fun σ H Q ⟨ι, S, L, so, lo, res⟩ => ?_
    exact args_go so lo (Res.ungc so res)
theorem ep_bi {x : Str} {f : Bi} {es : List Expr} {cs : List CE} {np pos : Pos} {er : Expr → Option CE} (g : Gd nm N G k X) (hp : ∀ e c, er e = some c → EP2 X G e c) (hst : es.all notStar = true) (h : erAll er es = some cs) (hf : biOf x = some f) (hb : x ∈ nm.bl) (hne : es.isEmpty = false) (hg : L2.Gl X x) : EP2 X G (.Call (.Name x np) es [] pos) (.bi f (caOf cs)) := by
  have hx := biOf_eq hf
  have hbt := bi_boot f
  obtain ⟨n1, n2⟩ := bi_name f
  rw [← hx] at hbt n1 n2
  refine .of ?_ fun _ => rfl
  cases es with
  | nil => cases hne
  | cons e es =>
    have st2 : es.all notStar = true := by rw [List.all_cons, Bool.and_eq_true] at hst; exact hst.2
    have key : PE X (.Call (.Name x np) (e :: es) [] pos) (tCB (RC X.K (biD f)) (TAc G X.K (caOf cs))) := by
      have hc := bi_ok (X := X) g.cg f
      have pa := pa_of h hst hp
      have s1 := star_cons X.env hst
      have s2 := star_plain X.env pos st2
      have hm := g.bls x hb
      cases f <;> first
        | exact pe_callB hc hg hm hbt pa n1 n2 s1 s2
        | exact pe_callTy hc hg hm hbt pa n1 n2 s1 s2
    refine key.imp fun σ H Q ⟨ι, S, L, so, lo, res⟩ => ?_
    exact args_go so lo (Res.ungc so res)
theorem ep_mth {o : Expr} {m : Str} {f : Mt} {co : CE} {es : List Expr} {cs : List CE} {apos cpos : Pos} {er : Expr → Option CE} (g : Gd nm N G k X) (hp : ∀ e c, er e = some c → EP2 X G e c) (hst : es.all notStar = true) (h : erAll er es = some cs) (hf : mtOf m = some f) (ho : EP2 X G o co)
    (hns : notSuper o = true) (hl : (apos.endLine == cpos.line) = true) (h30 : es.length < 30) : EP2 X G (.Call (.Attribute o m apos) es [] cpos) (.mth f co (caOf cs)) := by
  obtain ⟨hx, has⟩ := mtOf_eq hf
  subst hx
  obtain ⟨sl, ty⟩ := mt_slot f has
  have pa := mt_pa f has
  have hm := mt_ok (X := X) g.cg f
  refine .of ?_ fun _ => rfl
  cases es with
  | nil =>
    cases h
    refine (pe_bm0 pa sl ty hm ho.pe (base_of hns) hl).imp fun σ H Q ⟨ι, S, L, so, lo, res⟩ => ?_
    obtain ⟨d, S1, e1, res⟩ := Res.step (Res.ungc so res)
    refine TEc.of so lo e1 fun ι1 H1 v p1 x1 so1 r1 => ?_
    have res := res.mono p1 x1
    split at res
    · rename_i ht
      exact ⟨mt_ty so1 ht r1, ι1, S1, d, [], so1, r1, rfl, res⟩
    · exact res.elim
  | cons e es =>
    have st2 : es.all notStar = true := by rw [List.all_cons, Bool.and_eq_true] at hst; exact hst.2
    have few : ((backTo cpos (starEach (e :: es) X.env)).all (fun x => !x.1) && (backToKw cpos (keywordEach [] X.env)).all (fun x => x.1.isSome)
      && decide ((e :: es).length + ([] : List Keyword).length + (if ([] : List Keyword).isEmpty then 0 else 1) < 30)) = true := by
      rw [star_all X.env cpos hst, Bool.true_and, Bool.and_eq_true]
      exact ⟨rfl, decide_eq_true (by simpa using h30)⟩
    refine (pe_bm pa sl ty hm ho.pe (pa_of h hst hp) (base_of hns) few hl (star_cons X.env hst) (star_plain X.env cpos st2)).imp fun σ H Q ⟨ι, S, L, so, lo, res⟩ => ?_
    obtain ⟨d, S1, e1, res⟩ := Res.step (Res.ungc so res)
    refine TEc.of so lo e1 fun ι1 H1 v p1 x1 so1 r1 => ?_
    have res := res.mono p1 x1
    split at res
    · rename_i ht
      refine ⟨mt_ty so1 ht r1, ?_⟩
      obtain ⟨ds, S2, e2, res⟩ := Res.step res
      refine TAc.of so1 (lo.mono p1 x1) e2 fun ι2 H2 vs p2 x2 so2 r2 => ?_
      exact ⟨ι2, S2, d, ds, so2, r1.mono p2 x2 _, r2, res.mono p2 x2⟩
    · exact res.elim
theorem lk_gl {sc : Scope} {x : Str} (hsc : X.env.scope = sc) (h : isG sc x = true) : L2.Gl X x := by
  unfold isG at h
  split at h
  · rename_i e
    unfold L2.Gl Env.kindOf
    rw [hsc]; exact e
  · cases h
theorem ep_name {x : Str} {c : CE} {pos : Pos} {sc : Scope} (g : Gd nm N G k X) (hsc : X.env.scope = sc) (h : erName nm N sc x = some c) : EP2 X G (.Name x pos) c := by
  have loc : ∀ {i : Nat}, ¬ (x = "__debug__" ∨ x = "__classdict__") → ixOf N x = some i → Vis X.env.scope x → EP2 X G (.Name x pos) (.loc i) := by
    intro i hn hi hv
    rw [not_or] at hn
    refine .of ((pe_var (pos := pos) (by rw [g.n]; exact ixOf_get hi) hv (beq_eq_false_iff_ne.mpr hn.1) (beq_eq_false_iff_ne.mpr hn.2)).imp fun σ H Q ⟨ι, S, L, so, lo, res⟩ => ?_) fun _ => rfl
    simp only [evE] at res
    split at res
    · rename_i d hd
      obtain ⟨v, e, r⟩ := lo.2 i d hd
      exact ⟨v, e, res.val so r⟩
    · exact res.elim
  unfold erName at h
  split at h
  · rename_i e
    split at h
    · cases h
    · obtain ⟨i, hi, rfl⟩ := Option.map_eq_some_iff.mp h
      exact loc ‹_› hi (.inl (by rw [hsc]; exact e))
  · rename_i e
    split at h
    · cases h
    · obtain ⟨i, hi, rfl⟩ := Option.map_eq_some_iff.mp h
      exact loc ‹_› hi (.inr (.inl (by rw [hsc]; exact e)))
  · rename_i e
    split at h
    · cases h
    · obtain ⟨i, hi, rfl⟩ := Option.map_eq_some_iff.mp h
      exact loc ‹_› hi (.inr (.inr (by rw [hsc]; exact e)))
  · rename_i e
    have gl : L2.Gl X x := by unfold L2.Gl Env.kindOf; rw [hsc]; exact e
    split at h
    · rename_i i hi
      cases h
      refine .of ⟨fun pins s σ H Q I ⟨ι, S, L, so, lo, res⟩ => ?_⟩ fun _ => rfl
      simp only [evE] at res
      obtain ⟨d, hd, res⟩ := optR_res res
      obtain ⟨u, v, hm, ru, dr, hdb⟩ := g.cts x i d hi hd
      exact (pe_glob gl hm ru hdb).run pins s σ H Q I (res.val so (dr ι H))
    · split at h
      · rename_i t ht
        split at h
        · rename_i hb
          cases h
          obtain ⟨b1, b2, b3⟩ := tyB_boot ht
          exact ep_cst (pe_bltn (v := .ty t) gl (g.bls x hb) b1 rfl b2 b3) (fun ι H => rfl) fun _ => rfl
        · cases h
      · cases h
  · cases h
end
end Mi
namespace Mi
open PySem PySem.Spec PyProof.Rows L2
/-- an exception that is held, caught or made -/
def XvH (H : Hp) (a C : Addr) : Prop := H a = some (xHO C a) ∨ ∃ f v, ExvAt H a C f v
theorem XvH.new {H : Hp} {a C p : Addr} {o : HO} (h : XvH H a C) (hp : H p = none) : XvH (upd H p o) a C := by
  rcases h with h | ⟨f, v, d, o1, o2, e1, e2⟩
  · left; rw [upd_ne (ne_of_none h hp)]; exact h
  · right; refine ⟨f, v, d, o1, o2, ?_, ?_⟩
    · rw [upd_ne (ne_of_none e1 hp)]; exact e1
    · rw [upd_ne (ne_of_none e2 hp)]; exact e2
/-- a made one, as it lies -/
theorem xv_inst {X : Cx} {pins : List (Addr × Obj)} {σ : L2.St} {H : Hp} {s : Shared} {a C : Addr} {f : Str} {v : V} (I : Inv X pins σ H s) (h : ExvAt H a C f v) : ∃ o od, PySem.W.InstAt s.heap a o C (some od) := by
  obtain ⟨dd, o, od', ea, ed⟩ := h
  obtain ⟨ho, ⟨⟨t1, ho2⟩, _⟩⟩ := (show ObjOk X.prog X.w H s.heap a (.frz o (exo a C (some dd))) from I.hok a _ ea)
  obtain ⟨hod, ⟨⟨mA, hns, hr⟩, _⟩⟩ := (show ObjOk X.prog X.w H s.heap dd (.frz od' (exd dd [(f, v)])) from I.hok dd _ ed)
  obtain ⟨od, ho3, hl⟩ := lookIn_ns hns
  exact ⟨_, od, ho2, rfl, rfl, ho3⟩
theorem XvH.inst {X : Cx} {pins : List (Addr × Obj)} {σ : L2.St} {H : Hp} {s : Shared} {a C : Addr} (I : Inv X pins σ H s) (h : XvH H a C) : ∃ o od, PySem.W.InstAt s.heap a o C od := by
  rcases h with h | ⟨f, v, h⟩
  · obtain ⟨⟨oe, J⟩, _⟩ := (show ObjOk X.prog X.w H s.heap a (xHO C a) from I.hok a _ h)
    exact ⟨_, _, J⟩
  · obtain ⟨o, od, J⟩ := xv_inst I h
    exact ⟨_, _, J⟩
/-- isinstance(e, c), e an exception that is kept -/
def rIsX (K : PySem.W.Frag) : List V → Hp → VK → Prop := fun xs H Q => ∃ (a C : Addr) (c : V) (us : List Value) (b : Bool), xs = [.ref a, c] ∧ XvH H a C ∧ ExcC K C ∧ PySem.W.kitAny K (.ref C) us = some b ∧
  ((∃ u, us = [u] ∧ ClsV c u) ∨ ∃ tp cs, c = .ref tp ∧ H tp = some (.tup cs) ∧ Paired ClsV cs us) ∧ Q (.bl b) H
theorem pair_len2 {α β : Type} {R : α → β → Prop} : ∀ {xs : List α} {ys : List β}, Paired R xs ys → xs.length = ys.length
  | _, _, .nil => rfl
  | _, _, .cons _ t => by rw [List.length_cons, List.length_cons, pair_len2 t]
theorem kit_one {K : PySem.W.Frag} {t u : Value} {b : Bool} (h : PySem.W.kitAny K t [u] = some b) : PySem.W.kitOne K t u = some b := by
  unfold PySem.W.kitAny at h
  cases e : PySem.W.kitOne K t u with
  | none => rw [e] at h; cases h
  | some v =>
    rw [e] at h
    cases v
    · exact h
    · exact h
section
variable {X : Cx}
theorem call_isX : CallR X (.builtin "isinstance") (rIsX X.K) := by
  intro pins s σ H xs ws Q I r h
  obtain ⟨a, C, c, us, b, rfl, ha, ec, kt, hc, q⟩ := h
  obtain ⟨u1, u2, rfl, r1, r2⟩ := vals2 r
  cases (show u1 = Value.ref a from r1)
  obtain ⟨oe, od, J⟩ := ha.inst I
  have Z := PySem.W.kitx_exc (x := a) (ox := oe) (od := od) (by obtain ⟨cd, hc, _⟩ := PySem.W.any_some ec.hd; rw [hc]; rfl) ec.hg ec.hk ec.hs ec.ha ec.hn ec.ht ec.hm
  rcases hc with ⟨u, rfl, cv⟩ | ⟨tp, cs, rfl, hT, pr⟩
  · have e2 := cv.eq r2
    subst e2
    exact PySem.W.kia_one Z I.kIn J (kit_one kt) (fun z => nomatch z) fun tk => ⟨.bl b, H, I.tok tk, rfl, q⟩
  · cases (show u2 = Value.ref tp from r2)
    obtain ⟨_, its, rv, o, g1, g2, n, g3⟩ := (show ObjOk X.prog X.w H s.heap tp (.tup cs) from I.hok tp _ hT)
    have e3 := ClsV.all pr rv
    subst e3
    obtain ⟨oc, od2, dt, sl⟩ := o
    simp only at g2 g3
    subst g2 g3
    exact PySem.W.kia_tup Z I.kIn J g1 kt (fun z => nomatch z) fun tk => ⟨.bl b, H, I.tok tk, rfl, q⟩
/-- a class's name -/
theorem pe_cls {y : Str} {u : Value} {p : Pos} (gl : L2.Gl X y) (h : ClsV2 X y u) : ∃ c, ClsV c u ∧ PE X (.Name y p) (tC c) := by
  obtain ⟨hd, ⟨hm, C, rfl⟩ | ⟨hm, hb, hn, t, rfl⟩⟩ := h
  · exact ⟨.ref C, .own C, pe_glob gl hm rfl hd⟩
  · exact ⟨.ty t, .ty t, pe_bltn gl hm hb rfl hn hd⟩
theorem pa_cls {sc : Scope} (hsc : X.env.scope = sc) : ∀ {es : List Expr} {ys : List Str} {us : List Value}, allSome (es.map (clsName sc)) = some ys → Paired (ClsV2 X) ys us → ∃ cs, Paired ClsV cs us ∧ PA X es (fun _ H Q => Q cs H) ∧ es.all notStar = true
  | [], ys, us, h, p => by
    cases h
    cases p
    exact ⟨[], .nil, pa_nil.imp fun _ _ _ q => q, rfl⟩
  | e :: es, ys, us, h, p => by
    rw [List.map_cons] at h
    obtain ⟨y, ys', h1, h2, rfl⟩ := allSome_cons h
    cases p with
    | cons g p =>
      obtain ⟨cs, pr, pa, st⟩ := pa_cls hsc h2 p
      cases e with
      | Name z zp =>
        simp only [clsName] at h1
        split at h1
        · rename_i hg
          cases h1
          obtain ⟨c, cv, pc⟩ := pe_cls (p := zp) (lk_gl (X := X) hsc hg) g
          refine ⟨c :: cs, .cons cv pr, (pa_cons pc pa (star_cons X.env (by rw [List.all_cons, st]; rfl))).imp fun σ H Q q => q, by rw [List.all_cons, st]; rfl⟩
        · cases h1
      | _ => cases h1
end
section
variable {nm : Nm} {N : List Str} {G : Gv} {k : Nat} {X : Cx}
theorem tab_look {xs yes : List Str} {x : Str} {b : Bool} (h : (xs.map fun x => (x, yes.contains x)).lookup x = some b) : x ∈ xs ∧ b = yes.contains x := by
  induction xs with
  | nil => cases h
  | cons y ys ih =>
    rw [List.map_cons, List.lookup_cons] at h
    cases e : x == y with
    | true =>
      rw [e] at h
      have : x = y := by simpa using e
      subst this
      cases h
      exact ⟨by simp, rfl⟩
    | false =>
      rw [e] at h
      obtain ⟨h1, h2⟩ := ih h
      exact ⟨by simp [h1], h2⟩
theorem ep_isx {e c : Expr} {ce : CE} {ys yes : List Str} {p pos : Pos} {sc : Scope} (hsc : X.env.scope = sc) (g : Gd nm N G k X) (he : EP2 X G e ce) (hst : notStar e = true) (gl : L2.Gl X "isinstance") (hb : ("isinstance" : Str) ∈ nm.bl) (hc : clsNames sc c = some ys) (hy : nm.yes ys = some yes) : EP2 X G (.Call (.Name "isinstance" p) [e, c] [] pos) (.isx ce (nm.held.map fun x => (x, yes.contains x))) := by
  obtain ⟨us, ul, pr, kt⟩ := (g.ix ys yes hy).ex
  refine .of ?_ fun _ => rfl
  have hm := g.bls _ hb
  -- what isinstance is told
  have core : ∀ {ι : List Addr} {S : Store} {H : Hp} {Q : VK} {d : D} {v : V}, Sok X.K ι H S → DR X.K ι H d v → Res X.K ι H (isxD d (nm.held.map fun x => (x, yes.contains x)) S) Q → ∃ a C b, v = .ref a ∧ XvH H a C ∧ ExcC X.K C ∧ PySem.W.kitAny X.K (.ref C) us = some b ∧ Res X.K ι H (.ok (.bl b) S) Q := by
    intro ι S H Q d v so dr res
    unfold isxD at res
    split at res
    · rename_i n
      split at res
      · rename_i x hx
        split at res
        · rename_i b hb
          obtain ⟨h1, rfl⟩ := tab_look hb
          obtain ⟨a, ea, C, hC, hH⟩ := so.at hx
          obtain ⟨a', ea', rfl⟩ := dr
          rw [ea] at ea'
          cases ea'
          have ec : ExcC X.K C := by
            rcases List.mem_append.mp h1 with h2 | h2
            · obtain ⟨C2, _, _, _, _, _, hC2, _, _, _, _, ec, _⟩ := (g.xs x h2).ex
              have : C = C2 := by
                have := hC.symm.trans hC2
                cases this; rfl
              rw [this]; exact ec
            · obtain ⟨p, hp, rfl⟩ := List.mem_map.mp h2
              obtain ⟨C2, _, _, _, _, _, hC2, fx, _⟩ := (g.fx p hp).ex
              have : C = C2 := by
                have := hC.symm.trans hC2
                cases this; rfl
              rw [this]; exact fx.as
          exact ⟨a, C, _, rfl, .inl hH, ec, kt x h1 C hC, res⟩
        · exact res.elim
      · rename_i x f d hx
        split at res
        · rename_i b hb
          obtain ⟨h1, rfl⟩ := tab_look hb
          obtain ⟨a, ea, C, v, hC, fx, ev, _⟩ := so.at hx
          obtain ⟨a', ea', rfl⟩ := dr
          rw [ea] at ea'
          cases ea'
          exact ⟨a, C, _, rfl, .inr ⟨f, v, ev⟩, fx.as, kt x h1 C hC, res⟩
        · exact res.elim
      · exact res.elim
    · exact res.elim
  by_cases ht : ∃ es kk tp, c = .Tuple es kk tp
  · obtain ⟨es, kk, tp, rfl⟩ := ht
    obtain ⟨cs, pc, pa, st⟩ := pa_cls hsc (show allSome (es.map (clsName sc)) = some ys from hc) pr
    have h2 : ([e, .Tuple es kk tp] : List Expr).all notStar = true := by rw [List.all_cons, hst]; rfl
    refine (pe_callB call_isX gl hm (by decide +kernel) (pa_cons he.pe (pa_cons (pe_tup pa) pa_nil (star_cons X.env rfl)) (star_cons X.env h2)) (by decide) (by decide) (star_cons X.env h2) (star_plain X.env pos rfl)).imp fun σ H Q ⟨ι, S, L, so, lo, res⟩ => ?_
    obtain ⟨d, S1, e1, res⟩ := Res.step res
    refine TEc.of so lo e1 fun ι1 H1 v p1 x1 so1 r1 => ?_
    obtain ⟨a, C, b, rfl, hH, ec, kk, res⟩ := core so1 r1 (res.mono p1 x1)
    refine ⟨?_, fun tp hp => ?_⟩
    · have := pair_len2 pc
      rw [sizeLine_eq]
      omega
    · refine ⟨a, C, .ref tp, us, b, rfl, ?_, ec, kk, .inr ⟨tp, cs, rfl, upd_same, pc⟩, ?_⟩
      · exact hH.new hp
      · exact res ι1 _ _ (List.prefix_refl _) (Xt.new hp) (so1.tup hp) rfl
  · have hc' : (clsName sc c).map (fun y => [y]) = some ys := by
      cases c with
      | Tuple es kk tp => exact absurd ⟨_, _, _, rfl⟩ ht
      | _ => exact hc
    obtain ⟨y, hy1, rfl⟩ := Option.map_eq_some_iff.mp hc'
    cases c with
    | Name z zp =>
      simp only [clsName] at hy1
      split at hy1
      · rename_i hg
        cases hy1
        cases pr with
        | cons g1 pr =>
          cases pr
          rename_i u
          obtain ⟨c, cv, pc⟩ := pe_cls (p := zp) (lk_gl (X := X) hsc hg) g1
          have h2 : ([e, .Name y zp] : List Expr).all notStar = true := by rw [List.all_cons, hst]; rfl
          refine (pe_callB call_isX gl hm (by decide +kernel) (pa_cons he.pe (pa_cons pc pa_nil (star_cons X.env rfl)) (star_cons X.env h2)) (by decide) (by decide) (star_cons X.env h2) (star_plain X.env pos rfl)).imp fun σ H Q ⟨ι, S, L, so, lo, res⟩ => ?_
          obtain ⟨d, S1, e1, res⟩ := Res.step res
          refine TEc.of so lo e1 fun ι1 H1 v p1 x1 so1 r1 => ?_
          obtain ⟨a, C, b, rfl, hH, ec, kk, res⟩ := core so1 r1 (res.mono p1 x1)
          exact ⟨a, C, c, _, b, rfl, hH, ec, kk, .inl ⟨u, rfl, cv⟩, res.val so1 rfl⟩
      · cases hy1
    | _ => cases hy1
end
end Mi
set_option maxHeartbeats 2000000
namespace Mi
open PySem PySem.Spec PyProof.Rows L2
variable {X : Cx} {pins : List (Addr × Obj)} {σ : L2.St} {H : Hp} {s : Shared}
/-- C(), C an exception class of the program without own __init__: a new object -/
theorem pe_mk0 {C : Addr} {bmB : List Value} {B newId initId : String} {x : Str} {p pos : Pos} (F : ExcBaseFacts B newId initId bmB) (q : PySem.W.excIn X.K C bmB newId = true) (gC : X.mg x = some (.ref C)) (kC : PySem.W.keepIn X.K (.ref C) = true) (hg : Gl X x)
    (hdb : (x == ("__debug__" : Str)) = false) : PE X (.Call (.Name x p) [] [] pos) (fun _ H Q => ∀ a, H a = none → Q (.ref a) (upd H a (xHO C a))) := by
  refine ⟨fun pins s σ H Q I h => ?_⟩
  refine wpAny_Call_Name_kw (ld_glob I hg gC ?_ hdb)
  refine PySem.W.callWith_K0 I.kIn kC ?_
  obtain ⟨bm, N, nm, qn, bs, hdct, sn, sub, ab, col, dd, k0, k1, k2, k3, k5, mN, hC, hN, hni, T⟩ := exc_obj I.kIn q
  refine wpAny_call_exc_subT F T hC hN hni (fun h' a hm => ?_) (Nat.zero_le _)
  have hn : H a = none := I.hok.gone hm.new
  obtain ⟨t, ht, _, _⟩ := hm.there
  refine ⟨.ref a, upd H a (xHO C a), I.laidN (t' := s.toks) hm.keeps hm.new hn ⟨⟨_, ht, rfl, rfl, trivial⟩, ⟨_, ht⟩, fun h1 h2 ⟨o', j⟩ k => ⟨o', ⟨k _ j.1, j.2, j.3, by have := j.4; cases e : o'.dict <;> rw [e] at this <;> exact this⟩⟩⟩, rfl, h a hn⟩
theorem inv_frz_exo {a C : Addr} {d : Option Addr} (I : Inv X pins σ H s) (e : H a = some (exo a C d)) : ∃ o, Inv X pins σ (upd H a (.frz o (exo a C d))) s := by
  obtain ⟨t1, ho⟩ := exo_at I.hok e
  refine ⟨_, I.write (t' := s.toks) (h' := s.heap) (x := a) (e := a) (o := .frz _ (exo a C d)) (by rw [e]; exact True.intro) (.inl rfl) (fun _ _ _ z => z) ⟨_, ho⟩ ⟨ho, exo_ok ho⟩⟩
theorem inv_frz_exd {dx : Addr} {fs : List (Str × V)} (I : Inv X pins σ H s) (e : H dx = some (exd dx fs)) : ∃ o, Inv X pins σ (upd H dx (.frz o (exd dx fs))) s := by
  obtain ⟨mA, hns, rel⟩ := exd_at I.hok e
  have hns' := hns
  obtain ⟨o, es, ep, ho, hd, hr⟩ := hns'
  refine ⟨_, I.write (t' := s.toks) (h' := s.heap) (x := dx) (e := dx) (o := .frz _ (exd dx fs)) (by rw [e]; exact True.intro) (.inl rfl) (fun _ _ _ z => z) ⟨_, ho⟩ ⟨ho, exd_ok hns rel⟩⟩
/-- C(e) -/
def tMk1 (C : Addr) (f : Str) (te : TE) : TE := fun σ H Q => te σ H fun v H1 => ∀ a d o od, H1 a = none → H1 d = none → d ≠ a → Q (.ref a) (upd (upd H1 d (.frz od (exd d [(f, v)]))) a (.frz o (exo a C (some d))))
theorem pe_mk1 {x : Str} {C fI : Addr} {k : Nat} {fd : FuncData} {f pS pV : Str} {e : Expr} {te : TE} {p pos : Pos} (T : OexC X.K C) (hno : PySem.W.findIn X.K (.ref C) f = some none) (iC : PySem.W.findIn X.K (.ref C) "__init__" = some (some (.ref fI))) (tI : PySem.W.typeIn X.K (.ref fI) = some (.type "function"))
    (F1 : FnOk X.prog X.w X.K X.mg X.base (L2.CX X.prog X.w) k fI fd [pS, pV] (spI X.K f)) (hr : Room (k + 1) X.A) (hb : Binds X.K fd [pS, pV] []) (hg : Gl X x) (hm : X.mg x = some (.ref C)) (he : PE X e te)
    (hdb : (x == ("__debug__" : Str)) = false) (hs : starEach [e] X.env = (false, eval e X.env) :: starEach [] X.env) :
    PE X (.Call (.Name x p) [e] [] pos) (tMk1 C f te) := by
  refine ⟨fun pins s σ H Q I h => ?_⟩
  obtain ⟨nm, q, N, bs, bm, sn, sub, ab, col, dd, k0, k1, k2, k3, k5, hC, hbm⟩ := T.cls
  refine wpAny_Call_Name_kw (ld_glob I hg hm ?_ hdb)
  refine PySem.W.callWith_K (h₀ := X.base) I.ok.mod.kin T.kC ?_ hs (by rfl)
  rw [hs]
  show wpAny _ _ (spliced ((false, eval e X.env) :: backTo pos (starEach [] X.env))) _ _ s
  refine Calls.spliced_cons (thn (he.run pins s σ H _ I h) fun u s1 ⟨v, H1, I1, r1, q1⟩ => ?_)
  refine Calls.spliced_nil ⟨I1.kIn, ?_⟩
  show wpAny _ _ (call (.ref C) [u]) _ _ _
  obtain ⟨hp, g, dr, tk, os⟩ := s1
  have hsz : hp.objs.size ≤ hp.objs.size + 1 := Nat.le_succ _
  have hn : H1 (hp.objs.size + 1) = none := I1.hok.fresh hsz
  have kk : ∀ b o, hp.get? b = some o → ((hp.push (PySem.W.kdv_tup [u])).push (PySem.HandSPX.excO C hp.objs.size)).get? b = some o := fun b o e => Heap.get?_push_of_some _ (Heap.get?_push_of_some _ e)
  have hget : ((hp.push (PySem.W.kdv_tup [u])).push (PySem.HandSPX.excO C hp.objs.size)).get? (hp.objs.size + 1) = some (PySem.HandSPX.excO C hp.objs.size) := by heap_get
  have I2 : Inv X pins σ (upd H1 (hp.objs.size + 1) (exo (hp.objs.size + 1) C none)) ⟨(hp.push (PySem.W.kdv_tup [u])).push (PySem.HandSPX.excO C hp.objs.size), g, dr, tk, os⟩ :=
    I1.laid (t' := tk) (a := hp.objs.size + 1) (o := exo (hp.objs.size + 1) C none) (h' := (hp.push (PySem.W.kdv_tup [u])).push (PySem.HandSPX.excO C hp.objs.size)) kk hsz (exo_ok hget)
  have r2 : Vals [V.ref (hp.objs.size + 1), v] [Value.ref (hp.objs.size + 1), u] := .cons rfl (.cons r1 .nil)
  have hus : ([u] : List Value).length ≤ sizeLine := by
    rw [sizeLine_eq]; simp
  have hb2 := hb ⟨(hp.push (PySem.W.kdv_tup [u])).push (PySem.HandSPX.excO C hp.objs.size), g, dr, tk, os⟩ [Value.ref (hp.objs.size + 1), u] I2.kIn rfl
  rw [List.append_nil] at hb2
  refine wpAny_call (PySem.HandSPX.call_own F.excBase_ValueError (fun Y => PySem.HandSPX.refsVE_contains Y bm hbm) (I1.kIn _ _ hC) (PySem.W.looks_findIn I1.kIn iC) (fun self => PySem.W.bind_fn I1.kIn self tI) hus
    (codeAny_mono (F1.run _ X.stack _ _ ⟨[Value.ref (hp.objs.size + 1), u], []⟩ [Value.ref (hp.objs.size + 1), u] _ (fun w H2 => w = .non ∧ ∃ dx, upd H1 (hp.objs.size + 1) (exo (hp.objs.size + 1) C none) dx = none ∧ dx ≠ hp.objs.size + 1 ∧ H2 = upd (upd (upd H1 (hp.objs.size + 1) (exo (hp.objs.size + 1) C none)) dx (exd dx [(f, v)])) (hp.objs.size + 1) (exo (hp.objs.size + 1) C (some dx))) (fun _ _ _ => False) (hr.make C [u] []) (I2.env0.make C [u] []) hb2 r2
      ⟨_, C, v, rfl, upd_same, T, hno, fun dx h1 h2 => ⟨rfl, dx, h1, h2, rfl⟩⟩) fun r s' hq' => ?_))
  cases r with
  | error er =>
    obtain ⟨_, _, _, _, _, _, _, _, _, _, _, _, _, _, _, _, _, no⟩ := (show L2.CX X.prog X.w X.stack _ _ (fun _ _ _ => False) er s' from hq')
  | ok fl =>
    cases fl with
    | ret u' =>
      obtain ⟨v', H2, os2, bare2, un2, hok2, rv, ev, dx, hd1, hda, eH⟩ := hq'
      subst ev
      have J := I2.call' (ch := []) os2 un2 hok2 bare2 (fun b z => absurd z (by simp))
      subst eH
      have hda1 : H1 dx = none := by rw [upd_ne hda] at hd1; exact hd1
      have e1 : (upd (upd (upd H1 (hp.objs.size + 1) (exo (hp.objs.size + 1) C none)) dx (exd dx [(f, v)])) (hp.objs.size + 1) (exo (hp.objs.size + 1) C (some dx))) dx = some (exd dx [(f, v)]) := by rw [upd_ne hda, upd_same]
      obtain ⟨od, J1⟩ := inv_frz_exd J e1
      obtain ⟨o, J2⟩ := inv_frz_exo (a := hp.objs.size + 1) (C := C) (d := some dx) J1 (by rw [upd_ne (Ne.symm hda), upd_same])
      refine ⟨rv, .ref (hp.objs.size + 1), _, J2, rfl, ?_⟩
      have := q1 (hp.objs.size + 1) dx o od hn hda1 hda
      have eh : upd (upd H1 dx (.frz od (exd dx [(f, v)]))) (hp.objs.size + 1) (.frz o (exo (hp.objs.size + 1) C (some dx))) = upd (upd (upd (upd (upd H1 (hp.objs.size + 1) (exo (hp.objs.size + 1) C none)) dx (exd dx [(f, v)])) (hp.objs.size + 1) (exo (hp.objs.size + 1) C (some dx))) dx (.frz od (exd dx [(f, v)]))) (hp.objs.size + 1) (.frz o (exo (hp.objs.size + 1) C (some dx))) := by
        funext b
        by_cases h1 : b = hp.objs.size + 1
        · rw [h1, upd_same, upd_same]
        · rw [upd_ne h1, upd_ne h1]
          by_cases h2 : b = dx
          · rw [h2, upd_same, upd_same]
          · rw [upd_ne h2, upd_ne h2, upd_ne h1, upd_ne h2, upd_ne h1]
      rw [← eh]
      exact this
    | next => exact False.elim hq'
    | brk => exact False.elim hq'
    | cont => exact False.elim hq'
/-- D.__init__(self, ..), D an own class whose __init__ is ValueError's -/
theorem pe_deinit {y : Str} {D : Addr} {e : Expr} {es : List Expr} {ta : TA} {p1 p2 pos : Pos} (hg : Gl X y) (hm : X.mg y = some (.ref D)) (hr : PySem.W.readsIn X.K D (.type "type") = true) (vV : PySem.W.findCls X.K (.ref D) (.type "type") "__init__" = some (.val (.builtin "ValueError.__init__")))
    (hsp : PySem.W.specialIn X.K (.ref D) "__getattribute__" = some (some (.builtin "type.__getattribute__"))) (ha : PA X (e :: es) ta) (hdb : (y == ("__debug__" : Str)) = false)
    (hline : (p2.endLine == pos.line) = true) (hst : (e :: es).all notStar = true) (h30 : (e :: es).length < 30) :
    PE X (.Call (.Attribute (.Name y p1) "__init__" p2) (e :: es) [] pos) (tVeI X.K ta) := by
  refine ⟨fun pins s σ H Q I h => ?_⟩
  have st2 : es.all notStar = true := by rw [List.all_cons, Bool.and_eq_true] at hst; exact hst.2
  have few : ((backTo pos (starEach (e :: es) X.env)).all (fun x => !x.1) && (backToKw pos (keywordEach [] X.env)).all (fun x => x.1.isSome)
      && decide ((e :: es).length + ([] : List Keyword).length + (if ([] : List Keyword).isEmpty then 0 else 1) < 30)) = true := by
    rw [star_all X.env pos hst, Bool.true_and, Bool.and_eq_true]
    exact ⟨rfl, decide_eq_true (by simpa using h30)⟩
  have hform : methodCallForm ((e :: es).length + ([] : List Keyword).length) (backTo pos (starEach (e :: es) X.env)) (backToKw pos (keywordEach [] X.env)) = true := few
  have hpos : methodCallPos true (.Name y p1) X.env p2 pos = pure pos := by unfold methodCallPos; simp [hline]
  rw [arm_eval_Call, base_of (show notSuper (.Name y p1) = true from rfl)]
  refine wpAny_bind (ld_glob I hg hm ?_ hdb)
  refine wpAny_bind (wpAny_standAt ?_)
  unfold methodCall
  rw [hform]
  refine wpAny_bind (wpAny_holding (PySem.W.method_cls I.kIn hsp (PySem.W.cls_value I.kIn hr vV (by decide +kernel) ?_)))
  refine wpAny_bind (wpAny_of_eq hpos ?_)
  show wpAny _ _ (callWith pos (Value.builtin "ValueError.__init__") [] (backTo pos (starEach (e :: es) X.env)) []) _ _ _
  refine PyProof.Rows.callWith_method1 (thn (ha.run pos pins _ σ H _ (I.tok _) h) fun us s1 ⟨vs, H1, I1, r1, a, C, ws, ev, hl, T, ea, q⟩ => ?_) (star_cons X.env hst) (star_plain X.env pos st2)
  subst ev
  cases r1 with
  | @cons _ u0 _ ur ra rw' =>
    obtain rfl : u0 = Value.ref a := ra
    have hlen : ur.length ≤ sizeLine := by
      rw [← Paired.length rw', sizeLine_eq]
      omega
    exact oinit_ok T I1 ea hlen fun s' J => ⟨.non, H1, J, rfl, q⟩
/-- such an __init__ -/
theorem init_fn {P : Program} {w : World} {K : PySem.W.Frag} {mg : Str → Option Value} {base : Heap} {fI D : Addr} {qual pS pV f : Str} {params : Arguments} {scope : Scope} {dV kV doc pm cdv ct oc : Value} {an od : Option Addr} {osl : Array (Option Value)} {p1 p2 p3 p4 p5 p6 p7 p8 p9 p10 : Pos}
    (lk : K.lookup fI = some ⟨oc, od, .func (PySem.W.fnOf "__init__" qual params [.Expr (.Call (.Attribute (.Name "DialError" p1) "__init__" p2) [.Name pS p3, .Name pV p4] [] p5) p6, .Assign [.Attribute (.Name pS p7) f p8] (.Name pV p9) p10] scope dV kV doc pm an cdv ct), osl⟩)
    (hcd : PySem.W.codeIn K cdv qual = true) (S : FnScope [pS, pV] [pS, pV] scope) (hS : scope.names.lookup pS = some .local) (hV : scope.names.lookup pV = some .local)
    (hS1 : (pS == ("__debug__" : Str)) = false) (hS2 : (pS == ("__classdict__" : Str)) = false) (hV1 : (pV == ("__debug__" : Str)) = false) (hV2 : (pV == ("__classdict__" : Str)) = false)
    (hy : scope.names.lookup ("DialError" : Str) = some .globalImplicit) (hm : mg ("DialError" : Str) = some (.ref D)) (hr : PySem.W.readsIn K D (.type "type") = true) (vV : PySem.W.findCls K (.ref D) (.type "type") "__init__" = some (.val (.builtin "ValueError.__init__")))
    (hsp : PySem.W.specialIn K (.ref D) "__getattribute__" = some (some (.builtin "type.__getattribute__"))) (hline : (p2.endLine == p5.line) = true) :
    FnOk P w K mg base (L2.CX P w) 1 fI (PySem.W.fnOf "__init__" qual params [.Expr (.Call (.Attribute (.Name "DialError" p1) "__init__" p2) [.Name pS p3, .Name pV p4] [] p5) p6, .Assign [.Attribute (.Name pS p7) f p8] (.Name pV p9) p10] scope dV kV doc pm an cdv ct) [pS, pV] (spI K f) := by
  refine fn_of (N := [pS, pV]) lk hcd S (fun vs H Q E ⟨a, C, y, e, _⟩ => by rw [e]; rfl) fun A outer s H vs Q E hR hsp' => ?_
  obtain ⟨a, C, v, rfl, ha, T, hno, hq⟩ := hsp'
  refine ⟨_, pss_cons (ps_expr (pe_deinit (D := D) ?_ hm hr vV hsp (pa_cons (pe_var (i := 0) rfl (.inl hS) hS1 hS2) (pa_cons (pe_var (i := 1) rfl (.inl hV) hV1 hV2) pa_nil)) (by decide +kernel) hline rfl (by simp))) (pss_one (ps_ost (pe_var (i := 0) rfl (.inl hS) hS1 hS2) (pe_var (i := 1) rfl (.inl hV) hV1 hV2))), ?_⟩
  · unfold L2.Gl Env.kindOf
    exact hy
  · refine ⟨.ref a, rfl, v, rfl, a, C, [v], rfl, by simp, T, ha, ?_⟩
    exact ⟨v, rfl, .ref a, rfl, a, C, rfl, T, hno, .inl ⟨ha, hq⟩⟩
/-- e.f of such an exception -/
def tFld (K : PySem.W.Frag) (n : Str) (te : TE) : TE := fun σ H Q => te σ H fun x H1 => ∃ (a C : Addr) (v : V), x = .ref a ∧ FxC K C n ∧ ExvAt H1 a C n v ∧ Q v H1
theorem pe_fld {e : Expr} {te : TE} {pos : Pos} {n : Str} (he : PE X e te) (hb : attributeBase e n X.env (eval e X.env) = eval e X.env) : PE X (.Attribute e n pos) (tFld X.K n te) := by
  refine ⟨fun pins s σ H Q I h => ?_⟩
  refine attr_of hb (thn (he.run pins s σ H _ I h) fun u s1 hh => ?_)
  obtain ⟨x, H1, I1, rx, a, C, v, ex, T, ⟨dd, o, od', ea, ed⟩, q⟩ := hh
  subst ex
  obtain rfl : u = Value.ref a := rx
  obtain ⟨ho, ⟨⟨t1, ho2⟩, _⟩⟩ := (show ObjOk X.prog X.w H1 s1.heap a (.frz o (exo a C (some dd))) from I1.hok a _ ea)
  obtain ⟨hod, ⟨⟨mA, hns, hr⟩, _⟩⟩ := (show ObjOk X.prog X.w H1 s1.heap dd (.frz od' (exd dd [(n, v)])) from I1.hok dd _ ed)
  obtain ⟨od, ho3, hl⟩ := lookIn_ns hns
  obtain ⟨u, hu, ru⟩ := RelO.some_of (v := v) (o := mA n) (by have := hr n; rw [lookup_put, if_pos rfl] at this; exact this)
  have J : PySem.W.InstAt s1.heap a { cls := .ref C, dict := some dd, data := .fields #[.ref t1, .none, .none, .none, .bool false, .none] } C (some od) := ⟨ho2, rfl, rfl, ho3⟩
  exact HandSPX.exc_get I1.kIn J T.as.hg T.as.hk T.as.hs (PySem.W.findObj_own T.as.hd T.no rfl (by rw [hl, hu])) (handed_of ru) ⟨v, H1, I1.tok _, ru, q⟩
section
variable {nm : Nm} {N : List Str} {G : Gv} {k : Nat} {X : Cx}
theorem notSuper_base {e : Expr} {n : Str} (h : notSuper e = true) : attributeBase e n X.env (eval e X.env) = eval e X.env := base_of h
theorem ep_mkx {x : Str} {p pos : Pos} (g : Gd nm N G k X) (gl : L2.Gl X x) (hx : x ∈ nm.xs) : EP2 X G (.Call (.Name x p) [] [] pos) (.mkx x) := by
  obtain ⟨C, bmB, B, n1, n2, h1, h2, h3, h4, h5, h6, h7, h8⟩ := (g.xs x hx).ex
  refine .of ((pe_mk0 h4 h5 h1 h3 gl h8).imp fun σ H Q ⟨ι, S, L, so, lo, res⟩ => ?_) fun _ => rfl
  intro a ha
  exact res (ι ++ [a]) _ _ (List.prefix_append _ _) (Xt.new ha) (so.push ha ⟨C, h2, upd_same⟩) ⟨a, by rw [← so.len]; simp, rfl⟩
theorem ep_mkf {x f : Str} {e : Expr} {c : CE} {p pos : Pos} (g : Gd nm N G k X) (gl : L2.Gl X x) (hx : (x, f) ∈ nm.fx) (he : EP2 X G e c) (hst : notStar e = true) : EP2 X G (.Call (.Name x p) [e] [] pos) (.mkf x f c) := by
  obtain ⟨C, fI, fd, pS, pV, h1, h2, h3, h4, h5, h6, h7, h8⟩ := (g.fx (x, f) hx).ex
  refine .of ((pe_mk1 h3.own h3.no h4 h5 h6 (g.room.mono (by omega)) h7 gl h1 he.pe h8 (star_cons X.env (by rw [List.all_cons, hst]; rfl))).imp fun σ H Q ⟨ι, S, L, so, lo, res⟩ => ?_) fun _ => rfl
  obtain ⟨d, S1, e1, res⟩ := Res.step res
  refine TEc.of so lo e1 fun ι1 H1 v p1 x1 so1 r1 => ?_
  intro a d2 o od ha hd hne
  have res := res.mono p1 x1
  have so2 := so1.tup (o := .frz od (exd d2 [(f, v)])) hd
  have ha2 : (upd H1 d2 (.frz od (exd d2 [(f, v)]))) a = none := by rw [upd_ne (Ne.symm hne)]; exact ha
  have x2 : Xt H1 (upd (upd H1 d2 (.frz od (exd d2 [(f, v)]))) a (.frz o (exo a C (some d2)))) := (Xt.new hd).trans (Xt.new ha2)
  refine res (ι1 ++ [a]) _ _ (List.prefix_append _ _) x2 (so2.push ha2 ⟨C, v, h2, h3, ⟨d2, o, od, upd_same, ?_⟩, r1.mono (List.prefix_append _ _) x2 _⟩) ⟨a, by rw [← so1.len]; simp, rfl⟩
  rw [upd_ne hne, upd_same]
theorem ep_fld {f : Str} {e : Expr} {c : CE} {pos : Pos} (he : EP2 X G e c) (hs : notSuper e = true) : EP2 X G (.Attribute e f pos) (.fld c f) := by
  refine .of ((pe_fld he.pe (notSuper_base hs)).imp fun σ H Q ⟨ι, S, L, so, lo, res0⟩ => ?_) fun _ => rfl
  obtain ⟨d, S1, e1, res⟩ := Res.step res0
  clear res0
  refine TEc.of so lo e1 fun ι1 H1 v p1 x1 so1 r1 => ?_
  replace res := res.mono p1 x1
  cases d with
  | ref n =>
    simp only [fldD] at res
    split at res
    · rename_i x g v2 hx
      split at res
      · rename_i hg
        subst hg
        obtain ⟨a, ea, C, w, hC, fx, ev, dr⟩ := so1.at hx
        obtain ⟨a', ea', rfl⟩ := r1
        rw [ea] at ea'
        cases ea'
        exact ⟨a, C, w, rfl, fx, ev, res.val so1 dr⟩
      · exact res.elim
    · exact res.elim
  | _ => exact res.elim
theorem erMk_is {sc : Scope} {f : Expr} {es : List Expr} {kws : List Keyword} {q : Str ⊕ (Str × Str × Expr)} (hsc : X.env.scope = sc) (h : erMk nm sc f es kws = some q) : kws = [] ∧
    ((∃ x p, f = .Name x p ∧ es = [] ∧ q = .inl x ∧ L2.Gl X x ∧ x ∈ nm.xs) ∨ ∃ x p g e, f = .Name x p ∧ es = [e] ∧ q = .inr (x, g, e) ∧ L2.Gl X x ∧ (x, g) ∈ nm.fx ∧ notStar e = true) := by
  unfold erMk at h
  split at h
  · split at h
    · rename_i hc
      cases h
      exact ⟨(by cases kws with | nil => rfl | cons _ _ => cases hc.2.2), .inl ⟨_, _, rfl, rfl, rfl, lk_gl (X := X) hsc hc.1, hc.2.1⟩⟩
    · cases h
  · split at h
    · rename_i x p e hc
      obtain ⟨g, hg, rfl⟩ := Option.map_eq_some_iff.mp h
      refine ⟨(by cases kws with | nil => rfl | cons _ _ => cases hc.2.1), .inr ⟨_, _, g, _, rfl, rfl, rfl, lk_gl (X := X) hsc hc.1, PySem.mem_of_lookup hg, ?_⟩⟩
      have := hc.2.2
      cases e <;> first | rfl | cases this
    · cases h
  · cases h
end
end Mi
namespace Mi
open PySem L2
section
variable {nm : Nm} {N : List Str} {G : Gv} {k : Nat} {X : Cx}
theorem lstG_some {S : Store} {n : Nat} {p : List D × Guard} (h : lstG S n = some p) : ∃ c, p.2 = [(n, c)] ∧ (c = .lst p.1 ∨ c = .frz p.1) ∧ S[n]? = some c := by
  unfold lstG at h
  split at h
  · rename_i ds e
    cases h
    exact ⟨_, rfl, .inl rfl, e⟩
  · rename_i ds e
    cases h
    exact ⟨_, rfl, .inr rfl, e⟩
  · cases h
theorem pi_val {tg it : Expr} {ci : CE} (h : EP2 X G it ci) : PI X tg it (TIc G X.K (.val ci)) := by
  refine ⟨fun pins s σ H R I q => ?_⟩
  obtain ⟨ι, S, L, so, lo, res⟩ := q
  obtain ⟨d, S1, e1, res⟩ := ResI.step res
  obtain ⟨p, hw, rs⟩ := ofO_res res
  clear res
  cases d with
  | tup ds =>
    cases hw
    refine (pi_tup h.pe).run pins s σ H R I (TEc.of so lo e1 fun ι1 H1 v p1 x1 so1 r1 => ?_)
    obtain ⟨a, vs, rfl, sq, dr⟩ := r1
    exact ⟨a, rfl, ⟨vs, sq.sq⟩, rs ι1 H1 _ p1 x1 so1 (wk_tup sq dr)⟩
  | str z =>
    cases hw
    refine (pi_str h.pe).run pins s σ H R I (TEc.of so lo e1 fun ι1 H1 v p1 x1 so1 r1 => ?_)
    exact ⟨z, r1, rs ι1 H1 _ p1 x1 so1 wk_str⟩
  | ref n =>
    obtain ⟨c, eg, hc, ec⟩ := lstG_some (show lstG S1 n = some p from hw)
    refine (pi_list h.pe).run pins s σ H R I (TEc.of so lo e1 fun ι1 H1 v p1 x1 so1 r1 => ?_)
    obtain ⟨a, ea, rfl⟩ := r1
    obtain ⟨vs, sq, _⟩ := lst_at so1 hc ec (List.prefix_refl _) ea
    refine ⟨a, rfl, ⟨vs, sq⟩, rs ι1 H1 _ p1 x1 so1 ?_⟩
    rw [eg]
    exact wk_list hc ea
  | _ => cases hw
theorem star1 {e : Expr} (env : Env) (h : notStar e = true) : starEach [e] env = [(false, eval e env)] := star_cons env (by simp [h])
theorem star2 {e e2 : Expr} (env : Env) (h : notStar e = true) (h2 : notStar e2 = true) : starEach [e, e2] env = [(false, eval e env), (false, eval e2 env)] := by
  rw [star_cons env (by simp [h, h2]), star1 env h2]
theorem pi_enu {elts : List Expr} {kk : Nat} {tpos np pos : Pos} {a : Expr} {ca : CE} (h : EP2 X G a ca) (hs : notStar a = true) (hg : L2.Gl X "enumerate") (hm : X.mg "enumerate" = none) : PI X (.Tuple elts kk tpos) (.Call (.Name "enumerate" np) [a] [] pos) (TIc G X.K (.enu ca)) := by
  refine ⟨fun pins s σ H R I q => ?_⟩
  obtain ⟨ι, S, L, so, lo, res⟩ := q
  obtain ⟨d, S1, e1, res⟩ := ResI.step res
  obtain ⟨p, hp, rs⟩ := ofO_res res
  clear res
  obtain ⟨p0, hw, rfl⟩ := Option.map_eq_some_iff.mp hp
  have pa : PA X [a] (tCons (TEc G X.K ca) tNil) := pa_cons h.pe pa_nil (star1 X.env hs)
  cases d with
  | tup ds =>
    cases hw
    refine (pi_enumT hg hm pa (star1 X.env hs)).run pins s σ H R I (TEc.of so lo e1 fun ι1 H1 v p1 x1 so1 r1 => ?_)
    obtain ⟨b, vs, rfl, sq, dr⟩ := r1
    exact ⟨b, vs, rfl, sq.sq, rs ι1 H1 _ p1 x1 so1 (wk_enuT sq dr)⟩
  | ref n =>
    obtain ⟨c, eg, hc, ec⟩ := lstG_some (show lstG S1 n = some p0 from hw)
    refine (pi_enum hg hm pa (star1 X.env hs)).run pins s σ H R I (TEc.of so lo e1 fun ι1 H1 v p1 x1 so1 r1 => ?_)
    obtain ⟨b, ea, rfl⟩ := r1
    obtain ⟨vs, sq, _⟩ := lst_at so1 hc ec (List.prefix_refl _) ea
    refine ⟨b, vs, rfl, sq, rs ι1 H1 _ p1 x1 so1 ?_⟩
    show Wk X.K ι1 H1 (Ite X.K b) (enuFrom 0 p0.1) p0.2
    rw [eg]
    exact wk_enuL hc ea
  | _ => cases hw
theorem pi_zip {elts : List Expr} {kk : Nat} {tpos np pos : Pos} {a b : Expr} {ca cb : CE} (h : EP2 X G a ca) (h2 : EP2 X G b cb) (hs : notStar a = true) (hs2 : notStar b = true) (hg : L2.Gl X "zip") (hm : X.mg "zip" = none) : PI X (.Tuple elts kk tpos) (.Call (.Name "zip" np) [a, b] [] pos) (TIc G X.K (.zip ca cb)) := by
  refine ⟨fun pins s σ H R I q => ?_⟩
  obtain ⟨ι, S, L, so, lo, res⟩ := q
  obtain ⟨d, S1, e1, res⟩ := ResI.step res
  obtain ⟨d2, S2, e2, res⟩ := ResI.step res
  obtain ⟨p, hp, rs⟩ := ofO_res res
  clear res
  have pa : PA X [a, b] (tCons (TEc G X.K ca) (tCons (TEc G X.K cb) tNil)) := pa_cons h.pe (pa_cons h2.pe pa_nil (star1 X.env hs2)) (star_cons X.env (by simp [hs, hs2]))
  refine (RZ.pi_zipA hg hm pa (star_cons X.env (by simp [hs, hs2])) (star_plain X.env pos (by simp [hs2]))).run pins s σ H R I ?_
  refine TEc.of so lo e1 fun ι1 H1 v p1 x1 so1 r1 => TEc.of so1 (lo.mono p1 x1) e2 fun ι2 H2 v2 p2 x2 so2 r2 => ?_
  have r1 := r1.mono p2 x2
  have rs := fun J w => rs ι2 H2 J (p1.trans p2) (x1.trans x2) so2 w
  cases d with
  | tup ds =>
    cases d2 with
    | tup es =>
      cases hp
      obtain ⟨a1, vs, rfl, sq, dr⟩ := r1
      obtain ⟨b1, us, rfl, sq2, dr2⟩ := r2
      exact ⟨a1, b1, vs, us, rfl, .inr ⟨sq.sq, sq2.sq, rs _ (wk_zipT sq dr sq2 dr2)⟩⟩
    | _ => cases hp
  | ref n =>
    cases d2 with
    | ref m =>
      simp only [zipD] at hp
      split at hp
      · rename_i pn pm h3 h4
        cases hp
        obtain ⟨c, eg, hc, ec⟩ := lstG_some h3
        obtain ⟨c2, eg2, hc2, ec2⟩ := lstG_some h4
        obtain ⟨a1, ea, rfl⟩ := r1
        obtain ⟨b1, eb, rfl⟩ := r2
        obtain ⟨vs, sq, _⟩ := lst_at so2 hc ec (List.prefix_refl _) ea
        obtain ⟨us, sq2, _⟩ := lst_at so2 hc2 ec2 (List.prefix_refl _) eb
        refine ⟨a1, b1, vs, us, rfl, .inl ⟨sq, sq2, rs _ ?_⟩⟩
        show Wk X.K ι2 H2 _ (zipL pn.1 pm.1) (pn.2 ++ pm.2)
        rw [eg, eg2]
        exact wk_zipL hc hc2 ea eb
      · cases hp
    | _ => cases hp
  | _ => cases hp
end
end Mi
namespace Mi
open PySem L2
section
variable {nm : Nm} {N : List Str} {G : Gv} {k : Nat} {X : Cx}
theorem int_dr {K : PySem.W.Frag} {ι : List Addr} {H : Hp} {i : Int} {v : V} (h : DR K ι H (.int i) v) : v = .int i := h
theorem pi_rng1 {tg a : Expr} {ca : CE} {np pos : Pos} (h : EP2 X G a ca) (hs : notStar a = true) (hg : L2.Gl X "range") (hm : X.mg "range" = none) : PI X tg (.Call (.Name "range" np) [a] [] pos) (TIc G X.K (.rng (caOf [ca]))) := by
  have pa : PA X [a] (tCons (TEc G X.K ca) tNil) := pa_cons h.pe pa_nil (star1 X.env hs)
  refine ⟨fun pins s σ H RR I q => (pi_range1 hg hm pa (star1 X.env hs)).run pins s σ H RR I ?_⟩
  obtain ⟨ι, S, L, so, lo, res⟩ := q
  obtain ⟨ds, S1, e1, res⟩ := ResI.step res
  obtain ⟨p, hp, rs⟩ := ofO_res res
  clear res
  have e1 : ((evE G ca L S).bind fun d S1 => (R.ok [] S1).bind fun ds S2 => .ok (d :: ds) S2) = .ok ds S1 := e1
  cases e2 : evE G ca L S with
  | bad => rw [e2] at e1; cases e1
  | exc _ _ => rw [e2] at e1; cases e1
  | ok d S2 =>
    rw [e2, R.bind_ok, R.bind_ok] at e1
    cases e1
    refine TEc.of so lo e2 fun ι1 H1 v p1 x1 so1 r1 => ?_
    obtain ⟨l, hl, rfl⟩ := Option.map_eq_some_iff.mp hp
    cases d with
    | int j =>
      simp only [rngD] at hl
      split at hl
      · rename_i hb
        cases hl
        have r1 := int_dr r1
        subst r1
        refine ⟨j, rfl, hb.1, hb.2, rs ι1 H1 _ p1 x1 so1 ?_⟩
        have := wk_rng (K := X.K) (ι := ι1) (H := H1) (lo := 0) (n := j.toNat)
        simpa using this
      · cases hl
    | _ => cases hl
theorem pi_rng2 {tg a b : Expr} {ca cb : CE} {np pos : Pos} (h : EP2 X G a ca) (h2 : EP2 X G b cb) (hs : notStar a = true) (hs2 : notStar b = true) (hg : L2.Gl X "range") (hm : X.mg "range" = none) : PI X tg (.Call (.Name "range" np) [a, b] [] pos) (TIc G X.K (.rng (caOf [ca, cb]))) := by
  have pa : PA X [a, b] (tCons (TEc G X.K ca) (tCons (TEc G X.K cb) tNil)) := pa_cons h.pe (pa_cons h2.pe pa_nil (star1 X.env hs2)) (star_cons X.env (by simp [hs, hs2]))
  refine ⟨fun pins s σ H RR I q => (pi_range2 hg hm pa (star2 X.env hs hs2) (star1 X.env hs2)).run pins s σ H RR I ?_⟩
  obtain ⟨ι, S, L, so, lo, res⟩ := q
  obtain ⟨ds, S1, e1, res⟩ := ResI.step res
  obtain ⟨p, hp, rs⟩ := ofO_res res
  clear res
  have e1 : ((evE G ca L S).bind fun d S1 => ((evE G cb L S1).bind fun d S1 => (R.ok [] S1).bind fun ds S2 => .ok (d :: ds) S2).bind fun ds S2 => .ok (d :: ds) S2) = .ok ds S1 := e1
  cases e2 : evE G ca L S with
  | bad => rw [e2] at e1; cases e1
  | exc _ _ => rw [e2] at e1; cases e1
  | ok d S2 =>
    rw [e2, R.bind_ok] at e1
    cases e3 : evE G cb L S2 with
    | bad => rw [e3] at e1; cases e1
    | exc _ _ => rw [e3] at e1; cases e1
    | ok d' S3 =>
      rw [e3, R.bind_ok, R.bind_ok, R.bind_ok] at e1
      cases e1
      refine TEc.of so lo e2 fun ι1 H1 v p1 x1 so1 r1 => TEc.of so1 (lo.mono p1 x1) e3 fun ι2 H2 v2 p2 x2 so2 r2 => ?_
      obtain ⟨l, hl, rfl⟩ := Option.map_eq_some_iff.mp hp
      cases d with
      | int i =>
        cases d' with
        | int j =>
          simp only [rngD] at hl
          split at hl
          · rename_i hb
            cases hl
            have r1 := int_dr r1
            have r2 := int_dr r2
            subst r1 r2
            exact ⟨i, j, rfl, hb, rs ι2 H2 _ (p1.trans p2) (x1.trans x2) so2 wk_rng⟩
          · cases hl
        | _ => cases hl
      | _ => cases hl
theorem val_of {sc : Scope} {tg it : Expr} {n : Nat} {ci : CI} (hp : ∀ e c, erE nm N n sc e = some c → EP2 X G e c) (h : erVal (erE nm N n sc) it = some ci) : PI X tg it (TIc G X.K ci) ∧ notSet it = true := by
  unfold erVal at h
  split at h
  · obtain ⟨c, hc, rfl⟩ := Option.map_eq_some_iff.mp h
    exact ⟨pi_val (hp it c hc), ‹_›⟩
  · cases h
theorem tup_of {tg : Expr} (h : isTup tg = true) : ∃ es k p, tg = .Tuple es k p := by
  cases tg with
  | Tuple es k p => exact ⟨es, k, p, rfl⟩
  | _ => cases h
theorem pi_of {sc : Scope} {tg it : Expr} {n : Nat} {ci : CI} (g : Gd nm N G k X) (hsc : X.env.scope = sc) (hp : ∀ e c, erE nm N n sc e = some c → EP2 X G e c) (h : erI (erE nm N n sc) nm sc tg it = some ci) : PI X tg it (TIc G X.K ci) ∧ notSet it = true := by
  unfold erI at h
  split at h
  · rename_i x np es kws pos
    split at h
    · rename_i hc
      obtain ⟨hg, hb, hk⟩ := hc
      have hk : kws = [] := by cases kws with
        | nil => rfl
        | cons _ _ => cases hk
      subst hk
      have gl := lk_gl (X := X) hsc hg
      have hm := g.bls x hb
      split at h
      · rename_i ex
        subst ex
        split at h
        · rename_i a
          obtain ⟨ca, ha, rfl⟩ := Option.map_eq_some_iff.mp h
          exact ⟨pi_rng1 (hp a ca ha) (erE_star ha) gl hm, rfl⟩
        · rename_i a b
          obtain ⟨ca, ha, h⟩ := Option.bind_eq_some_iff.mp h
          obtain ⟨cb, hb2, rfl⟩ := Option.map_eq_some_iff.mp h
          exact ⟨pi_rng2 (hp a ca ha) (hp b cb hb2) (erE_star ha) (erE_star hb2) gl hm, rfl⟩
        · cases h
      · split at h
        · rename_i ex
          subst ex
          split at h
          · rename_i a
            split at h
            · rename_i ht
              obtain ⟨es, kk, tp, rfl⟩ := tup_of ht
              obtain ⟨ca, ha, rfl⟩ := Option.map_eq_some_iff.mp h
              exact ⟨pi_enu (hp a ca ha) (erE_star ha) gl hm, rfl⟩
            · cases h
          · cases h
        · split at h
          · rename_i ex
            subst ex
            split at h
            · rename_i a b
              split at h
              · rename_i ht
                obtain ⟨es, kk, tp, rfl⟩ := tup_of ht
                obtain ⟨ca, ha, h⟩ := Option.bind_eq_some_iff.mp h
                obtain ⟨cb, hb2, rfl⟩ := Option.map_eq_some_iff.mp h
                exact ⟨pi_zip (hp a ca ha) (hp b cb hb2) (erE_star ha) (erE_star hb2) gl hm, rfl⟩
              · cases h
            · cases h
          · exact val_of hp h
    · exact val_of hp h
  · exact val_of hp h
theorem fold_of {it : Expr} (h : notSet it = true) : ∀ x, foldedSetIterable it X.env x = pure x := by
  intro x
  cases it <;> first | rfl | cases h
/-- a comprehension's turn -/
noncomputable def lcF (G : Gv) (t : CT) (c e : CE) (L : Lcs) (m : Nat) : D → Store → R Unit := fun d S2 => (ofO (asgT t d S2 L) S2).bind fun L2 S3 => (evE G c L2 S3).bind fun x S4 => ifB x
  ((evE G e L2 S4).bind fun y S5 => match S5[m]? with
    | some (.lst acc) => if acc.length < sizeLine then .ok () (S5.set m (.lst (acc ++ [y]))) else .bad
    | _ => .bad) (.ok () S4)
theorem evE_lc {vs : List Nat} {t : CT} {it : CI} {c e : CE} {L : Lcs} {S : Store} : evE G (.lc vs t it c e) L S = ((evI G it L S).bind fun p S1 => (lcLoop (lcF G t c e (wipeL L vs) S1.length) p.2 p.1 (S1 ++ [.lst []])).bind fun _ S9 => .ok (.ref S1.length) S9).gc S := rfl
theorem lc_go {t : CT} {ci : CI} {c e : CE} {vs : List Nat} (subs : ∀ i ∈ t.ixs, i ∈ vs) {σ : St} {H : Hp} {Q : VK} (q : TEc G X.K (.lc vs t ci c e) σ H Q) : tLc (TIc G X.K ci) (TGc X.K t) (TTc G X.K c) (TEc G X.K e) vs σ H Q := by
  obtain ⟨ι, S, L, so, lo, res⟩ := q
  rw [evE_lc] at res
  obtain ⟨p, S1, e1, res⟩ := Res.step (Res.ungc so res)
  obtain ⟨items, gd⟩ := p
  refine ⟨ι, S, L, so, lo, ?_⟩
  rw [e1]
  refine fun ι1 H1 J p1 x1 so1 wk D hD => ?_
  have lo1 := lo.mono p1 x1
  have res := res.mono p1 x1
  have x0 := Xt.new (o := .lst []) hD
  have nw := so1.push hD (o := .lst []) (c := .lst []) ⟨[], upd_same, rfl⟩
  have pre : ι1 <+: ι1 ++ [D] := List.prefix_append ..
  have eD : (ι1 ++ [D])[S1.length]? = some D := by simp [so1.len]
  have res := res.mono pre x0
  refine ⟨fun i m H' => m = items.length - i ∧ i ≤ items.length ∧ ∃ ι' S', (ι1 ++ [D]) <+: ι' ∧ Xt (upd H1 D (.lst [])) H' ∧ Sok X.K ι' H' S' ∧
    Res X.K ι' H' ((lcLoop (lcF G t c e (wipeL L vs) S1.length) gd (items.drop i) S').bind fun _ S9 => .ok (.ref S1.length) S9) Q, ⟨items.length, by simp, Nat.zero_le _, ι1 ++ [D], S1 ++ [Cell.lst []], List.prefix_refl _, Xt.refl _, nw, by rw [List.drop_zero]; exact res⟩, ?_⟩
  rintro i m H' ⟨rfl, hle, ι', S', pw, xw, sw, rw'⟩
  have wkr := wk.run ι' H' S' i (pre.trans pw) (x0.trans xw) sw
  by_cases hlt : i < items.length
  · have hd : items.drop i = items[i] :: items.drop (i + 1) := List.drop_eq_getElem_cons hlt
    rw [hd] at rw'
    simp only [lcLoop] at rw'
    by_cases hgd : Gok gd S'
    · rw [if_pos hgd] at rw'
      obtain ⟨hgo, hy⟩ := (wkr hgd).2 items[i] (List.getElem?_eq_getElem hlt)
      refine .inr ⟨hgo, fun H3 => ∃ ι3 S3, (ι1 ++ [D]) <+: ι3 ∧ Xt (upd H1 D (.lst [])) H3 ∧ Sok X.K ι3 H3 S3 ∧
        Res X.K ι3 H3 ((lcLoop (lcF G t c e (wipeL L vs) S1.length) gd (items.drop (i + 1)) S3).bind fun _ S9 => .ok (.ref S1.length) S9) Q, fun H3 ⟨ι3, S3, a1, a2, a3, a4⟩ => ⟨items.length - (i + 1), by omega, rfl, hlt, ι3, S3, a1, a2, a3, a4⟩, fun x H2 y => ?_⟩
      obtain ⟨x2, s2, r2⟩ := hy x H2 y
      have rw2 := rw'.mono (List.prefix_refl ι') x2
      -- the turn
      obtain ⟨_, S9, e9, rw2⟩ := Res.step rw2
      cases e9' : lcF G t c e (wipeL L vs) S1.length items[i] S' with
      | bad => rw [e9'] at e9; cases e9
      | exc _ _ => rw [e9'] at e9; cases e9
      | ok uu Sf =>
        rw [e9', R.bind_ok] at e9
        have e9' : ((ofO (asgT t items[i] S' (wipeL L vs)) S').bind fun L2 S3 => (evE G c L2 S3).bind fun x S4 => ifB x
          ((evE G e L2 S4).bind fun y S5 => match S5[S1.length]? with
            | some (.lst acc) => if acc.length < sizeLine then .ok () (S5.set S1.length (.lst (acc ++ [y]))) else .bad
            | _ => .bad) (.ok () S4)) = .ok uu Sf := e9'
        cases ea : asgT t items[i] S' (wipeL L vs) with
        | none => rw [ea] at e9'; cases e9'
        | some L2 =>
          rw [ea] at e9'
          have e9' : ((evE G c L2 S').bind fun x S4 => ifB x
            ((evE G e L2 S4).bind fun y S5 => match S5[S1.length]? with
              | some (.lst acc) => if acc.length < sizeLine then .ok () (S5.set S1.length (.lst (acc ++ [y]))) else .bad
              | _ => .bad) (.ok () S4)) = .ok uu Sf := e9'
          refine ⟨ι', S', wipeL L vs, items[i], L2, s2, (((lo1.mono pre x0).mono pw xw).mono (List.prefix_refl _) x2).wipe vs, r2, ea, fun σ2 lo2 sm => ⟨sm.wipe subs, ?_⟩⟩
          cases ec : evE G c L2 S' with
          | bad => rw [ec] at e9'; cases e9'
          | exc _ _ => rw [ec] at e9'; cases e9'
          | ok bx S4 =>
            rw [ec, R.bind_ok] at e9'
            cases bx with
            | bl b =>
              rw [ifB_bl] at e9'
              refine TTc.of s2 lo2 ec fun ι4 H4 p4 x4 so4 => ?_
              have done : ∀ {ι5 : List Addr} {H5 : Hp}, ι4 <+: ι5 → Xt H4 H5 → Sok X.K ι5 H5 Sf → ∃ ι3 S3, (ι1 ++ [D]) <+: ι3 ∧ Xt (upd H1 D (.lst [])) H5 ∧ Sok X.K ι3 H5 S3 ∧
                  Res X.K ι3 H5 ((lcLoop (lcF G t c e (wipeL L vs) S1.length) gd (items.drop (i + 1)) S3).bind fun _ S9 => .ok (.ref S1.length) S9) Q := by
                intro ι5 H5 p5 x5 so5
                refine ⟨ι5, Sf, pw.trans (p4.trans p5), xw.trans (x2.trans (x4.trans x5)), so5, ?_⟩
                rw [e9]
                exact rw2.mono (p4.trans p5) (x4.trans x5)
              cases b with
              | false =>
                rw [if_neg Bool.false_ne_true] at e9' ⊢
                cases e9'
                exact done (List.prefix_refl _) (Xt.refl _) so4
              | true =>
                rw [if_pos rfl] at e9' ⊢
                cases ee : evE G e L2 S4 with
                | bad => rw [ee] at e9'; cases e9'
                | exc _ _ => rw [ee] at e9'; cases e9'
                | ok y S5 =>
                  rw [ee, R.bind_ok] at e9'
                  refine TEc.of so4 (lo2.mono p4 x4) ee fun ι5 H5 v5 p5 x5 so5 r5 => ?_
                  split at e9'
                  · rename_i acc hacc
                    split at e9'
                    · rename_i hz
                      cases e9'
                      have eD5 : ι5[S1.length]? = some D := pre_get (pw.trans (p4.trans p5)) eD
                      obtain ⟨a', ea', ck⟩ := so5.at hacc
                      rw [eD5] at ea'; cases ea'
                      obtain ⟨ws, hw, dw⟩ := ck
                      obtain ⟨s6, x6⟩ := so5.put (o := .lst (ws ++ [v5])) (c' := .lst (acc ++ [y])) eD5 hacc rfl fun x => ⟨_, upd_same, (dw.mono (List.prefix_refl _) x).append (DRs.one (r5.mono (List.prefix_refl _) x _))⟩
                      exact ⟨ws, hw, by rw [dw.length]; exact hz, done p5 (x5.trans x6) s6⟩
                    · cases e9'
                  · cases e9'
            | _ => cases e9'
    · rw [if_neg hgd] at rw'
      exact rw'.elim
  · have e : i = items.length := by omega
    subst e
    rw [List.drop_length] at rw'
    simp only [lcLoop] at rw'
    by_cases hgd : Gok gd S'
    · rw [if_pos hgd] at rw'
      exact .inl ⟨(wkr hgd).1 (Nat.le_refl _), rw'.val sw ⟨D, pre_get pw eD, rfl⟩⟩
    · rw [if_neg hgd] at rw'
      exact rw'.elim
/-- a dict comprehension's turn -/
noncomputable def dcF (G : Gv) (t : CT) (c ck e : CE) (L : Lcs) (m : Nat) : D → Store → R Unit := fun d S2 => (ofO (asgT t d S2 L) S2).bind fun L2 S3 => (evE G c L2 S3).bind fun x S4 => ifB x
  ((evE G ck L2 S4).bind fun q S5 => (evE G e L2 S5).bind fun y S6 => match keyOf q, S6[m]? with
    | some q, some (.dK kvs) => if kvs.length < sizeLine then .ok () (S6.set m (.dK (putD kvs q y))) else .bad
    | _, _ => .bad) (.ok () S4)
theorem evE_dc {vs : List Nat} {t : CT} {it : CI} {c ck e : CE} {L : Lcs} {S : Store} : evE G (.dc vs t it c ck e) L S = ((evI G it L S).bind fun p S1 => (lcLoop (dcF G t c ck e (wipeL L vs) S1.length) p.2 p.1 (S1 ++ [.dK []])).bind fun _ S9 => .ok (.ref S1.length) S9).gc S := rfl
theorem dc_go {t : CT} {ci : CI} {c ck e : CE} {vs : List Nat} (subs : ∀ i ∈ t.ixs, i ∈ vs) {σ : St} {H : Hp} {Q : VK} (q : TEc G X.K (.dc vs t ci c ck e) σ H Q) : tDc (TIc G X.K ci) (TGc X.K t) (TTc G X.K c) (TEc G X.K ck) (TEc G X.K e) vs σ H Q := by
  obtain ⟨ι, S, L, so, lo, res⟩ := q
  rw [evE_dc] at res
  obtain ⟨p, S1, e1, res⟩ := Res.step (Res.ungc so res)
  obtain ⟨items, gd⟩ := p
  refine ⟨ι, S, L, so, lo, ?_⟩
  rw [e1]
  refine fun ι1 H1 J p1 x1 so1 wk D hD => ?_
  have lo1 := lo.mono p1 x1
  have res := res.mono p1 x1
  have x0 := Xt.new (o := .dK []) hD
  have nw := so1.push hD (o := .dK []) (c := .dK []) ⟨[], upd_same, rfl, rfl⟩
  have pre : ι1 <+: ι1 ++ [D] := List.prefix_append ..
  have eD : (ι1 ++ [D])[S1.length]? = some D := by simp [so1.len]
  have res := res.mono pre x0
  refine ⟨fun i m H' => m = items.length - i ∧ i ≤ items.length ∧ ∃ ι' S', (ι1 ++ [D]) <+: ι' ∧ Xt (upd H1 D (.dK [])) H' ∧ Sok X.K ι' H' S' ∧
    Res X.K ι' H' ((lcLoop (dcF G t c ck e (wipeL L vs) S1.length) gd (items.drop i) S').bind fun _ S9 => .ok (.ref S1.length) S9) Q, ⟨items.length, by simp, Nat.zero_le _, ι1 ++ [D], S1 ++ [Cell.dK []], List.prefix_refl _, Xt.refl _, nw, by rw [List.drop_zero]; exact res⟩, ?_⟩
  rintro i m H' ⟨rfl, hle, ι', S', pw, xw, sw, rw'⟩
  have wkr := wk.run ι' H' S' i (pre.trans pw) (x0.trans xw) sw
  by_cases hlt : i < items.length
  · have hd : items.drop i = items[i] :: items.drop (i + 1) := List.drop_eq_getElem_cons hlt
    rw [hd] at rw'
    simp only [lcLoop] at rw'
    by_cases hgd : Gok gd S'
    · rw [if_pos hgd] at rw'
      obtain ⟨hgo, hy⟩ := (wkr hgd).2 items[i] (List.getElem?_eq_getElem hlt)
      refine .inr ⟨hgo, fun H3 => ∃ ι3 S3, (ι1 ++ [D]) <+: ι3 ∧ Xt (upd H1 D (.dK [])) H3 ∧ Sok X.K ι3 H3 S3 ∧
        Res X.K ι3 H3 ((lcLoop (dcF G t c ck e (wipeL L vs) S1.length) gd (items.drop (i + 1)) S3).bind fun _ S9 => .ok (.ref S1.length) S9) Q, fun H3 ⟨ι3, S3, a1, a2, a3, a4⟩ => ⟨items.length - (i + 1), by omega, rfl, hlt, ι3, S3, a1, a2, a3, a4⟩, fun x H2 y => ?_⟩
      obtain ⟨x2, s2, r2⟩ := hy x H2 y
      have rw2 := rw'.mono (List.prefix_refl ι') x2
      obtain ⟨_, S9, e9, rw2⟩ := Res.step rw2
      cases e9' : dcF G t c ck e (wipeL L vs) S1.length items[i] S' with
      | bad => rw [e9'] at e9; cases e9
      | exc _ _ => rw [e9'] at e9; cases e9
      | ok uu Sf =>
        rw [e9', R.bind_ok] at e9
        unfold dcF at e9'
        cases ea : asgT t items[i] S' (wipeL L vs) with
        | none => rw [ea] at e9'; cases e9'
        | some L2 =>
          rw [ea] at e9'
          replace e9' : ((evE G c L2 S').bind fun x S4 => ifB x
            ((evE G ck L2 S4).bind fun q S5 => (evE G e L2 S5).bind fun y S6 => match keyOf q, S6[S1.length]? with
              | some q, some (.dK kvs) => if kvs.length < sizeLine then .ok () (S6.set S1.length (.dK (putD kvs q y))) else .bad
              | _, _ => .bad) (.ok () S4)) = .ok uu Sf := e9'
          refine ⟨ι', S', wipeL L vs, items[i], L2, s2, (((lo1.mono pre x0).mono pw xw).mono (List.prefix_refl _) x2).wipe vs, r2, ea, fun σ2 lo2 sm => ⟨sm.wipe subs, ?_⟩⟩
          cases ec : evE G c L2 S' with
          | bad => rw [ec] at e9'; cases e9'
          | exc _ _ => rw [ec] at e9'; cases e9'
          | ok bx S4 =>
            rw [ec, R.bind_ok] at e9'
            cases bx with
            | bl b =>
              rw [ifB_bl] at e9'
              refine TTc.of s2 lo2 ec fun ι4 H4 p4 x4 so4 => ?_
              have done : ∀ {ι5 : List Addr} {H5 : Hp}, ι4 <+: ι5 → Xt H4 H5 → Sok X.K ι5 H5 Sf → ∃ ι3 S3, (ι1 ++ [D]) <+: ι3 ∧ Xt (upd H1 D (.dK [])) H5 ∧ Sok X.K ι3 H5 S3 ∧
                  Res X.K ι3 H5 ((lcLoop (dcF G t c ck e (wipeL L vs) S1.length) gd (items.drop (i + 1)) S3).bind fun _ S9 => .ok (.ref S1.length) S9) Q := by
                intro ι5 H5 p5 x5 so5
                refine ⟨ι5, Sf, pw.trans (p4.trans p5), xw.trans (x2.trans (x4.trans x5)), so5, ?_⟩
                rw [e9]
                exact rw2.mono (p4.trans p5) (x4.trans x5)
              cases b with
              | false =>
                rw [if_neg Bool.false_ne_true] at e9' ⊢
                cases e9'
                exact done (List.prefix_refl _) (Xt.refl _) so4
              | true =>
                rw [if_pos rfl] at e9' ⊢
                cases ek : evE G ck L2 S4 with
                | bad => rw [ek] at e9'; cases e9'
                | exc _ _ => rw [ek] at e9'; cases e9'
                | ok kd S5 =>
                  rw [ek, R.bind_ok] at e9'
                  cases ee : evE G e L2 S5 with
                  | bad => rw [ee] at e9'; cases e9'
                  | exc _ _ => rw [ee] at e9'; cases e9'
                  | ok y S6 =>
                    rw [ee, R.bind_ok] at e9'
                    refine TEc.of so4 (lo2.mono p4 x4) ek fun ι5 H5 v5 p5 x5 so5 r5 => ?_
                    refine TEc.of so5 ((lo2.mono p4 x4).mono p5 x5) ee fun ι6 H6 v6 p6 x6 so6 r6 => ?_
                    split at e9'
                    · rename_i kk kvs hk hacc
                      split at e9'
                      · rename_i hz
                        cases e9'
                        have eD6 : ι6[S1.length]? = some D := pre_get (pw.trans (p4.trans (p5.trans p6))) eD
                        obtain ⟨a', ea', cq⟩ := so6.at hacc
                        rw [eD6] at ea'; cases ea'
                        obtain ⟨ws, hw, kr⟩ := cq
                        obtain ⟨s7, x7⟩ := so6.put (o := .dK (putK ws kk v6)) (c' := .dK (putD kvs kk y)) eD6 hacc rfl fun x => ⟨_, upd_same, (KR.mono kr (List.prefix_refl _) x).put kk (r6.mono (List.prefix_refl _) x _)⟩
                        exact ⟨ws, kk, keyOf_kV hk r5, hw, by rw [kr.length]; exact hz, done (p5.trans p6) (x5.trans (x6.trans x7)) s7⟩
                      · cases e9'
                    · cases e9'
            | _ => cases e9'
    · rw [if_neg hgd] at rw'
      exact rw'.elim
  · have e : i = items.length := by omega
    subst e
    rw [List.drop_length] at rw'
    simp only [lcLoop] at rw'
    by_cases hgd : Gok gd S'
    · rw [if_pos hgd] at rw'
      exact .inl ⟨(wkr hgd).1 (Nat.le_refl _), rw'.val sw ⟨D, pre_get pw eD, rfl⟩⟩
    · rw [if_neg hgd] at rw'
      exact rw'.elim
theorem sub_of {t : CT} {vs : List Nat} (sub : subL t.ixs vs = true) : ∀ i ∈ t.ixs, i ∈ vs := by
  intro i hi
  unfold subL at sub
  exact of_decide_eq_true (List.all_eq_true.mp sub i hi)
/-- a comprehension's parts -/
structure LcP (X : Cx) (G : Gv) (N : List Str) (elt tg it : Expr) (ifs : List Expr) (scope : Scope) (t : CT) (ci : CI) (c e : CE) : Prop where
  ok : BlkOk X.N X.env.scope scope (ownOf N scope)
  hi : PI X tg it (TIc G X.K ci)
  hns : notSet it = true
  hg : ∀ (s : Shared) (H : Hp) (C : Addr) (cl : List (Str × Addr)) (fp : List Addr), PG (X.blk s H scope (compEnvC scope cl C X.env) fp) tg (TGc X.K t)
  ht : ∀ (s : Shared) (H : Hp) (C : Addr) (cl : List (Str × Addr)) (fp : List Addr), PTs (X.blk s H scope (compEnvC scope cl C X.env) fp) ifs (TTc G X.K c)
  he : ∀ (s : Shared) (H : Hp) (C : Addr) (cl : List (Str × Addr)) (fp : List Addr), PE (X.blk s H scope (compEnvC scope cl C X.env) fp) elt (TEc G X.K e)
  sub : ∀ i ∈ t.ixs, i ∈ (ownOf N scope).map (·.2)
theorem ep_lc {elt tg it : Expr} {ifs : List Expr} {scope : Scope} {pos : Pos} {t : CT} {ci : CI} {c e : CE} (g : Gd nm N G k X) (P : LcP X G N elt tg it ifs scope t ci c e) : EP2 X G (.ListComp elt [⟨tg, it, ifs, 0⟩] scope pos) (.lc ((ownOf N scope).map (·.2)) t ci c e) :=
  .of ((pe_lc g.cg.calm (by rw [g.n]; exact g.nd) P.hi P.ok P.hg P.ht P.he (fold_of P.hns)).imp fun σ H Q q => lc_go P.sub q) fun _ => rfl
end
end Mi
namespace Mi
open PySem L2
theorem pts_imp {X : Cx} {e : List Expr} {t t' : TT} (h : PTs X e t) (i : ∀ σ H Q, t' σ H Q → t σ H Q) : PTs X e t' := ⟨fun pins s σ H Q I q => h.run pins s σ H Q I (i σ H Q q)⟩
/-- the parts of an erased comprehension -/
theorem lc_parts {nm : Nm} {N : List Str} {G : Gv} {k : Nat} {n : Nat} (ih : ∀ (X : Cx) (sc : Scope), X.env.scope = sc → Gd nm N G k X → ∀ (e : Expr) (c : CE), erE nm N n sc e = some c → EP2 X G e c) {X : Cx} {sc : Scope} (hsc : X.env.scope = sc) (g : Gd nm N G k X)
    {elt : Expr} {gs : List Comprehension} {scope : Scope} {c : CE} (h : erLc nm N (erE nm N n) n sc elt gs scope = some c) :
    ∃ tg it ifs t ci cc ce, gs = [⟨tg, it, ifs, 0⟩] ∧ c = .lc ((ownOf N scope).map (·.2)) t ci cc ce ∧ LcP X G N elt tg it ifs scope t ci cc ce := by
  unfold erLc at h
  split at h
  · rename_i tg it ifs ia
    split at h
    · rename_i hb
      obtain ⟨h0, hb⟩ := hb
      subst h0
      obtain ⟨t, ht, h⟩ := Option.bind_eq_some_iff.mp h
      obtain ⟨ci, hci, h⟩ := Option.bind_eq_some_iff.mp h
      split at h
      · rename_i hsub
        obtain ⟨cc, hcc, h⟩ := Option.bind_eq_some_iff.mp h
        obtain ⟨ce, hce, rfl⟩ := Option.map_eq_some_iff.mp h
        obtain ⟨hi, hns⟩ := pi_of (tg := tg) g hsc (ih X sc hsc g) hci
        have inner : ∀ (s : Shared) (H : Hp) (C : Addr) (cl : List (Str × Addr)) (fp : List Addr), (X.blk s H scope (compEnvC scope cl C X.env) fp).env.scope = relS scope sc := by
          intro s H C cl fp
          rw [← hsc] <;> rfl
        have hok : BlkOk X.N X.env.scope scope (ownOf N scope) := by rw [g.n, hsc]; exact blkOk_by hb
        refine ⟨tg, it, ifs, t, ci, cc, ce, rfl, rfl, hok, hi, hns, fun s H C cl fp => ?_, fun s H C cl fp => ?_, fun s H C cl fp => ?_, sub_of hsub⟩
        · exact er_tgt (X := X.blk s H scope (compEnvC scope cl C X.env) fp) g.cg.calm (by show X.N.Nodup; rw [g.n]; exact g.nd) (inner s H C cl fp) (tc := cells scope) (fun x hx => hx) n tg t (by show erT X.N _ _ _ _ = _; rw [g.n]; exact ht)
        · have gi := g.blk s H scope (compEnvC scope cl C X.env) fp
          cases ifs with
          | nil =>
            cases hcc
            exact pts_imp pts_nil fun σ H Q ⟨ι, S, L, so, lo, res⟩ => by
              obtain ⟨b, e, q⟩ := res ι H (.bl true) (List.prefix_refl ι) (Xt.refl H) so rfl
              cases e; exact q
          | cons c1 r => cases r with
            | nil => exact pts_one (ih _ (relS scope sc) (inner s H C cl fp) gi c1 cc hcc).pt
            | cons _ _ => cases hcc
        · exact (ih _ (relS scope sc) (inner s H C cl fp) (g.blk s H scope (compEnvC scope cl C X.env) fp) elt ce hce).pe
      · cases h
    · cases h
  · cases h
theorem er_exp {nm : Nm} {N : List Str} {G : Gv} {k : Nat} : ∀ (n : Nat) (X : Cx) (sc : Scope), X.env.scope = sc → Gd nm N G k X → ∀ (e : Expr) (c : CE), erE nm N n sc e = some c → EP2 X G e c := by
  intro n
  induction n with
  | zero => intro X sc _ _ e c h; cases h
  | succ n ih =>
    intro X sc hsc g e c h
    have hp := ih X sc hsc g
    have many : ∀ {es : List Expr} {cs : List CE}, erAll (erE nm N n sc) es = some cs → PA X es (TAc G X.K (caOf cs)) := fun h => pa_of h (all_star h) hp
    cases e with
    | Constant cst kk pos =>
      replace h : erC cst = some c := h
      cases cst with
      | int i => cases h; exact ep_cst pe_int (fun _ _ => rfl) fun _ => rfl
      | bool b => cases h; exact ep_cst pe_bl (fun _ _ => rfl) fun _ => rfl
      | none => cases h; exact ep_cst pe_non (fun _ _ => rfl) fun _ => rfl
      | str x => cases h; exact ep_cst pe_str (fun _ _ => rfl) fun _ => rfl
      | _ => cases h
    | Name x pos => exact ep_name g hsc h
    | BinOp a op b pos =>
      replace h : ((erE nm N n sc a).bind fun a => (erE nm N n sc b).map fun b => CE.bin op a b) = some c := h
      obtain ⟨ca, ha, h⟩ := Option.bind_eq_some_iff.mp h
      obtain ⟨cb, hb, rfl⟩ := Option.map_eq_some_iff.mp h
      exact ep_bin (hp a ca ha) (hp b cb hb)
    | UnaryOp op a pos =>
      replace h : erUn (erE nm N n sc) op a = some c := h
      cases op with
      | USub =>
        obtain ⟨ca, ha, rfl⟩ := Option.map_eq_some_iff.mp h
        exact ep_neg (hp a ca ha)
      | Not =>
        obtain ⟨ca, ha, rfl⟩ := Option.map_eq_some_iff.mp h
        exact ep_not (hp a ca ha)
      | _ => cases h
    | BoolOp op es pos =>
      replace h : erBo (erE nm N n sc) op es = some c := h
      unfold erBo at h
      split at h
      · cases h
      · rename_i hne
        have hne : es ≠ [] := by rintro rfl; exact hne rfl
        cases op with
        | And =>
          obtain ⟨cs, hcs, rfl⟩ := Option.map_eq_some_iff.mp h
          exact (ep_andL hp hne hcs).1
        | Or =>
          obtain ⟨cs, hcs, rfl⟩ := Option.map_eq_some_iff.mp h
          exact (ep_orL hp hne hcs).1
    | Compare a ops bs pos =>
      replace h : erCmp (erE nm N n sc) a ops bs = some c := h
      unfold erCmp at h
      split at h
      · rename_i op b
        split at h
        · cases h
        · rename_i hm
          obtain ⟨ca, ha, h⟩ := Option.bind_eq_some_iff.mp h
          obtain ⟨cb, hb, rfl⟩ := Option.map_eq_some_iff.mp h
          exact ep_cmp g.cg (hp a ca ha) (hp b cb hb) (by simpa using hm)
      · rename_i p q b d
        split at h
        · cases h
        · rename_i hm
          obtain ⟨ca, ha, h⟩ := Option.bind_eq_some_iff.mp h
          obtain ⟨cb, hb, h⟩ := Option.bind_eq_some_iff.mp h
          obtain ⟨cc, hc, rfl⟩ := Option.map_eq_some_iff.mp h
          exact ep_chn g.cg (hp a ca ha) (hp b cb hb) (hp d cc hc) (by simpa using hm)
      · cases h
    | IfExp t a b pos =>
      replace h : ((erE nm N n sc t).bind fun t => (erE nm N n sc a).bind fun a => (erE nm N n sc b).map fun b => CE.ite t a b) = some c := h
      obtain ⟨ct, ht, h⟩ := Option.bind_eq_some_iff.mp h
      obtain ⟨ca, ha, h⟩ := Option.bind_eq_some_iff.mp h
      obtain ⟨cb, hb, rfl⟩ := Option.map_eq_some_iff.mp h
      exact ep_ite (hp t ct ht) (hp a ca ha) (hp b cb hb)
    | Tuple es kk pos =>
      obtain ⟨cs, hcs, rfl⟩ := Option.map_eq_some_iff.mp (show (erAll (erE nm N n sc) es).map (fun cs => CE.tup (caOf cs)) = some c from h)
      exact ep_tup (many hcs)
    | List es pos =>
      obtain ⟨cs, hcs, rfl⟩ := Option.map_eq_some_iff.mp (show (erAll (erE nm N n sc) es).map (fun cs => CE.lst (caOf cs)) = some c from h)
      exact ep_lst (many hcs)
    | Dict ks vs pos =>
      replace h : (if ks.length ≤ 15 then (pairUp ks vs).bind fun es => (erAll (erE nm N n sc) es).map fun cs => CE.dct (caOf cs) else none) = some c := h
      split at h
      · rename_i h15
        obtain ⟨es, hes, h⟩ := Option.bind_eq_some_iff.mp h
        obtain ⟨cs, hcs, rfl⟩ := Option.map_eq_some_iff.mp h
        exact ep_dct hp h15 hes hcs
      · cases h
    | Subscript e i pos =>
      replace h : erSub (erE nm N n sc) e i = some c := h
      unfold erSub at h
      split at h
      · rename_i lo hi st sp
        split at h
        · obtain ⟨ce, he, h⟩ := Option.bind_eq_some_iff.mp h
          obtain ⟨l, hl, h⟩ := Option.bind_eq_some_iff.mp h
          obtain ⟨u, hu, rfl⟩ := Option.map_eq_some_iff.mp h
          exact ep_slc hp (hp e ce he) hl hu
        · rename_i st
          split at h
          · rename_i hr
            obtain ⟨h1, h2, h3⟩ := hr
            cases lo with
            | some _ => cases h2
            | none => cases hi with
              | some _ => cases h3
              | none =>
                obtain ⟨ce, he, rfl⟩ := Option.map_eq_some_iff.mp h
                exact ep_rev (hp e ce he) h1
          · cases h
      · rename_i hns
        obtain ⟨ce, he, h⟩ := Option.bind_eq_some_iff.mp h
        obtain ⟨ci, hi, rfl⟩ := Option.map_eq_some_iff.mp h
        refine ep_idx g.cg (hp e ce he) (hp i ci hi) ?_
        cases i with
        | Slice a b d p => exact absurd rfl (hns a b d p)
        | _ => rfl
    | Call f es kws cpos =>
      replace h : (match erIsx nm sc f es kws with
        | some (e, tab) => (erE nm N n sc e).map fun c => CE.isx c tab
        | none => match erMk nm sc f es kws with
          | some (.inl x) => some (CE.mkx x)
          | some (.inr (x, f, e)) => (erE nm N n sc e).map fun c => CE.mkf x f c
          | none => erCall (erE nm N n sc) nm sc f es kws cpos) = some c := h
      cases hx : erIsx nm sc f es kws with
      | some q =>
        rw [hx] at h
        obtain ⟨e, tab⟩ := q
        obtain ⟨ce, he, rfl⟩ := Option.map_eq_some_iff.mp h
        unfold erIsx at hx
        split at hx
        · split at hx
          · rename_i hcond
            obtain ⟨rfl, hg, hb, hk, hns⟩ := hcond
            obtain ⟨ys, hys, hx⟩ := Option.bind_eq_some_iff.mp hx
            obtain ⟨yes, hyes, hx⟩ := Option.map_eq_some_iff.mp hx
            cases hx
            cases kws with
            | cons _ _ => cases hk
            | nil => exact ep_isx hsc g (hp _ ce he) (by cases e <;> first | rfl | cases hns) (lk_gl (X := X) hsc hg) hb hys hyes
          · cases hx
        · cases hx
      | none =>
      rw [hx] at h
      replace h : (match erMk nm sc f es kws with
          | some (.inl x) => some (CE.mkx x)
          | some (.inr (x, f, e)) => (erE nm N n sc e).map fun c => CE.mkf x f c
          | none => erCall (erE nm N n sc) nm sc f es kws cpos) = some c := h
      cases hmk : erMk nm sc f es kws with
      | some q =>
        rw [hmk] at h
        obtain ⟨rfl, ⟨x, p, rfl, rfl, rfl, gl, hx2⟩ | ⟨x, p, g2, e, rfl, rfl, rfl, gl, hx2, hns⟩⟩ := erMk_is hsc hmk
        · cases h
          exact ep_mkx g gl hx2
        · obtain ⟨ce, he, rfl⟩ := Option.map_eq_some_iff.mp h
          exact ep_mkf g gl hx2 (hp e ce he) hns
      | none =>
      rw [hmk] at h
      replace h : erCall (erE nm N n sc) nm sc f es kws cpos = some c := h
      unfold erCall at h
      split at h
      · rename_i hk
        have hk : kws = [] := by cases kws with
          | nil => rfl
          | cons _ _ => cases hk
        subst hk
        split at h
        · rename_i x np
          split at h
          · rename_i hg
            have gl := lk_gl (X := X) hsc hg
            split at h
            · rename_i i hi
              obtain ⟨cs, hcs, rfl⟩ := Option.map_eq_some_iff.mp h
              exact ep_call g hp (all_star hcs) hcs hi gl
            · split at h
              · rename_i f hf
                split at h
                · rename_i hb
                  obtain ⟨cs, hcs, rfl⟩ := Option.map_eq_some_iff.mp h
                  exact ep_bi g hp (all_star hcs) hcs hf hb.1 hb.2 gl
                · cases h
              · cases h
          · cases h
        · rename_i o m apos
          split at h
          · rename_i f hf
            split at h
            · rename_i hb
              obtain ⟨co, hco, h⟩ := Option.bind_eq_some_iff.mp h
              obtain ⟨cs, hcs, rfl⟩ := Option.map_eq_some_iff.mp h
              exact ep_mth g hp (all_star hcs) hcs hf (hp o co hco) hb.1 hb.2.1 hb.2.2
            · cases h
          · cases h
        · cases h
      · cases h
    | Attribute e f pos =>
      replace h : (if notSuper e = true then (erE nm N n sc e).map fun c => CE.fld c f else none) = some c := h
      split at h
      · rename_i hs
        obtain ⟨ce, he, rfl⟩ := Option.map_eq_some_iff.mp h
        exact ep_fld (hp e ce he) hs
      · cases h
    | ListComp elt gs scope pos =>
      replace h : erLc nm N (erE nm N n) n sc elt gs scope = some c := h
      obtain ⟨tg, it, ifs, t, ci, cc, ce, rfl, rfl, P⟩ := lc_parts ih hsc g h
      exact ep_lc g P
    | DictComp kx vx gs scope pos =>
      replace h : ((erLc nm N (erE nm N n) n sc kx gs scope).bind fun a => (erLc nm N (erE nm N n) n sc vx gs scope).bind fun b => match a, b with
        | .lc vs t i c ck, .lc _ _ _ _ cv => some (CE.dc vs t i c ck cv)
        | _, _ => none) = some c := h
      obtain ⟨a, ha, h⟩ := Option.bind_eq_some_iff.mp h
      obtain ⟨b, hb, h⟩ := Option.bind_eq_some_iff.mp h
      obtain ⟨tg, it, ifs, t, ci, cc, ck, rfl, rfl, P⟩ := lc_parts ih hsc g ha
      obtain ⟨tg2, it2, ifs2, t2, ci2, cc2, cv, hgs, rfl, P2⟩ := lc_parts ih hsc g hb
      cases hgs
      cases h
      refine .of ((pe_dc g.cg.calm (by rw [g.n]; exact g.nd) P.hi P.ok P.hg P.ht P.he P2.he (fold_of P.hns)).imp fun σ H Q q => dc_go P.sub q) fun _ => rfl
    | _ => cases h
end Mi
namespace Mi
open PySem L2
theorem blk_kind {env : Env} {sc : Scope} (hsc : env.scope = sc) (hk : sc.kind = .function) : env.blockKind = .function := by
  unfold Env.blockKind; rw [hsc, hk]; rfl
def isLn (sc : Scope) (line : Nat) : Expr → Bool
  | .Name id pos => sc.names.lookup id == some .local && pos.line == line
  | _ => false
def headLine (ts : List Expr) : Nat := (ts.head?.map (·.pos.line)).getD 0
def parNo (sc : Scope) (ts vs : List Expr) : Bool :=
  !(ts.length == 2 || ts.length == 3) || vs.length != ts.length || !(ts.all (isLn sc (headLine ts))) || vs.all (foldedForSure 8)
theorem star_any {vs : List Expr} (h : vs.all notStar = true) : (vs.any fun | .Starred .. => true | _ => false) = false := by
  induction vs with
  | nil => rfl
  | cons v vs ih =>
    rw [List.all_cons, Bool.and_eq_true] at h
    rw [List.any_cons, ih h.2, Bool.or_false]
    cases v <;> first | rfl | cases h.1
theorem sw_none {ts vs : List Expr} {k k2 : Nat} {p p2 : Pos} {env : Env} {sc : Scope} (hsc : env.scope = sc) (hs : vs.all notStar = true) (h : parNo sc ts vs = true) : swappedStores [.Tuple ts k p] (.Tuple vs k2 p2) env = pure none := by
  have hk : ∀ id, env.kindOf id = sc.names.lookup id := fun id => by unfold Env.kindOf; rw [hsc]
  unfold swappedStores
  simp
  intro q1 q2 q3 q4 q5 q6 x hx hf
  exfalso
  unfold parNo at h
  simp only [Bool.or_eq_true, Bool.not_eq_true', Bool.or_eq_false_iff, beq_eq_false_iff_ne, bne_iff_ne, ne_eq, List.all_eq_true] at h
  rcases h with ((h | h) | h) | h
  · exact h.2 (q1 h.1)
  · exact h q2
  · rw [← Bool.not_eq_true, List.all_eq_true] at h
    apply h
    intro t ht
    have := q5 t ht
    unfold isLn
    cases t with
    | Name id pos =>
      simp only [hk] at this
      simp only [headLine]
      by_cases hb : sc.names.lookup id = some .local ∧ pos.line = (Option.map (fun x => x.pos.line) ts.head?).getD 0
      · simp [hb.1, hb.2]
      · rw [if_neg hb] at this; exact absurd rfl this
    | _ => exact absurd rfl this
  · have := h x hx
    rw [hf] at this; cases this
/-- two names, three names, whose stores are swapped -/
def isPar (sc : Scope) (ts vs : List Expr) : Bool := match ts, vs with
  | [.Name x px, .Name y py], [a, b] => isLn sc px.line (.Name x px) && isLn sc px.line (.Name y py) && decide (x ≠ y) && !(foldedForSure 8 a && foldedForSure 8 b) && !(constantsAlone 8 a && constantsAlone 8 b)
  | [.Name x px, .Name y py, .Name z pz], [a, b, c] => isLn sc px.line (.Name x px) && isLn sc px.line (.Name y py) && isLn sc px.line (.Name z pz) && decide (x ≠ y) && decide (x ≠ z) && decide (y ≠ z) && !(foldedForSure 8 a && foldedForSure 8 b && foldedForSure 8 c) && !(constantsAlone 8 a && constantsAlone 8 b && constantsAlone 8 c)
  | _, _ => false
theorem lns {sc : Scope} {l : Nat} {x : Str} {p : Pos} (h : isLn sc l (.Name x p) = true) : sc.names.lookup x = some .local ∧ p.line = l := by
  unfold isLn at h
  simpa using h
theorem sw_two {x y : Str} {px py p p2 : Pos} {a b : Expr} {k k2 : Nat} {env : Env} {sc : Scope} (hsc : env.scope = sc) (hk : sc.kind = .function) (hs : [a, b].all notStar = true) (h : isPar sc [.Name x px, .Name y py] [a, b] = true) :
    swappedStores [.Tuple [.Name x px, .Name y py] k p] (.Tuple [a, b] k2 p2) env = pure (some [x, y]) := by
  simp only [isPar, Bool.and_eq_true, Bool.not_eq_true', decide_eq_true_eq] at h
  obtain ⟨⟨⟨⟨h1, h2⟩, h3⟩, h4⟩, h5⟩ := h
  have e1 := lns h1
  have e2 := lns h2
  have kx : env.kindOf x = some .local := by unfold Env.kindOf; rw [hsc]; exact e1.1
  have ky : env.kindOf y = some .local := by unfold Env.kindOf; rw [hsc]; exact e2.1
  have hb := blk_kind hsc hk
  have dups : [x, y].eraseDups = [x, y] := by
    simp [List.eraseDups_cons, Ne.symm h3]
  unfold swappedStores
  simp only [star_any hs]
  simp [kx, ky, hb, e2.2, dups, h3, Ne.symm h3, h4, h5, Expr.pos]
  intro hh
  exfalso
  simp only [List.all_cons, Bool.and_eq_true] at hs
  rcases hh with hh | hh
  · cases a <;> first | exact absurd hs.1 Bool.false_ne_true | cases hh
  · cases b <;> first | exact absurd hs.2.1 Bool.false_ne_true | cases hh
theorem sw_three {x y z : Str} {px py pz p p2 : Pos} {a b c : Expr} {k k2 : Nat} {env : Env} {sc : Scope} (hsc : env.scope = sc) (hk : sc.kind = .function) (hs : [a, b, c].all notStar = true) (h : isPar sc [.Name x px, .Name y py, .Name z pz] [a, b, c] = true) :
    swappedStores [.Tuple [.Name x px, .Name y py, .Name z pz] k p] (.Tuple [a, b, c] k2 p2) env = pure (some [x, y, z]) := by
  simp only [isPar, Bool.and_eq_true, Bool.not_eq_true', decide_eq_true_eq] at h
  obtain ⟨⟨⟨⟨⟨⟨⟨h1, h2⟩, h3⟩, h4⟩, h5⟩, h6⟩, h7⟩, h8⟩ := h
  have e1 := lns h1
  have e2 := lns h2
  have e3 := lns h3
  have kx : env.kindOf x = some .local := by unfold Env.kindOf; rw [hsc]; exact e1.1
  have ky : env.kindOf y = some .local := by unfold Env.kindOf; rw [hsc]; exact e2.1
  have kz : env.kindOf z = some .local := by unfold Env.kindOf; rw [hsc]; exact e3.1
  have hb := blk_kind hsc hk
  have dups : [x, y, z].eraseDups = [x, y, z] := by
    simp [List.eraseDups_cons, Ne.symm h4, Ne.symm h5, Ne.symm h6]
  have h7 : foldedForSure 8 a = true → foldedForSure 8 b = true → foldedForSure 8 c = false := by
    intro q1 q2; rw [q1, q2] at h7; simpa using h7
  have h8 : constantsAlone 8 a = true → constantsAlone 8 b = true → constantsAlone 8 c = false := by
    intro q1 q2; rw [q1, q2] at h8; simpa using h8
  unfold swappedStores
  simp only [star_any hs]
  by_cases f : foldedForSure 8 a = true ∧ foldedForSure 8 b = true ∧ foldedForSure 8 c = true
  · rw [h7 f.1 f.2.1] at f; exact absurd f.2.2 Bool.false_ne_true
  · by_cases g : constantsAlone 8 a = true ∧ constantsAlone 8 b = true ∧ constantsAlone 8 c = true
    · rw [h8 g.1 g.2.1] at g; exact absurd g.2.2 Bool.false_ne_true
    · simp [kx, ky, kz, hb, e2.2, e3.2, dups, Expr.pos, f, g]
      intro hh
      exfalso
      simp only [List.all_cons, Bool.and_eq_true] at hs
      rcases hh with hh | hh | hh
      · cases a <;> first | exact absurd hs.1 Bool.false_ne_true | cases hh
      · cases b <;> first | exact absurd hs.2.1 Bool.false_ne_true | cases hh
      · cases c <;> first | exact absurd hs.2.2.1 Bool.false_ne_true | cases hh
end Mi
set_option maxHeartbeats 2000000
namespace Mi
open PySem PySem.Spec PyProof.Rows L2
/-- C(), C an exception class of the program without own __init__ -/
theorem pmk_own0 {X : Cx} {C : Addr} {bmB : List Value} {B newId initId : String} {x : Str} {p pos : Pos} (F : ExcBaseFacts B newId initId bmB) (q : PySem.W.excIn X.K C bmB newId = true) (gC : X.mg x = some (.ref C)) (kC : PySem.W.keepIn X.K (.ref C) = true) (rs : Raises X (.ref C)) (hg : Gl X x)
    (hdb : (x == ("__debug__" : Str)) = false) : L2.PMk X (.Call (.Name x p) [] [] pos) (fun _ H Q => Q (.ref C) none H) := by
  intro pins s σ H Q I h
  refine wpAny_Call_Name_kw (ld_glob I hg gC ?_ hdb)
  refine PySem.W.callWith_K0 I.kIn kC ?_
  obtain ⟨bm, N, nm, qn, bs, hdct, sn, sub, ab, col, dd, k0, k1, k2, k3, k5, mN, hC, hN, hni, T⟩ := exc_obj I.kIn q
  exact wpAny_call_exc_subT F T hC hN hni (fun h' e hm => mk_of I hm rs h (I.hok.gone hm.new)) (Nat.zero_le _)
section
variable {X : Cx} {pins : List (Addr × Obj)} {σ : L2.St} {H : Hp} {s : Shared}
/-- an object that nobody tracks is tracked: an exception -/
theorem Inv_track (I : Inv X pins σ H s) {ea C : Addr} {o : Obj} (J : PySem.W.InstAt s.heap ea o C none) (na : H ea = none) (n0 : X.s_0.heap.get? ea = none) (nL : ea ≠ X.env.locals) (nC : ∀ y c, X.env.cells.lookup y = some c → c ≠ ea) (np : ∀ p ∈ X.pn ++ pins, p.1 ≠ ea) : Inv X pins σ (upd H ea (xHO C ea)) s := by
  have keepN : ∀ {b : Addr} {u : HO}, H b = some u → upd H ea (xHO C ea) b = some u := fun {b u} q => by rw [upd_ne (ne_of_none q na)]; exact q
  refine ⟨I.ok, I.os, I.bare, ⟨I.base.keep, I.base.slot, ?_, I.base.there, ?_, ?_, ?_⟩, I.loc, I.cell, ?_, ?_, ?_, ?_, I.len⟩
  · intro b u q n hx
    have hb : b ≠ ea := by
      rintro rfl
      rw [n0] at q; cases q
    rw [upd_ne hb]
    exact I.base.free b u q n hx
  · exact fun b xs q => keepN (I.base.tups b xs q)
  · exact fun b u v q => keepN (I.base.frzs b u v q)
  · intro b ps q
    obtain ⟨more, e⟩ := I.base.tbls b ps q
    exact ⟨more, keepN e⟩
  · rw [upd_ne (Ne.symm nL)]; exact I.free
  · intro y c e
    rw [upd_ne (nC y c e)]; exact I.freeC y c e
  · intro p hp
    obtain ⟨e, n, r⟩ := I.pin p hp
    exact ⟨e, by rw [upd_ne (np p hp)]; exact n, r⟩
  · intro b u e
    by_cases hb : b = ea
    · subst hb
      rw [upd_same] at e
      cases e
      exact ⟨⟨o, J⟩, ⟨o, J.1⟩, fun h1 h2 ⟨o', j⟩ k => ⟨o', ⟨k _ j.1, j.2, j.3, by have := j.4; cases e : o'.dict <;> rw [e] at this <;> exact this⟩⟩⟩
    · rw [upd_ne hb] at e
      exact (I.hok b u e).stay (fun _ _ _ q => q) (fun _ q => keepN q) fun _ _ q => keepN q
end
/-- what 'try: body; except x as n: m = n' wishes of the body's exception -/
def wKeep (K : PySem.W.Frag) (c : Value) (i j : Nat) (D : Ends) : L2.WX := fun cls d σ H =>
  PySem.W.exmOne K cls c = some true ∧ d = none ∧ ∃ C, cls = .ref C ∧ ∀ ea, H ea = none → D.nx (((σ.set i (some (.ref ea))).set j (some (.ref ea))).set i none) (upd H ea (xHO C ea))
section
variable {X : Cx} {x n m : Str} {c : Value} {i j : Nat} {body : List Stmt} {np kp vp ap hp pos : Pos} {tb : L2.WX → TS}
theorem ps_keep (hs : X.stack = X.env :: X.outer) (hf : X.env.frame = some X.env.locals) (hN : X.N.Nodup) (hi : X.N[i]? = some n) (hj : X.N[j]? = some m) (hil : i < X.N.length) (hln : X.env.kindOf n = some .local) (hlm : X.env.scope.names.lookup m = some .local) (hnd : (n == ("__debug__" : Str)) = false) (hnc : (n == ("__classdict__" : Str)) = false) (hc : Names X x c) (hex : X.ex = [])
    (hb : ∀ (W : L2.WX) (pn : List (Addr × Obj)) (xe : Value → Shared → Prop), L2.Takes (X.tr pn xe) W → PassesOwn (model X.prog X.w) X.A X.env xe → PSs (X.tr pn xe) body (tb W)) :
    PS X (.Try body [.ExceptHandler (some (.Name x np)) (some n) [.Assign [.Name m kp] (.Name n vp) ap] hp] [] [] pos) (fun D σ H => tb (wKeep X.K c i j D) D σ H) := by
  refine ⟨fun pins s σ H D I h => wpAny_Try_except ?_⟩
  have ok := I.ok
  have frm : X.A.frames = some (X.env :: X.outer) := by rw [ok.frames, hs]
  refine wpAny_mono ((hb (wKeep X.K c i j D) (X.pn ++ pins) (fun e s₁ => wpAny (model X.prog X.w) X.A (noteFrame e X.env) (fun _ s₂ => wpAny (model X.prog X.w) X.A (setFlight e none) (fun _ s₃ =>
    wpAny (model X.prog X.w) X.A (handleBy e X.env [.ExceptHandler (some (.Name x np)) (some n) [.Assign [.Name m kp] (.Name n vp) ap] hp]) (SP X pins D) X.xe s₃) X.xe s₂) X.xe s₁) ?_ PassesOwn.looking).run [] s σ H D (I.toTry _) h) ?_ (fun _ _ z => z)
  · -- it is caught
    rintro u s' ⟨ea, B, sI, pins', σ', H', cls, d, rfl, JT, nb, up, sky, na, os, ag, hb1, rfl, C, rfl, hnx⟩
    have J0 : Inv X pins σ' H' sI := JT.ofTry ok
    rw [hs] at sky
    refine Sky.land Zc.steady frm hf sky fun h3 fl3 up3 => ?_
    have J3 : Inv X pins σ' H' { s' with heap := h3 } := J0.landed nb fl3.1 (up.trans up3) os ag
    obtain ⟨oe3, vs3, he3, hz3, hd3⟩ := fl3.there
    have noFr : ea ∉ frs (X.env :: X.outer) := fun hm => by
      obtain ⟨_, o', e', hnf⟩ := fl3.2.2.1.mem hm
      rw [he3] at e'
      cases e'
      exact hnf _ hd3
    have nL : ea ≠ X.env.locals := fun z => noFr (List.mem_filterMap.mpr ⟨X.env, List.mem_cons_self, by rw [hf, z]⟩)
    have nF : ea ∉ X.fs := fun hm => by
      obtain ⟨v, hv, q⟩ := List.mem_filterMap.mp hm
      exact noFr (List.mem_filterMap.mpr ⟨v, List.mem_cons_of_mem _ hv, q⟩)
    have notB : B.get? ea = none := fl3.2.1
    have newI : sI.heap.get? ea = none := by
      cases q : sI.heap.get? ea with
      | none => rfl
      | some o =>
        have := nb ea o q (by rw [hs]; exact noFr)
        rw [notB] at this
        cases this
    have new0 : X.s_0.heap.get? ea = none := by
      cases q : X.s_0.heap.get? ea with
      | none => rfl
      | some o =>
        obtain ⟨o', e'⟩ := J0.base.there ea o q (by rw [hex]; exact List.not_mem_nil)
        rw [newI] at e'
        cases e'
    have nC : ∀ y cc, X.env.cells.lookup y = some cc → cc ≠ ea := by
      rintro y cc e rfl
      obtain ⟨v, hv⟩ := J0.cell y cc e
      obtain ⟨o, ho, _⟩ := hv
      rw [newI] at ho
      cases ho
    have np' : ∀ p ∈ X.pn ++ pins, p.1 ≠ ea := by
      rintro p hp rfl
      have := (J0.pin p hp).1
      rw [newI] at this
      cases this
    have S3 := J3.suite he3 hd3 na nL nF
    refine wpAny_handleBy_cons (codeAny_handlers_test ?_) (by intro q; cases q)
    have LT : PySem.W.Looks (model X.prog X.w) h3 (typeOf (.ref ea)) (.ref C) := fun A Q E s k q => wpAny_typeOf_ref (k _ _ he3) (by rw [hz3.1]; exact q)
    have LM := PySem.W.exm_one (M := model X.prog X.w) J3.kIn LT hb1
    have asks : ∀ {Q E : Value → Shared → Prop}, Q c { s' with heap := h3 } → wpAny (model X.prog X.w) (X.A.mark (some (.ref ea))) (eval (.Name x np) X.env) Q E { s' with heap := h3 } := by
      intro Q E q
      obtain ⟨hg, hdbg, hm | ⟨hm, hv, hnn⟩⟩ := hc
      · exact ld_glob (X := X.suite ea ((ea, oe3) :: (X.pn ++ pins))) S3 hg hm q hdbg
      · exact ld_blt (X := X.suite ea ((ea, oe3) :: (X.pn ++ pins))) S3 hg hm hv q hnn hdbg
    refine asks (LM.here ?_)
    refine codeAny_handlers_suite_as ?_
    refine HandSPX.lands_againZ fl3 fun h4 fl4 up4 => ?_
    have J4 : Inv X pins σ' H' { s' with heap := h4 } := J0.landed nb fl4.1 ((up.trans up3).trans up4) os ag
    obtain ⟨oe4, vs4, he4, hz4, hd4⟩ := fl4.there
    have S4 := J4.suite he4 hd4 na nL nF
    refine store_ok (X := X.suite ea ((ea, oe4) :: (X.pn ++ pins))) (v := .ref ea) S4 hN hi (.inl hln) rfl (fun s5 S5 => ?_) (.inr hln)
    have st : PSs (X.suite ea ((ea, oe4) :: (X.pn ++ pins))) [.Assign [.Name m kp] (.Name n vp) ap] _ := pss_one (ps_set (i := j) hN hj (.inl hlm) (pe_var (i := i) hi (.inl hln) hnd hnc) (by rfl) (.inr hlm))
    refine wpAny_mono (st.run [] s5 _ H' { nx := fun σ6 H6 => σ6 = (σ'.set i (some (.ref ea))).set j (some (.ref ea)) ∧ H6 = H', rt := fun _ _ => False } S5 ⟨.ref ea, by rw [List.getElem?_set_self (by rw [J0.len]; exact hil)], ⟨rfl, rfl⟩⟩) ?_ (fun _ _ z => False.elim z)
    intro f s6 hsp
    cases f with
    | next =>
      obtain ⟨σ6, H6, S6, rfl, rfl⟩ := hsp
      obtain ⟨he6, _⟩ := S6.pin (ea, oe4) (List.mem_append_left _ List.mem_cons_self)
      have I6 : Inv X pins _ H6 s6 := S6.unsuite ok
      have JJ : PySem.W.InstAt s6.heap ea oe4 C none := by
        obtain ⟨oc, od, dt, sl⟩ := oe4
        obtain ⟨z1, z2⟩ := hz4
        dsimp only at z1 z2 hd4
        subst z1 z2 hd4
        exact ⟨he6, rfl, rfl, trivial⟩
      have I7 := Inv_track I6 JJ na new0 nL nC np'
      exact gone_ok I7 hN hi hln fun s7 J7 => ⟨_, _, J7, hnx ea na⟩
    | brk => obtain ⟨_, _, _, z⟩ := hsp; exact z.elim
    | cont => obtain ⟨_, _, _, z⟩ := hsp; exact z.elim
    | ret u => obtain ⟨_, _, _, _, _, z⟩ := hsp; exact z.elim
  · intro f s1 hsp
    cases f with
    | next =>
      obtain ⟨σ', H', JT, q⟩ := hsp
      exact wpAny_execs_nil ⟨σ', H', JT.ofTry ok, q⟩
    | brk => obtain ⟨σ', H', JT, q⟩ := hsp; exact ⟨σ', H', JT.ofTry ok, q⟩
    | cont => obtain ⟨σ', H', JT, q⟩ := hsp; exact ⟨σ', H', JT.ofTry ok, q⟩
    | ret u => obtain ⟨v, σ', H', JT, rr, q⟩ := hsp; exact ⟨v, σ', H', JT.ofTry ok, rr, q⟩
end
end Mi
namespace Mi
open PySem L2
variable {W : Str → Hp → Prop}
section
variable (nm : Nm) (N : List Str) (tc : Str → Bool)
/-- a name that may be stored -/
def stL (sc : Scope) (x : Str) : Bool := match sc.names.lookup x with
  | some .local => true
  | some .cell => tc x
  | _ => false
def notComp : Expr → Bool
  | .ListComp _ _ _ _ => false
  | .SetComp _ _ _ _ => false
  | .DictComp _ _ _ _ _ => false
  | _ => true
def isLc : Expr → Bool
  | .ListComp _ _ _ _ => true
  | _ => false
/-- stores that stand as they are written -/
def plainSt (sc : Scope) (tg e : Expr) : Bool := match tg, e with
  | .Tuple ts _ _, .Tuple vs _ _ => parNo sc ts vs || isPar sc ts vs
  | _, _ => true
/-- a call of a def that may raise -/
def erX (sc : Scope) : Expr → Option (Nat × List Expr)
  | .Call (.Name x _) es kws _ => if isG sc x = true ∧ x ∈ nm.rx ∧ es.all notStar = true ∧ es.isEmpty = false ∧ kws.isEmpty = true then (nm.fn x).map fun i => (i, es) else none
  | _ => none
def erRaise (sc : Scope) (e c : Option Expr) : CSs := match e, c with
  | some (.Call (.Name x _) [] [] _), none => if isG sc x = true ∧ x ∈ nm.xs then .raise x else .nev
  | _, _ => .nev
/-- try: return f(..); except c as n: m = n -/
def erTry (sc : Scope) (body : List Stmt) (hs : List ExceptHandler) (els fin : List Stmt) : Option (Nat × List Expr × Nat × Nat) := match body, hs, els, fin with
  | [.Return (some e) _], [.ExceptHandler (some (.Name c _)) (some n) [.Assign [.Name m _] (.Name n2 _) _] _], [], [] =>
    if n2 = n ∧ isG sc c = true ∧ c ∈ nm.cat ∧ sc.names.lookup n = some .local ∧ sc.names.lookup m = some .local ∧ (n == ("__debug__" : Str)) = false ∧ (n == ("__classdict__" : Str)) = false then
      (erX nm sc e).bind fun q => (ixOf N n).bind fun i => (ixOf N m).map fun j => (q.1, q.2, i, j)
    else none
  | _, _, _, _ => none
def erS : Nat → Scope → List Stmt → Option CSs
  | 0, _, _ => none
  | n + 1, sc, sts => match sts with
    | [] => some .nil
    | st :: rest => match st with
      | .Assign tgs e _ => match tgs with
        | [tg] => match tg with
          | .Subscript o i _ => if notComp e = true ∧ notSlice i = true then (erE nm N n sc e).bind fun ce => (erE nm N n sc o).bind fun co => (erE nm N n sc i).bind fun ci => (erS n sc rest).map fun r => .sub co ci ce r else none
          | tg => if plainSt sc tg e = true ∧ (notComp e = true ∨ isLc e = true) then (erT N sc tc n tg).bind fun t => (erE nm N n sc e).bind fun c => (erS n sc rest).map fun r => .asg t c r else none
        | _ => none
      | .AugAssign tg op e _ => match tg with
        | .Name x _ => if stL tc sc x = true then (ixOf N x).bind fun i => (erE nm N n sc e).bind fun c => (erS n sc rest).map fun r => .aug i op c r else none
        | _ => none
      | .Expr e _ => match erX nm sc e with
        | some q => (erAll (erE nm N n sc) q.2).bind fun cs => (erS n sc rest).map fun r => .xexp q.1 (caOf cs) r
        | none => if notComp e = true then (erE nm N n sc e).bind fun c => (erS n sc rest).map fun r => .exp c r else none
      | .Raise e c _ => if rest.isEmpty = true then some (erRaise nm sc e c) else none
      | .Try body hs els fin _ => (erTry nm N sc body hs els fin).bind fun q => (erAll (erE nm N n sc) q.2.1).bind fun cs => (erS n sc rest).map fun r => .tryR q.1 (caOf cs) q.2.2.1 q.2.2.2 nm.xs r
      | .Return v _ => match v with
        | some e => (erE nm N n sc e).map .ret
        | none => some (.ret (.cst .non))
      | .If c a b _ => (erE nm N n sc c).bind fun c => (erS n sc a).bind fun a => (erS n sc b).bind fun b => (erS n sc rest).map fun r => .ifs c a b r
      | .For tg it body els _ => if els.isEmpty = true then (erT N sc tc n tg).bind fun t => (erI (erE nm N n sc) nm sc tg it).bind fun i => (erS n sc body).bind fun b => (erS n sc rest).map fun r => .for_ t i b r else none
      | .While c body els _ => if els.isEmpty = true then (erE nm N n sc c).bind fun c => (erS n sc body).bind fun b => (erS n sc rest).map fun r => .whl c b r else none
      | .Pass _ => erS n sc rest
      | .Break _ => some .brk
      | .Continue _ => some .cont
      | _ => none
end
def FlOk (K : PySem.W.Frag) (W : Str → Hp → Prop) (ι : List Addr) (H : Hp) (D : Ends) (fl : Fl) (σ : St) : Prop := match fl with
  | .nx => D.nx σ H
  | .brk => D.bk σ H
  | .ct => D.ct σ H
  | .ret d => ∀ v, DR K ι H d v → D.rt v H
  | .xc x => W x H
def ResS (K : PySem.W.Frag) (W : Str → Hp → Prop) (ι : List Addr) (H : Hp) (r : R (Fl × Lcs)) (D : Ends) : Prop := match r with
  | .ok p S' => ∀ ι' H' σ', ι <+: ι' → Xt H H' → Sok K ι' H' S' → Lok K ι' H' p.2 σ' → FlOk K W ι' H' D p.1 σ'
  | _ => False
def TSc (G : Gv) (K : PySem.W.Frag) (W : Str → Hp → Prop) (c : CSs) : TS := fun D σ H => ∃ ι S L, Sok K ι H S ∧ Lok K ι H L σ ∧ ResS K W ι H (exS G c L S) D
theorem ResS.step {α : Type} {K : PySem.W.Frag} {ι : List Addr} {H : Hp} {r : R α} {f : α → Store → R (Fl × Lcs)} {D : Ends} (h : ResS K W ι H (r.bind f) D) : ∃ d S1, r = .ok d S1 ∧ ResS K W ι H (f d S1) D := by
  cases r with
  | ok d S' => exact ⟨d, S', rfl, h⟩
  | exc _ _ => exact h.elim
  | bad => exact h.elim
theorem ResS.mono {K : PySem.W.Frag} {ι ι1 : List Addr} {H H1 : Hp} {r : R (Fl × Lcs)} {D : Ends} (h : ResS K W ι H r D) (p : ι <+: ι1) (x : Xt H H1) : ResS K W ι1 H1 r D := by
  cases r with
  | ok d S' => exact fun ι' H' v a b c e => h ι' H' v (p.trans a) (x.trans b) c e
  | exc _ _ => exact h
  | bad => exact h
theorem ofO_resS {α : Type} {o : Option α} {S : Store} {K : PySem.W.Frag} {ι : List Addr} {H : Hp} {f : α → Store → R (Fl × Lcs)} {D : Ends} (h : ResS K W ι H ((ofO o S).bind f) D) : ∃ a, o = some a ∧ ResS K W ι H (f a S) D := by
  cases o with
  | some a => exact ⟨a, rfl, h⟩
  | none => exact h.elim
theorem ifB_resS {K : PySem.W.Frag} {ι : List Addr} {H : Hp} {d : D} {x y : R (Fl × Lcs)} {f : Fl × Lcs → Store → R (Fl × Lcs)} {D : Ends} (h : ResS K W ι H ((ifB d x y).bind f) D) : ∃ b, d = .bl b ∧ ResS K W ι H ((if b = true then x else y).bind f) D := by
  cases d with
  | bl b => exact ⟨b, rfl, h⟩
  | _ => exact h.elim
section
variable {G : Gv} {X : Cx}
/-- behind a part that may leave: what the rest wants -/
theorem ResS.rest {K : PySem.W.Frag} {ι : List Addr} {H : Hp} {q : R (Fl × Lcs)} {r : CSs} {D : Ends} (h : ResS K W ι H (q.bind fun p S2 => match p.1 with
    | .nx => exS G r p.2 S2
    | _ => .ok p S2) D) : ResS K W ι H q { D with nx := TSc G K W r D } := by
  cases q with
  | bad => exact h.elim
  | exc _ _ => exact h.elim
  | ok p S' =>
    obtain ⟨fl, L'⟩ := p
    intro ι' H' σ' pp xx so lo
    cases fl with
    | nx => exact ⟨ι', S', L', so, lo, ResS.mono h pp xx⟩
    | brk => exact h ι' H' σ' pp xx so lo
    | ct => exact h ι' H' σ' pp xx so lo
    | ret d => exact h ι' H' σ' pp xx so lo
    | xc x => exact h ι' H' σ' pp xx so lo
theorem res_nx {K : PySem.W.Frag} {ι : List Addr} {H : Hp} {S : Store} {L : Lcs} {σ : St} {D : Ends} (so : Sok K ι H S) (lo : Lok K ι H L σ) (h : ResS K W ι H (.ok (.nx, L) S) D) : D.nx σ H := h ι H σ (List.prefix_refl ι) (Xt.refl H) so lo
noncomputable def bodyF (G : Gv) (t : CT) (b : CSs) : D → Lcs → Store → R (Fl × Lcs) := fun d L1 S2 => (ofO (asgT t d S2 L1) S2).bind fun L2 S3 => exS G b L2 S3
theorem for_go {t : CT} {ci : CI} {b r : CSs} {D : Ends} {σ : St} {H : Hp} (h : TSc G X.K W (.for_ t ci b r) D σ H) : tSeq (tFor (TIc G X.K ci) (TGc X.K t) (TSc G X.K W b)) (TSc G X.K W r) D σ H := by
  obtain ⟨ι, S, L, so, lo, res⟩ := h
  have res : ResS X.K W ι H ((evI G ci L S).bind fun q S1 => (forLoop (bodyF G t b) q.2 q.1 L S1).bind fun p S2 => match p.1 with
    | .nx => exS G r p.2 S2
    | _ => .ok p S2) D := res
  obtain ⟨q, S1, e1, res⟩ := ResS.step res
  obtain ⟨items, gd⟩ := q
  refine ⟨ι, S, L, so, lo, ?_⟩
  rw [e1]
  refine fun ι1 H1 J p1 x1 so1 wk => ?_
  have lo1 := lo.mono p1 x1
  have res := ResS.rest (res.mono p1 x1)
  have res : ResS X.K W ι1 H1 (forLoop (bodyF G t b) gd items L S1) { D with nx := TSc G X.K W r D } := res
  refine ⟨fun i m σ H' => m = items.length - i ∧ i ≤ items.length ∧ ∃ ι' S' L', ι1 <+: ι' ∧ Xt H1 H' ∧ Sok X.K ι' H' S' ∧ Lok X.K ι' H' L' σ ∧ ResS X.K W ι' H' (forLoop (bodyF G t b) gd (items.drop i) L' S') { D with nx := TSc G X.K W r D },
    ⟨items.length, by simp, Nat.zero_le _, ι1, S1, L, List.prefix_refl _, Xt.refl _, so1, lo1, by rw [List.drop_zero]; exact res⟩, ?_⟩
  rintro i m σ' H' ⟨rfl, hle, ι', S', L', pw, xw, sw, lw, rw'⟩
  have wkr := wk.run ι' H' S' i pw xw sw
  by_cases hlt : i < items.length
  · have hd : items.drop i = items[i] :: items.drop (i + 1) := List.drop_eq_getElem_cons hlt
    rw [hd] at rw'
    simp only [forLoop] at rw'
    by_cases hgd : Gok gd S'
    · rw [if_pos hgd] at rw'
      obtain ⟨hgo, hy⟩ := (wkr hgd).2 items[i] (List.getElem?_eq_getElem hlt)
      refine .inr ⟨hgo, fun σ3 H3 => ∃ ι3 S3 L3, ι1 <+: ι3 ∧ Xt H1 H3 ∧ Sok X.K ι3 H3 S3 ∧ Lok X.K ι3 H3 L3 σ3 ∧ ResS X.K W ι3 H3 (forLoop (bodyF G t b) gd (items.drop (i + 1)) L3 S3) { D with nx := TSc G X.K W r D },
        fun σ3 H3 ⟨ι3, S3, L3, a1, a2, a3, a4, a5⟩ => ⟨items.length - (i + 1), by omega, rfl, hlt, ι3, S3, L3, a1, a2, a3, a4, a5⟩, fun x H2 y => ?_⟩
      obtain ⟨x2, s2, r2⟩ := hy x H2 y
      have rw2 := rw'.mono (List.prefix_refl ι') x2
      have l2 := lw.mono (List.prefix_refl _) x2
      obtain ⟨pf, Sf, ef, rw2⟩ := ResS.step rw2
      have ef : ((ofO (asgT t items[i] S' L') S').bind fun L2 S3 => exS G b L2 S3) = .ok pf Sf := ef
      cases ea : asgT t items[i] S' L' with
      | none => rw [ea] at ef; cases ef
      | some L2 =>
        rw [ea] at ef
        have ef : exS G b L2 S' = .ok pf Sf := ef
        refine ⟨ι', S', L', items[i], L2, s2, l2, r2, ea, fun σ2 lo2 sm => ⟨ι', S', L2, s2, lo2, ?_⟩⟩
        rw [ef]
        obtain ⟨fl, Lf⟩ := pf
        intro ι3 H3 σ3 p3 x3 so3 lo3
        cases fl with
        | nx => exact ⟨ι3, Sf, Lf, pw.trans p3, xw.trans (x2.trans x3), so3, lo3, ResS.mono rw2 p3 x3⟩
        | ct => exact ⟨ι3, Sf, Lf, pw.trans p3, xw.trans (x2.trans x3), so3, lo3, ResS.mono rw2 p3 x3⟩
        | brk => exact rw2 ι3 H3 σ3 p3 x3 so3 lo3
        | ret d => exact rw2 ι3 H3 σ3 p3 x3 so3 lo3
        | xc x => exact rw2 ι3 H3 σ3 p3 x3 so3 lo3
    · rw [if_neg hgd] at rw'
      exact rw'.elim
  · have e : i = items.length := by omega
    subst e
    rw [List.drop_length] at rw'
    simp only [forLoop] at rw'
    by_cases hgd : Gok gd S'
    · rw [if_pos hgd] at rw'
      exact .inl ⟨(wkr hgd).1 (Nat.le_refl _), res_nx sw lw rw'⟩
    · rw [if_neg hgd] at rw'
      exact rw'.elim
noncomputable def whF (G : Gv) (c : CE) (b : CSs) : Turn := fun L1 S1 => (evE G c L1 S1).bind fun x S2 => ifB x ((exS G b L1 S2).bind fun p S3 => match p.1 with
  | .nx => .ok (true, .nx, p.2) S3
  | .ct => .ok (true, .nx, p.2) S3
  | .brk => .ok (false, .nx, p.2) S3
  | .ret v => .ok (false, .ret v, p.2) S3
  | .xc x => .ok (false, .xc x, p.2) S3) (.ok (false, .nx, L1) S2)
theorem wh_some {f : Turn} {L : Lcs} {S : Store} (h : wh f L S ≠ .bad) : ∃ n, whN f n L S = some (wh f L S) := by
  unfold wh at h ⊢
  split at h
  · rename_i hx
    refine ⟨hx.choose, ?_⟩
    rw [dif_pos hx]
    exact (Classical.choose_spec hx).choose_spec
  · exact absurd rfl h
theorem wh_go {c : CE} {b r : CSs} {D : Ends} {σ : St} {H : Hp} (h : TSc G X.K W (.whl c b r) D σ H) : tSeq (tWhile (TTc G X.K c) (TSc G X.K W b)) (TSc G X.K W r) D σ H := by
  obtain ⟨ι, S, L, so, lo, res⟩ := h
  have res : ResS X.K W ι H ((wh (whF G c b) L S).bind fun p S2 => match p.1 with
    | .nx => exS G r p.2 S2
    | _ => .ok p S2) D := res
  have res := ResS.rest res
  obtain ⟨n, hn⟩ := wh_some (f := whF G c b) (L := L) (S := S) (by intro e; rw [e] at res; exact res.elim)
  refine ⟨fun m σ H' => ∃ ι' S' L' q, ι <+: ι' ∧ Xt H H' ∧ Sok X.K ι' H' S' ∧ Lok X.K ι' H' L' σ ∧ whN (whF G c b) m L' S' = some q ∧ ResS X.K W ι' H' q { D with nx := TSc G X.K W r D }, ⟨n, ι, S, L, _, List.prefix_refl _, Xt.refl _, so, lo, hn, res⟩, ?_⟩
  rintro m σ' H' ⟨ι', S', L', q, pw, xw, sw, lw, hq, rq⟩
  cases m with
  | zero => cases hq
  | succ m =>
    simp only [whN] at hq
    have def_ : whF G c b L' S' = (evE G c L' S').bind fun x S2 => ifB x ((exS G b L' S2).bind fun p S3 => match p.1 with
      | .nx => .ok (true, .nx, p.2) S3
      | .ct => .ok (true, .nx, p.2) S3
      | .brk => .ok (false, .nx, p.2) S3
      | .ret v => .ok (false, .ret v, p.2) S3
      | .xc x => .ok (false, .xc x, p.2) S3) (.ok (false, .nx, L') S2) := rfl
    cases ec : evE G c L' S' with
    | bad => rw [def_, ec] at hq; cases hq; exact rq.elim
    | exc _ _ => rw [def_, ec] at hq; cases hq; exact rq.elim
    | ok x S2 =>
      rw [ec, R.bind_ok] at def_
      cases x with
      | bl bb =>
        rw [ifB_bl] at def_
        refine TTc.of sw lw ec fun ι2 H2 p2 x2 so2 => ?_
        cases bb with
        | false =>
          rw [if_neg Bool.false_ne_true] at def_ ⊢
          rw [def_] at hq
          cases hq
          exact rq ι2 H2 σ' p2 x2 so2 (lw.mono p2 x2)
        | true =>
          rw [if_pos rfl] at def_ ⊢
          refine ⟨fun σ3 H3 => ∃ ι3 S3 L3 q3, ι <+: ι3 ∧ Xt H H3 ∧ Sok X.K ι3 H3 S3 ∧ Lok X.K ι3 H3 L3 σ3 ∧ whN (whF G c b) m L3 S3 = some q3 ∧ ResS X.K W ι3 H3 q3 { D with nx := TSc G X.K W r D },
            fun σ3 H3 h => ⟨m, Nat.lt_succ_self m, h⟩, ι2, S2, L', so2, lw.mono p2 x2, ?_⟩
          cases eb : exS G b L' S2 with
          | bad => rw [eb, R.bind_bad] at def_; rw [def_] at hq; cases hq; exact rq.elim
          | exc _ _ => rw [eb, R.bind_exc] at def_; rw [def_] at hq; cases hq; exact rq.elim
          | ok pf S3 =>
            rw [eb, R.bind_ok] at def_
            obtain ⟨fl, Lf⟩ := pf
            intro ι3 H3 σ3 p3 x3 so3 lo3
            have rq3 := rq.mono (p2.trans p3) (x2.trans x3)
            cases fl with
            | nx =>
              rw [def_] at hq
              exact ⟨ι3, S3, Lf, q, pw.trans (p2.trans p3), xw.trans (x2.trans x3), so3, lo3, hq, rq3⟩
            | ct =>
              rw [def_] at hq
              exact ⟨ι3, S3, Lf, q, pw.trans (p2.trans p3), xw.trans (x2.trans x3), so3, lo3, hq, rq3⟩
            | brk =>
              rw [def_] at hq
              cases hq
              exact rq3 ι3 H3 σ3 (List.prefix_refl _) (Xt.refl _) so3 lo3
            | ret d =>
              rw [def_] at hq
              cases hq
              exact rq3 ι3 H3 σ3 (List.prefix_refl _) (Xt.refl _) so3 lo3
            | xc x =>
              rw [def_] at hq
              cases hq
              exact rq3 ι3 H3 σ3 (List.prefix_refl _) (Xt.refl _) so3 lo3
      | _ => rw [def_] at hq; cases hq; exact rq.elim
end
end Mi
namespace Mi
open PySem L2
variable {W : Str → Hp → Prop}
section
variable {nm : Nm} {N : List Str} {G : Gv} {k : Nat} {X : Cx} {tc : Str → Bool}
theorem sw_plain {e tg : Expr} {line : Nat} {env : Env} (h : notComp e = true) : swapsWith e (some tg) line env = pure false := by
  unfold swapsWith
  cases e <;> first | rfl | cases h
theorem sw_drop {e : Expr} {line : Nat} {env : Env} (h : notComp e = true) : swapsWith e none line env = pure false := by
  unfold swapsWith
  cases e <;> first | rfl | cases h
theorem sw_notName {e tg : Expr} {line : Nat} {env : Env} (h : notComp e = true ∨ isLc e = true) (ht : ∀ x p, tg ≠ .Name x p) : swapsWith e (some tg) line env = pure false := by
  rcases h with h | h
  · exact sw_plain h
  · unfold swapsWith
    cases e <;> first
      | (cases tg <;> first | rfl | exact absurd rfl (ht _ _))
      | cases h
def swB (sc scope : Scope) (x : Str) (pline eline : Nat) : Bool := sc.names.lookup x == some .local && pline == eline && !(scope.names.any fun (n, k) => n == x && (k == .local || k == .cell))
theorem sw_name {elt : Expr} {gs : List Comprehension} {scope sc : Scope} {pos py : Pos} {x : Str} {l : Nat} {env : Env} (hsc : env.scope = sc) (hk : sc.kind = .function) : swapsWith (.ListComp elt gs scope pos) (some (.Name x py)) l env = pure (swB sc scope x py.line pos.line) := by
  have hb := blk_kind hsc hk
  have kx : env.kindOf x = sc.names.lookup x := by unfold Env.kindOf; rw [hsc]
  unfold swapsWith swB
  simp only [hb, kx, Expr.pos]
  rfl
theorem each1 {tg : Expr} {env : Env} (h : notStar tg = true) : (assignEach [tg] env).map (·.2) = [assign tg env] := by
  cases tg <;> first | rfl | cases h
/-- target = e, the stores as they are written -/
theorem asg_plain {tg e : Expr} {t : CT} {c : CE} {p : Pos} {rest : List Stmt} {r : CSs} (he : PE X e (TEc G X.K c)) (hg : PG X tg (TGc X.K t)) (hst : notStar tg = true) (hs : swapsWith e (some tg) p.line X.env = pure false) (hw : swappedStores [tg] e X.env = pure none) (hr : PSs X rest (TSc G X.K W r)) : PSs X (.Assign [tg] e p :: rest) (TSc G X.K W (.asg t c r)) := by
  refine (pss_cons (ps_asg he hg hs hw (each1 hst)) hr).imp fun D σ H ⟨ι, S, L, so, lo, res⟩ => ?_
  obtain ⟨d, S1, e1, res⟩ := ResS.step res
  obtain ⟨L1, a1, res⟩ := ofO_resS res
  refine TEc.of so lo e1 fun ι1 H1 v p1 x1 so1 r1 => ?_
  exact ⟨ι1, S1, L, d, L1, so1, lo.mono p1 x1, r1, a1, fun σ' lo' _ => ⟨ι1, S1, L1, so1, lo', res.mono p1 x1⟩⟩
theorem asg_lc {tg it elt : Expr} {ifs : List Expr} {scope : Scope} {x : Str} {py pos p : Pos} {i : Nat} {t : CT} {ci : CI} {cc ce : CE} {sc : Scope} {rest : List Stmt} {r : CSs} (hsc : X.env.scope = sc) (g : Gd nm N G k X) (P : LcP X G N elt tg it ifs scope t ci cc ce)
    (hx : sc.names.lookup x = some .local) (hi : ixOf N x = some i) (hsw : swapsWith (.ListComp elt [⟨tg, it, ifs, 0⟩] scope pos) (some (.Name x py)) p.line X.env = pure true) (hr : PSs X rest (TSc G X.K W r)) :
    PSs X (.Assign [.Name x py] (.ListComp elt [⟨tg, it, ifs, 0⟩] scope pos) p :: rest) (TSc G X.K W (.asg (.nm i) (.lc ((ownOf N scope).map (·.2)) t ci cc ce) r)) := by
  refine (pss_cons (ps_setLc g.cg.calm (by rw [g.n]; exact g.nd) (by rw [g.n]; exact ixOf_get hi) (by rw [hsc]; exact hx) hsw P.hi P.ok P.hg P.ht P.he (fold_of P.hns)) hr).imp fun D σ H ⟨ι, S, L, so, lo, res⟩ => ?_
  change tLc _ _ _ _ _ σ H (fun x H1 => gName i x σ H1 (TSc G X.K W r D))
  refine lc_go P.sub ?_
  obtain ⟨d, S1, e1, res⟩ := ResS.step res
  obtain ⟨L1, a1, res⟩ := ofO_resS res
  refine TEc.of so lo e1 fun ι1 H1 v p1 x1 so1 r1 => ?_
  simp only [asgT] at a1
  split at a1
  · cases a1
    exact ⟨ι1, S1, _, so1, (lo.mono p1 x1).set i r1, res.mono p1 x1⟩
  · cases a1
theorem evA_two {a b : CE} {L : Lcs} {S S' : Store} {ds : List D} (h : evA G (caOf [a, b]) L S = .ok ds S') : ∃ d1 d2, ds = [d1, d2] := by
  have h : ((evE G a L S).bind fun d S1 => ((evE G b L S1).bind fun d S1 => (R.ok [] S1).bind fun ds S2 => .ok (d :: ds) S2).bind fun ds S2 => .ok (d :: ds) S2) = .ok ds S' := h
  cases e1 : evE G a L S with
  | bad => rw [e1] at h; cases h
  | exc _ _ => rw [e1] at h; cases h
  | ok d1 S1 =>
    rw [e1, R.bind_ok] at h
    cases e2 : evE G b L S1 with
    | bad => rw [e2] at h; cases h
    | exc _ _ => rw [e2] at h; cases h
    | ok d2 S2 =>
      rw [e2, R.bind_ok, R.bind_ok, R.bind_ok] at h
      cases h
      exact ⟨d1, d2, rfl⟩
theorem evA_three {a b c : CE} {L : Lcs} {S S' : Store} {ds : List D} (h : evA G (caOf [a, b, c]) L S = .ok ds S') : ∃ d1 d2 d3, ds = [d1, d2, d3] := by
  have h : ((evE G a L S).bind fun d S1 => (evA G (caOf [b, c]) L S1).bind fun ds S2 => .ok (d :: ds) S2) = .ok ds S' := h
  cases e1 : evE G a L S with
  | bad => rw [e1] at h; cases h
  | exc _ _ => rw [e1] at h; cases h
  | ok d1 S1 =>
    rw [e1, R.bind_ok] at h
    cases e2 : evA G (caOf [b, c]) L S1 with
    | bad => rw [e2] at h; cases h
    | exc _ _ => rw [e2] at h; cases h
    | ok ds2 S2 =>
      rw [e2, R.bind_ok] at h
      cases h
      obtain ⟨d2, d3, rfl⟩ := evA_two e2
      exact ⟨d1, d2, d3, rfl⟩
theorem erT_two {sc : Scope} {n : Nat} {x y : Str} {px py : Pos} {t : CT} {kk : Nat} {tp : Pos} (hx : sc.names.lookup x = some .local) (hy : sc.names.lookup y = some .local) (h : erT N sc tc n (.Tuple [.Name x px, .Name y py] kk tp) = some t) : ∃ i j, ixOf N x = some i ∧ ixOf N y = some j ∧ t = .tp [.nm i, .nm j] := by
  cases n with
  | zero => cases h
  | succ n =>
    simp only [erT] at h
    obtain ⟨ts, hts, rfl⟩ := Option.map_eq_some_iff.mp h
    obtain ⟨t1, r1, h1, h2, rfl⟩ := allSome_cons hts
    obtain ⟨t2, r2, h3, h4, rfl⟩ := allSome_cons h2
    cases h4
    cases n with
    | zero => cases h1
    | succ n =>
      simp only [erT, hx, hy] at h1 h3
      obtain ⟨i, hi, rfl⟩ := Option.map_eq_some_iff.mp h1
      obtain ⟨j, hj, rfl⟩ := Option.map_eq_some_iff.mp h3
      exact ⟨i, j, hi, hj, rfl⟩
theorem erT_three {sc : Scope} {n : Nat} {x y z : Str} {px py pz : Pos} {t : CT} {kk : Nat} {tp : Pos} (hx : sc.names.lookup x = some .local) (hy : sc.names.lookup y = some .local) (hz : sc.names.lookup z = some .local) (h : erT N sc tc n (.Tuple [.Name x px, .Name y py, .Name z pz] kk tp) = some t) : ∃ i j l, ixOf N x = some i ∧ ixOf N y = some j ∧ ixOf N z = some l ∧ t = .tp [.nm i, .nm j, .nm l] := by
  cases n with
  | zero => cases h
  | succ n =>
    simp only [erT] at h
    obtain ⟨ts, hts, rfl⟩ := Option.map_eq_some_iff.mp h
    obtain ⟨t1, r1, h1, h2, rfl⟩ := allSome_cons hts
    obtain ⟨t2, r2, h3, h4, rfl⟩ := allSome_cons h2
    obtain ⟨t3, r3, h5, h6, rfl⟩ := allSome_cons h4
    cases h6
    cases n with
    | zero => cases h1
    | succ n =>
      simp only [erT, hx, hy, hz] at h1 h3 h5
      obtain ⟨i, hi, rfl⟩ := Option.map_eq_some_iff.mp h1
      obtain ⟨j, hj, rfl⟩ := Option.map_eq_some_iff.mp h3
      obtain ⟨l, hl, rfl⟩ := Option.map_eq_some_iff.mp h5
      exact ⟨i, j, l, hi, hj, hl, rfl⟩
theorem ix_ne {x y : Str} {i j : Nat} (hi : ixOf N x = some i) (hj : ixOf N y = some j) (h : x ≠ y) : i ≠ j := by
  rintro rfl
  have a := ixOf_get hi
  rw [ixOf_get hj] at a
  exact h (Option.some.inj a).symm
theorem asg_two {x y : Str} {px py tp p p2 : Pos} {a b : Expr} {ca cb : CE} {kk k2 : Nat} {sc : Scope} {i j : Nat} {rest : List Stmt} {r : CSs} (hsc : X.env.scope = sc) (hk : sc.kind = .function) (g : Gd nm N G k X) (hs : [a, b].all notStar = true) (hpar : isPar sc [.Name x px, .Name y py] [a, b] = true)
    (hi : ixOf N x = some i) (hj : ixOf N y = some j) (ha : PA X [a, b] (TAc G X.K (caOf [ca, cb]))) (hr : PSs X rest (TSc G X.K W r)) : PSs X (.Assign [.Tuple [.Name x px, .Name y py] kk tp] (.Tuple [a, b] k2 p2) p :: rest) (TSc G X.K W (.asg (.tp [.nm i, .nm j]) (.tup (caOf [ca, cb])) r)) := by
  have h := hpar
  simp only [isPar, Bool.and_eq_true, Bool.not_eq_true', decide_eq_true_eq] at h
  obtain ⟨⟨⟨⟨h1, h2⟩, h3⟩, _⟩, _⟩ := h
  refine (pss_cons (ps_par (X := X) g.cg.calm (by rw [g.n]; exact g.nd) (by rw [g.n]; exact ixOf_get hi) (by rw [g.n]; exact ixOf_get hj) (ix_ne hi hj h3) (by rw [hsc]; exact (lns h1).1) (by rw [hsc]; exact (lns h2).1) ha (sw_two hsc hk hs hpar) (by rfl)) hr).imp fun D σ H ⟨ι, S, L, so, lo, res⟩ => ?_
  obtain ⟨d, S1, e1, res⟩ := ResS.step res
  obtain ⟨L1, a1, res⟩ := ofO_resS res
  have e1 : ((evA G (caOf [ca, cb]) L S).bind fun ds S1 => okIf (sizeOk ds.length) (.tup ds) S1) = .ok d S1 := e1
  cases ea : evA G (caOf [ca, cb]) L S with
  | bad => rw [ea] at e1; cases e1
  | exc _ _ => rw [ea] at e1; cases e1
  | ok ds S2 =>
    rw [ea, R.bind_ok] at e1
    obtain ⟨d1, d2, rfl⟩ := evA_two ea
    have e1 : R.ok (Mi.D.tup [d1, d2]) S2 = .ok d S1 := e1
    cases e1
    refine TAc.of so lo ea fun ι1 H1 vs p1 x1 so1 r1 => ?_
    obtain ⟨v1, v2, rfl, q1, q2⟩ := r1.two
    refine ⟨v1, v2, rfl, ?_⟩
    have a1 : ((if i < L.length then some (L.set i (some d1)) else none).bind fun L2 => ((if j < L2.length then some (L2.set j (some d2)) else none).bind fun L3 => some L3)) = some L1 := a1
    split at a1
    · rw [Option.bind_some] at a1
      split at a1
      · cases a1
        exact ⟨ι1, S1, _, so1, ((lo.mono p1 x1).set i q1).set j q2, res.mono p1 x1⟩
      · cases a1
    · cases a1
theorem asg_three {x y z : Str} {px py pz tp p p2 : Pos} {a b c : Expr} {ca cb cc : CE} {kk k2 : Nat} {sc : Scope} {i j l : Nat} {rest : List Stmt} {r : CSs} (hsc : X.env.scope = sc) (hk : sc.kind = .function) (g : Gd nm N G k X) (hs : [a, b, c].all notStar = true) (hpar : isPar sc [.Name x px, .Name y py, .Name z pz] [a, b, c] = true)
    (hi : ixOf N x = some i) (hj : ixOf N y = some j) (hl : ixOf N z = some l) (ha : PA X [a, b, c] (TAc G X.K (caOf [ca, cb, cc]))) (hr : PSs X rest (TSc G X.K W r)) : PSs X (.Assign [.Tuple [.Name x px, .Name y py, .Name z pz] kk tp] (.Tuple [a, b, c] k2 p2) p :: rest) (TSc G X.K W (.asg (.tp [.nm i, .nm j, .nm l]) (.tup (caOf [ca, cb, cc])) r)) := by
  have h := hpar
  simp only [isPar, Bool.and_eq_true, Bool.not_eq_true', decide_eq_true_eq] at h
  obtain ⟨⟨⟨⟨⟨⟨⟨h1, h2⟩, h3⟩, h4⟩, h5⟩, h6⟩, _⟩, _⟩ := h
  refine (pss_cons (ps_par3 (X := X) g.cg.calm (by rw [g.n]; exact g.nd) (by rw [g.n]; exact ixOf_get hi) (by rw [g.n]; exact ixOf_get hj) (by rw [g.n]; exact ixOf_get hl) (ix_ne hi hj h4) (ix_ne hi hl h5) (ix_ne hj hl h6) (by rw [hsc]; exact (lns h1).1) (by rw [hsc]; exact (lns h2).1) (by rw [hsc]; exact (lns h3).1) ha (sw_three hsc hk hs hpar) (by rfl)) hr).imp fun D σ H ⟨ι, S, L, so, lo, res⟩ => ?_
  obtain ⟨d, S1, e1, res⟩ := ResS.step res
  obtain ⟨L1, a1, res⟩ := ofO_resS res
  have e1 : ((evA G (caOf [ca, cb, cc]) L S).bind fun ds S1 => okIf (sizeOk ds.length) (.tup ds) S1) = .ok d S1 := e1
  cases ea : evA G (caOf [ca, cb, cc]) L S with
  | bad => rw [ea] at e1; cases e1
  | exc _ _ => rw [ea] at e1; cases e1
  | ok ds S2 =>
    rw [ea, R.bind_ok] at e1
    obtain ⟨d1, d2, d3, rfl⟩ := evA_three ea
    have e1 : R.ok (Mi.D.tup [d1, d2, d3]) S2 = .ok d S1 := e1
    cases e1
    refine TAc.of so lo ea fun ι1 H1 vs p1 x1 so1 r1 => ?_
    obtain ⟨v1, vr, rfl, q1, r1⟩ := r1
    obtain ⟨v2, v3, rfl, q2, q3⟩ := r1.two
    refine ⟨v1, v2, v3, rfl, ?_⟩
    have a1 : ((if i < L.length then some (L.set i (some d1)) else none).bind fun L2 => ((if j < L2.length then some (L2.set j (some d2)) else none).bind fun L3 => (if l < L3.length then some (L3.set l (some d3)) else none).bind fun L4 => some L4)) = some L1 := a1
    split at a1
    · rw [Option.bind_some] at a1
      split at a1
      · rw [Option.bind_some] at a1
        split at a1
        · cases a1
          exact ⟨ι1, S1, _, so1, (((lo.mono p1 x1).set i q1).set j q2).set l q3, res.mono p1 x1⟩
        · cases a1
      · cases a1
    · cases a1
end
end Mi
namespace Mi
open PySem L2
variable {W : Str → Hp → Prop}
section
variable {nm : Nm} {N : List Str} {G : Gv} {k : Nat} {X : Cx} {tc : Str → Bool}
theorem pip_aug (op : Operator) : PIp X op (RO X.K (augD op)) := by
  intro pins s σ H x y v u Q I r1 r2 h
  obtain ⟨ι, S, d1, d2, so, q1, q2, res⟩ := h
  cases op with
  | Add =>
    cases d1 with
    | int i =>
      cases d2 with
      | int j =>
        have e1 := int_dr q1
        have e2 := int_dr q2
        subst e1 e2
        exact ip_add pins s σ H _ _ v u Q I r1 r2 ⟨i, j, rfl, rfl, res.val so rfl⟩
      | _ => exact res.elim
    | ref m =>
      cases d2 with
      | ref n =>
        simp only [augD] at res
        split at res
        · rename_i xs ys hm hn
          split at res
          · rename_i hz
            obtain ⟨a, ea, ck⟩ := so.at hm
            obtain ⟨b, eb, ck2⟩ := so.at hn
            obtain ⟨a', ea', rfl⟩ := q1
            obtain ⟨b', eb', rfl⟩ := q2
            rw [ea] at ea'; cases ea'
            rw [eb] at eb'; cases eb'
            obtain ⟨vs, hv, dv⟩ := ck
            obtain ⟨us, hu, du⟩ := ck2
            refine iop_ext pins s σ H _ _ v u Q I r1 r2 ⟨a, b, vs, us, rfl, rfl, hv, hu, ?_, ?_⟩
            · rw [dv.length, du.length]; exact of_decide_eq_true hz
            · obtain ⟨s3, x3⟩ := so.put (o := .lst (vs ++ us)) (c' := .lst (xs ++ ys)) ea hm rfl fun x => ⟨_, upd_same, (dv.mono (List.prefix_refl _) x).append (du.mono (List.prefix_refl _) x)⟩
              exact res ι _ _ (List.prefix_refl _) x3 s3 ⟨a, ea, rfl⟩
          · exact res.elim
        · exact res.elim
      | _ => exact res.elim
    | _ => cases d2 <;> exact res.elim
  | Sub =>
    cases d1 with
    | int i =>
      cases d2 with
      | int j =>
        have e1 := int_dr q1
        have e2 := int_dr q2
        subst e1 e2
        exact ip_sub pins s σ H _ _ v u Q I r1 r2 ⟨i, j, rfl, rfl, res.val so rfl⟩
      | _ => exact res.elim
    | _ => cases d2 <;> exact res.elim
  | _ => cases d1 <;> cases d2 <;> exact res.elim
theorem st_loc {sc : Scope} (hsc : X.env.scope = sc) (hf : ∀ x, tc x = true → X.fn x = true) {x : Str} (h : stL tc sc x = true) : L2.Loc X.env.scope x ∧ (X.fn x = true ∨ X.env.scope.names.lookup x = some .local) := by
  unfold stL at h
  split at h
  · rename_i e
    exact ⟨.inl (by rw [hsc]; exact e), .inr (by rw [hsc]; exact e)⟩
  · rename_i e
    exact ⟨.inr (by rw [hsc]; exact e), .inl (hf x h)⟩
  · cases h
theorem erT_star {sc : Scope} {n : Nat} {tg : Expr} {t : CT} (h : erT N sc tc n tg = some t) : notStar tg = true := by
  cases n with
  | zero => cases h
  | succ n =>
    cases tg with
    | Name x p => rfl
    | Tuple es kk p => rfl
    | _ => cases h
def tsetD (K : PySem.W.Frag) : TSet := fun o i v H Q => ∃ ι S S' d k e, Sok K ι H S ∧ DR K ι H d o ∧ DR K ι H k i ∧ DR K ι H e v ∧ subD d k e S = some S' ∧ ∀ H', Xt H H' → Sok K ι H' S' → Q H'
theorem pset_ok (c : Cg X) : PSet X (tsetD X.K) := by
  intro pins s σ H o i v ov iv u Q I ro ri rv h
  obtain ⟨ι, S, S', d, kk, e, so, h1, h2, h3, hs, q⟩ := h
  exact set_ok c I ro ri rv so h1 h2 h3 hs q
theorem erX_is {sc : Scope} {e : Expr} {q : Nat × List Expr} (hsc : X.env.scope = sc) (g : Gd nm N G k X) (h : erX nm sc e = some q) : ∃ x e0 es i p1 p2, e = .Call (.Name x p1) (e0 :: es) [] p2 ∧ q = (i, e0 :: es) ∧ L2.Gl X x ∧ FnAt X k x (G.fn i) ∧ (x == ("__debug__" : Str)) = false ∧ (e0 :: es).all notStar = true := by
  unfold erX at h
  split at h
  · rename_i x p1 es kws p2
    split at h
    · rename_i hc
      obtain ⟨hg, _, hst, hne, hk⟩ := hc
      obtain ⟨i, hi, rfl⟩ := Option.map_eq_some_iff.mp h
      cases kws with
      | cons _ _ => cases hk
      | nil =>
        cases es with
        | nil => cases hne
        | cons e0 es => exact ⟨x, e0, es, i, p1, p2, rfl, rfl, lk_gl (X := X) hsc hg, (g.fns x i hi).1, (g.fns x i hi).2, hst⟩
    · cases h
  · cases h
theorem er_sts : ∀ (n : Nat) (sc : Scope) (X : Cx), X.env.scope = sc → sc.kind = .function → Gd nm N G k X → PassesOwn (model X.prog X.w) X.A X.env X.xe → L2.Takes X (WXs X.K W) → (X.stack = X.env :: X.outer ∧ X.env.frame = some X.env.locals ∧ X.ex = []) → (∀ x, tc x = true → X.fn x = true) → ∀ (sts : List Stmt) (c : CSs), erS nm N tc n sc sts = some c → PSs X sts (TSc G X.K W c) := by
  intro n
  induction n with
  | zero => intro sc X _ _ _ _ _ _ _ sts c h; cases h
  | succ n ih =>
    intro sc X hsc hk g pw tk top hf sts c h
    have ihS := ih sc X hsc hk g pw tk top hf
    have hp := er_exp (nm := nm) (N := N) (G := G) (k := k) n X sc hsc g
    have ndX : X.N.Nodup := by rw [g.n]; exact g.nd
    have tgt : ∀ {tg : Expr} {t : CT}, erT N sc tc n tg = some t → PG X tg (TGc X.K t) := fun {tg t} h => er_tgt g.cg.calm ndX hsc hf n tg t (by rw [g.n]; exact h)
    cases sts with
    | nil =>
      cases h
      exact pss_nil.imp fun D σ H ⟨ι, S, L, so, lo, res⟩ => res_nx so lo res
    | cons st rest =>
      cases st with
      | Assign tgs e p =>
        cases tgs with
        | nil => cases h
        | cons tg more =>
          cases more with
          | cons _ _ => cases h
          | nil =>
            by_cases hsub : ∃ o i q, tg = .Subscript o i q
            · obtain ⟨o, i, q, rfl⟩ := hsub
              replace h : (if notComp e = true ∧ notSlice i = true then (erE nm N n sc e).bind fun ce => (erE nm N n sc o).bind fun co => (erE nm N n sc i).bind fun ci => (erS nm N tc n sc rest).map fun r => CSs.sub co ci ce r else none) = some c := h
              split at h
              · rename_i hc
                obtain ⟨ce, he, h⟩ := Option.bind_eq_some_iff.mp h
                obtain ⟨co, ho, h⟩ := Option.bind_eq_some_iff.mp h
                obtain ⟨ci, hi, h⟩ := Option.bind_eq_some_iff.mp h
                obtain ⟨r, hr, rfl⟩ := Option.map_eq_some_iff.mp h
                have pg := pg_sub (pos := q) (hp o co ho).pe (hp i ci hi).pe (pset_ok g.cg) (by intro v; cases i <;> first | rfl | exact absurd hc.2 Bool.false_ne_true)
                refine (pss_cons (ps_asg (pos := p) (hp e ce he).pe pg (show swapsWith e (some (.Subscript o i q)) p.line X.env = pure false from sw_plain hc.1) (by rfl) (by rfl)) (ihS rest r hr)).imp fun D σ H ⟨ι, S, L, so, lo, res⟩ => ?_
                obtain ⟨v, S1, e1, res⟩ := ResS.step res
                refine TEc.of so lo e1 fun ι1 H1 vv p1 x1 so1 r1 => ?_
                obtain ⟨x, S2, e2, res⟩ := ResS.step (res.mono p1 x1)
                have lo1 := lo.mono p1 x1
                refine TEc.of so1 lo1 e2 fun ι2 H2 vo p2 x2 so2 r2 => ?_
                obtain ⟨kk, S3, e3, res⟩ := ResS.step (res.mono p2 x2)
                have lo2 := lo1.mono p2 x2
                refine TEc.of so2 lo2 e3 fun ι3 H3 vi p3 x3 so3 r3 => ?_
                have res := res.mono p3 x3
                split at res
                · rename_i S4 hs
                  exact ⟨ι3, S3, S4, x, kk, v, so3, r2.mono p3 x3 _, r3, (r1.mono p2 x2 _).mono p3 x3 _, hs, fun H4 x4 so4 => ⟨ι3, S4, L, so4, (lo2.mono p3 x3).mono (List.prefix_refl _) x4, res.mono (List.prefix_refl _) x4⟩⟩
                · exact res.elim
              · cases h
            · replace h : (if plainSt sc tg e = true ∧ (notComp e = true ∨ isLc e = true) then (erT N sc tc n tg).bind fun t => (erE nm N n sc e).bind fun c => (erS nm N tc n sc rest).map fun r => CSs.asg t c r else none) = some c := by
                cases tg with
                | Subscript o i q => exact absurd ⟨o, i, q, rfl⟩ hsub
                | _ => exact h
              split at h
              · rename_i hc
                obtain ⟨hpl, hcm⟩ := hc
                obtain ⟨t, ht, h⟩ := Option.bind_eq_some_iff.mp h
                obtain ⟨ce, he, h⟩ := Option.bind_eq_some_iff.mp h
                obtain ⟨r, hr, rfl⟩ := Option.map_eq_some_iff.mp h
                have hr2 := ihS rest r hr
                have st1 := erT_star ht
                cases tg with
                | Name x py =>
                  have nosw : swappedStores [.Name x py] e X.env = pure none := by rfl
                  rcases hcm with hcm | hcm
                  · exact asg_plain (hp e ce he).pe (tgt ht) st1 (sw_plain hcm) nosw hr2
                  · cases e with
                    | ListComp elt gs scope pos =>
                      have hsw := sw_name (elt := elt) (gs := gs) (scope := scope) (pos := pos) (py := py) (x := x) (l := p.line) (env := X.env) hsc hk
                      cases hb : swB sc scope x py.line pos.line with
                      | false =>
                        rw [hb] at hsw
                        exact asg_plain (hp _ ce he).pe (tgt ht) st1 hsw nosw hr2
                      | true =>
                        rw [hb] at hsw
                        cases n with
                        | zero => cases he
                        | succ n =>
                          have he' : erLc nm N (erE nm N n) n sc elt gs scope = some ce := he
                          obtain ⟨tg2, it, ifs, t2, ci, cc, ce2, rfl, rfl, P⟩ := lc_parts (er_exp n) hsc g he'
                          have hx : sc.names.lookup x = some .local := by
                            unfold swB at hb
                            simp only [Bool.and_eq_true, beq_iff_eq] at hb
                            exact hb.1.1
                          have ht' : (ixOf N x).map CT.nm = some t := by
                            have ht := ht
                            simp only [erT, hx] at ht
                            exact ht
                          obtain ⟨i, hi, rfl⟩ := Option.map_eq_some_iff.mp ht'
                          exact asg_lc hsc g P hx hi hsw hr2
                    | _ => cases hcm
                | Tuple ts kk tp =>
                  have hsw : swapsWith e (some (.Tuple ts kk tp)) p.line X.env = pure false := sw_notName hcm (fun x q z => by cases z)
                  by_cases het : ∃ vs k2 p2, e = .Tuple vs k2 p2
                  · obtain ⟨vs, k2, p2, rfl⟩ := het
                    replace hpl : (parNo sc ts vs || isPar sc ts vs) = true := hpl
                    cases n with
                    | zero => cases he
                    | succ m =>
                      obtain ⟨cs, hcs, rfl⟩ := Option.map_eq_some_iff.mp (show (erAll (erE nm N m sc) vs).map (fun cs => CE.tup (caOf cs)) = some ce from he)
                      have hst := all_star hcs
                      cases hpn : parNo sc ts vs with
                      | true => exact asg_plain (hp _ _ he).pe (tgt ht) st1 hsw (sw_none hsc hst hpn) hr2
                      | false =>
                        rw [hpn, Bool.false_or] at hpl
                        have hpa := pa_of (X := X) (G := G) hcs hst (er_exp (nm := nm) (N := N) (G := G) (k := k) m X sc hsc g)
                        have hpl' := hpl
                        unfold isPar at hpl'
                        split at hpl'
                        · rename_i x px y py a b
                          have hh := hpl
                          simp only [isPar, Bool.and_eq_true, Bool.not_eq_true', decide_eq_true_eq] at hh
                          obtain ⟨⟨⟨⟨h1, h2⟩, h3⟩, _⟩, _⟩ := hh
                          obtain ⟨i, j, hi, hj, rfl⟩ := erT_two (lns h1).1 (lns h2).1 ht
                          have hcs' := hcs
                          unfold erAll at hcs'
                          obtain ⟨ca, r1, _, g2, rfl⟩ := allSome_cons hcs'
                          obtain ⟨cb, r2, _, g4, rfl⟩ := allSome_cons g2
                          cases g4
                          exact asg_two hsc hk g hst hpl hi hj hpa hr2
                        · rename_i x px y py z pz a b d
                          have hh := hpl
                          simp only [isPar, Bool.and_eq_true, Bool.not_eq_true', decide_eq_true_eq] at hh
                          obtain ⟨⟨⟨⟨⟨⟨⟨h1, h2⟩, h3⟩, h4⟩, h5⟩, h6⟩, _⟩, _⟩ := hh
                          obtain ⟨i, j, l, hi, hj, hl, rfl⟩ := erT_three (lns h1).1 (lns h2).1 (lns h3).1 ht
                          have hcs' := hcs
                          unfold erAll at hcs'
                          obtain ⟨ca, r1, _, g2, rfl⟩ := allSome_cons hcs'
                          obtain ⟨cb, r2, _, g4, rfl⟩ := allSome_cons g2
                          obtain ⟨cc, r3, _, g6, rfl⟩ := allSome_cons g4
                          cases g6
                          exact asg_three hsc hk g hst hpl hi hj hl hpa hr2
                        · cases hpl'
                  · have nosw : swappedStores [.Tuple ts kk tp] e X.env = pure none := by
                      cases e with
                      | Tuple vs k2 p2 => exact absurd ⟨vs, k2, p2, rfl⟩ het
                      | _ => rfl
                    exact asg_plain (hp e ce he).pe (tgt ht) st1 hsw nosw hr2
                | Subscript o i q => exact absurd ⟨o, i, q, rfl⟩ hsub
                | _ =>
                  cases n with
                  | zero => cases ht
                  | succ n => cases ht
              · cases h
      | AugAssign tg op e p =>
        cases tg with
        | Name x px =>
          replace h : (if stL tc sc x = true then (ixOf N x).bind fun i => (erE nm N n sc e).bind fun c => (erS nm N tc n sc rest).map fun r => CSs.aug i op c r else none) = some c := h
          split at h
          · rename_i hst
            obtain ⟨i, hi, h⟩ := Option.bind_eq_some_iff.mp h
            obtain ⟨ce, he, h⟩ := Option.bind_eq_some_iff.mp h
            obtain ⟨r, hr, rfl⟩ := Option.map_eq_some_iff.mp h
            obtain ⟨l1, l2⟩ := st_loc hsc hf hst
            refine (pss_cons (ps_aug ndX (by rw [g.n]; exact ixOf_get hi) l1 (hp e ce he).pe (pip_aug op) l2) (ihS rest r hr)).imp fun D σ H ⟨ι, S, L, so, lo, res⟩ => ?_
            simp only [exS] at res
            split at res
            · rename_i d hd
              obtain ⟨v, ev, rv⟩ := lo.2 i d hd
              refine ⟨v, ev, ?_⟩
              obtain ⟨d2, S1, e1, res⟩ := ResS.step res
              refine TEc.of so lo e1 fun ι1 H1 v2 p1 x1 so1 r1 => ?_
              obtain ⟨z, S2, e2, res⟩ := ResS.step (res.mono p1 x1)
              refine ⟨ι1, S1, d, d2, so1, rv.mono p1 x1 _, r1, ?_⟩
              rw [e2]
              exact fun ι2 H2 vz p2 x2 so2 r2 => ⟨ι2, S2, _, so2, ((lo.mono p1 x1).mono p2 x2).set i r2, res.mono p2 x2⟩
            · exact res.elim
          · cases h
        | _ => cases h
      | Expr e p =>
        replace h : (match erX nm sc e with
          | some q => (erAll (erE nm N n sc) q.2).bind fun cs => (erS nm N tc n sc rest).map fun r => CSs.xexp q.1 (caOf cs) r
          | none => if notComp e = true then (erE nm N n sc e).bind fun c => (erS nm N tc n sc rest).map fun r => CSs.exp c r else none) = some c := h
        cases hx : erX nm sc e with
        | some q =>
          rw [hx] at h
          obtain ⟨cs, hcs, h⟩ := Option.bind_eq_some_iff.mp h
          obtain ⟨r, hr, rfl⟩ := Option.map_eq_some_iff.mp h
          obtain ⟨x, e0, es, i, p1, p2, rfl, rfl, gl, fa, hd, hst⟩ := erX_is (X := X) hsc g hx
          have pa := pa_of (X := X) (G := G) hcs hst hp
          have st2 : es.all notStar = true := by rw [List.all_cons, Bool.and_eq_true] at hst; exact hst.2
          have pc := pe_callX (Wf := fun _ => W) (p := p1) (pos := p2) tk (fun σ x C H2 hC w => ⟨x, C, hC, rfl, rfl, w⟩) fa g.room g.cg.gu gl hd pa (star_cons X.env hst) (star_plain X.env p2 st2)
          refine (pss_cons (ps_expr pc (sw_drop rfl)) (ihS rest r hr)).imp fun D σ H ⟨ι, S, L, so, lo, res⟩ => ?_
          obtain ⟨ds, S1, e1, res⟩ := ResS.step res
          refine TAc.of so lo e1 fun ι1 H1 vs p1 x1 so1 r1 => ⟨ι1, S1, ds, so1, r1, ?_⟩
          have lo1 := lo.mono p1 x1
          have res := res.mono p1 x1
          cases e2 : G.fn i ds S1 with
          | bad => rw [e2] at res; exact res.elim
          | ok d S2 =>
            rw [e2] at res
            exact fun ι2 H2 v p2 x2 so2 r2 => ⟨ι2, S2, L, so2, lo1.mono p2 x2, ResS.mono res p2 x2⟩
          | exc y S2 =>
            rw [e2] at res
            exact fun ι2 H2 p2 x2 so2 => res ι2 H2 σ p2 x2 so2 (lo1.mono p2 x2)
        | none =>
        rw [hx] at h
        replace h : (if notComp e = true then (erE nm N n sc e).bind fun c => (erS nm N tc n sc rest).map fun r => CSs.exp c r else none) = some c := h
        split at h
        · rename_i hc
          obtain ⟨ce, he, h⟩ := Option.bind_eq_some_iff.mp h
          obtain ⟨r, hr, rfl⟩ := Option.map_eq_some_iff.mp h
          refine (pss_cons (ps_expr (hp e ce he).pe (sw_drop hc)) (ihS rest r hr)).imp fun D σ H ⟨ι, S, L, so, lo, res⟩ => ?_
          obtain ⟨d, S1, e1, res⟩ := ResS.step res
          exact TEc.of so lo e1 fun ι1 H1 v p1 x1 so1 r1 => ⟨ι1, S1, L, so1, lo.mono p1 x1, res.mono p1 x1⟩
        · cases h
      | Return v p =>
        cases v with
        | some e =>
          obtain ⟨ce, he, rfl⟩ := Option.map_eq_some_iff.mp (show (erE nm N n sc e).map CSs.ret = some c from h)
          refine (pss_cons (ps_ret (hp e ce he).pe) pss_never).imp fun D σ H ⟨ι, S, L, so, lo, res⟩ => ?_
          obtain ⟨d, S1, e1, res⟩ := ResS.step res
          exact TEc.of so lo e1 fun ι1 H1 v p1 x1 so1 r1 => res ι1 H1 σ p1 x1 so1 (lo.mono p1 x1) v r1
        | none =>
          cases h
          refine (pss_cons ps_retN pss_never).imp fun D σ H ⟨ι, S, L, so, lo, res⟩ => ?_
          exact res ι H σ (List.prefix_refl _) (Xt.refl _) so lo .non rfl
      | If ce a b p =>
        replace h : ((erE nm N n sc ce).bind fun c => (erS nm N tc n sc a).bind fun a => (erS nm N tc n sc b).bind fun b => (erS nm N tc n sc rest).map fun r => CSs.ifs c a b r) = some c := h
        obtain ⟨cc, hcc, h⟩ := Option.bind_eq_some_iff.mp h
        obtain ⟨ca, ha, h⟩ := Option.bind_eq_some_iff.mp h
        obtain ⟨cb, hb, h⟩ := Option.bind_eq_some_iff.mp h
        obtain ⟨r, hr, rfl⟩ := Option.map_eq_some_iff.mp h
        refine (pss_cons (ps_if (hp ce cc hcc).pt (ihS a ca ha) (ihS b cb hb)) (ihS rest r hr)).imp fun D σ H ⟨ι, S, L, so, lo, res⟩ => ?_
        obtain ⟨d, S1, e1, res⟩ := ResS.step res
        obtain ⟨t, rfl, res⟩ := ifB_resS res
        refine TTc.of so lo e1 fun ι1 H1 p1 x1 so1 => ?_
        have res := ResS.rest (res.mono p1 x1)
        cases t with
        | true => exact ⟨ι1, S1, L, so1, lo.mono p1 x1, res⟩
        | false => exact ⟨ι1, S1, L, so1, lo.mono p1 x1, res⟩
      | For tg it body els p =>
        replace h : (if els.isEmpty = true then (erT N sc tc n tg).bind fun t => (erI (erE nm N n sc) nm sc tg it).bind fun i => (erS nm N tc n sc body).bind fun b => (erS nm N tc n sc rest).map fun r => CSs.for_ t i b r else none) = some c := h
        split at h
        · rename_i hels
          have hels : els = [] := by cases els with
            | nil => rfl
            | cons _ _ => cases hels
          subst hels
          obtain ⟨t, ht, h⟩ := Option.bind_eq_some_iff.mp h
          obtain ⟨ci, hci, h⟩ := Option.bind_eq_some_iff.mp h
          obtain ⟨cb, hb, h⟩ := Option.bind_eq_some_iff.mp h
          obtain ⟨r, hr, rfl⟩ := Option.map_eq_some_iff.mp h
          obtain ⟨hi, hns⟩ := pi_of (tg := tg) g hsc hp hci
          exact (pss_cons (ps_for pw g.cg.calm hi (tgt ht) (ihS body cb hb) (fold_of hns)) (ihS rest r hr)).imp fun D σ H h => for_go h
        · cases h
      | While ce body els p =>
        replace h : (if els.isEmpty = true then (erE nm N n sc ce).bind fun c => (erS nm N tc n sc body).bind fun b => (erS nm N tc n sc rest).map fun r => CSs.whl c b r else none) = some c := h
        split at h
        · rename_i hels
          have hels : els = [] := by cases els with
            | nil => rfl
            | cons _ _ => cases hels
          subst hels
          obtain ⟨cc, hcc, h⟩ := Option.bind_eq_some_iff.mp h
          obtain ⟨cb, hb, h⟩ := Option.bind_eq_some_iff.mp h
          obtain ⟨r, hr, rfl⟩ := Option.map_eq_some_iff.mp h
          exact (pss_cons (ps_while pw (hp ce cc hcc).pt (ihS body cb hb)) (ihS rest r hr)).imp fun D σ H h => wh_go h
        · cases h
      | Pass p =>
        exact (pss_cons ps_pass (ihS rest c h)).imp fun D σ H h => h
      | Break p =>
        cases h
        exact (pss_cons ps_break pss_never).imp fun D σ H ⟨ι, S, L, so, lo, res⟩ => res ι H σ (List.prefix_refl _) (Xt.refl _) so lo
      | Continue p =>
        cases h
        exact (pss_cons ps_continue pss_never).imp fun D σ H ⟨ι, S, L, so, lo, res⟩ => res ι H σ (List.prefix_refl _) (Xt.refl _) so lo
      | Raise e cz p =>
        replace h : (if rest.isEmpty = true then some (erRaise nm sc e cz) else none) = some c := h
        split at h
        · rename_i hre
          have hre : rest = [] := by cases rest with
            | nil => rfl
            | cons _ _ => cases hre
          subst hre
          cases h
          have nev : PSs X [.Raise e cz p] (TSc G X.K W .nev) := (pss_one ps_never).imp fun D σ H ⟨ι, S, L, so, lo, res⟩ => res.elim
          unfold erRaise
          split
          · rename_i x p1 p2
            split
            · rename_i hc
              obtain ⟨C, bmB, B, newId, initId, gC, hC, kC, F, q, rs, _, hdb⟩ := (g.xs x hc.2).ex
              refine (pss_one (ps_raise g.cg.calm tk (pmk_own0 F q gC kC rs (lk_gl (X := X) hsc hc.1) hdb))).imp fun D σ H ⟨ι, S, L, so, lo, res⟩ => ?_
              exact ⟨x, C, hC, rfl, rfl, res ι H σ (List.prefix_refl _) (Xt.refl _) so lo⟩
            · exact nev
          · exact nev
        · cases h
      | Try body hds els fin p =>
        replace h : ((erTry nm N sc body hds els fin).bind fun q => (erAll (erE nm N n sc) q.2.1).bind fun cs => (erS nm N tc n sc rest).map fun r => CSs.tryR q.1 (caOf cs) q.2.2.1 q.2.2.2 nm.xs r) = some c := h
        obtain ⟨q, hq, h⟩ := Option.bind_eq_some_iff.mp h
        obtain ⟨cs, hcs, h⟩ := Option.bind_eq_some_iff.mp h
        obtain ⟨r, hr, rfl⟩ := Option.map_eq_some_iff.mp h
        unfold erTry at hq
        split at hq
        · rename_i e rp cn cp n1 m mp n2 np ap hp'
          split at hq
          · rename_i hc
            obtain ⟨rfl, hg, hcat, hl1, hl2, hd1, hd2⟩ := hc
            obtain ⟨q', hx, hq⟩ := Option.bind_eq_some_iff.mp hq
            obtain ⟨i, hi, hq⟩ := Option.bind_eq_some_iff.mp hq
            obtain ⟨j, hj, rfl⟩ := Option.map_eq_some_iff.mp hq
            obtain ⟨hs1, hs2, hs3⟩ := top
            obtain ⟨u, ⟨cdb, cu⟩, hcx⟩ := (g.cat cn hcat).ex
            have nms : Names X cn u := ⟨lk_gl (X := X) hsc hg, cdb, by
              rcases cu with ⟨h1, _⟩ | ⟨h1, h2, h3, _⟩
              · exact .inl h1
              · exact .inr ⟨h1, h2, h3⟩⟩
            have hi' : X.N[i]? = some n2 := by rw [g.n]; exact ixOf_get hi
            have hj' : X.N[j]? = some m := by rw [g.n]; exact ixOf_get hj
            have keep := ps_keep (kp := mp) (vp := np) (ap := ap) (hp := hp') (pos := p) (np := cp) (body := [.Return (some e) rp]) (tb := fun W' D σ H => TAc G X.K (caOf cs) σ H fun vs H1 => RXC X.K (G.fn q'.1) (fun x H2 => ∀ C, ClsN X.K x C → W' (.ref C) none σ H2) vs H1 D.rt) hs1 hs2 ndX hi' hj' (List.getElem?_eq_some_iff.mp hi').1 (by show X.env.scope.names.lookup n2 = _; rw [hsc]; exact hl1) (by rw [hsc]; exact hl2) hd1 hd2 nms hs3 (fun W' pn xe tk' pw' => by
              have g' := g.tr pn xe
              obtain ⟨x, e0, es, k2, p1, p2, rfl, rfl, gl, fa, hd, hst⟩ := erX_is (X := X.tr pn xe) hsc g' hx
              have pa := pa_of (X := X.tr pn xe) (G := G) hcs hst (er_exp (nm := nm) (N := N) (G := G) (k := k) n (X.tr pn xe) sc hsc g')
              have st2 : es.all notStar = true := by rw [List.all_cons, Bool.and_eq_true] at hst; exact hst.2
              exact pss_one (ps_ret (pe_callX (X := X.tr pn xe) (Wf := fun σ x H2 => ∀ C, ClsN X.K x C → W' (.ref C) none σ H2) (p := p1) (pos := p2) tk' (fun σ x C H2 hC w => w C hC) fa g'.room g'.cg.gu gl hd pa (star_cons X.env hst) (star_plain X.env p2 st2))))
            refine (pss_cons keep (ihS rest r hr)).imp fun D σ H ⟨ι, S, L, so, lo, res⟩ => ?_
            obtain ⟨ds, S1, e1, res⟩ := ResS.step res
            refine TAc.of so lo e1 fun ι1 H1 vs p1 x1 so1 r1 => ⟨ι1, S1, ds, so1, r1, ?_⟩
            have lo1 := lo.mono p1 x1
            have res := res.mono p1 x1
            cases e2 : G.fn q'.1 ds S1 with
            | bad => rw [e2] at res; exact res.elim
            | ok d S2 =>
              rw [e2] at res
              exact fun ι2 H2 v p2 x2 so2 r2 => res ι2 H2 σ p2 x2 so2 (lo1.mono p2 x2) v r2
            | exc y S2 =>
              rw [e2] at res
              intro ι2 H2 p2 x2 so2 C hC
              replace res : ResS X.K W ι1 H1 (if nm.xs.contains y.cls = true then exS G r (((L.set i (some (.ref S2.length))).set j (some (.ref S2.length))).set i none) (S2 ++ [.exc y.cls]) else .bad) D := res
              split at res
              · rename_i hy
                refine ⟨hcx y.cls (by simpa using hy) C hC, rfl, C, rfl, fun ea na => ?_⟩
                have xx : Xt H2 (upd H2 ea (xHO C ea)) := Xt.new na
                have so3 : Sok X.K (ι2 ++ [ea]) (upd H2 ea (xHO C ea)) (S2 ++ [.exc y.cls]) := so2.push na ⟨C, hC, upd_same⟩
                have hn : (ι2 ++ [ea])[S2.length]? = some ea := by rw [← so2.len]; simp
                have dr : DR X.K (ι2 ++ [ea]) (upd H2 ea (xHO C ea)) (.ref S2.length) (.ref ea) := ⟨ea, hn, rfl⟩
                have lo3 := (((lo1.mono p2 x2).mono (List.prefix_append ι2 [ea]) xx).set i dr).set j dr
                exact ⟨_, _, _, so3, lo3.wipe [i], ResS.mono res (p2.trans (List.prefix_append ι2 [ea])) (x2.trans xx)⟩
              · exact res.elim
          · cases hq
        · cases hq
      | _ => cases h
end
end Mi
namespace Mi
open PySem L2
theorem zip_look : ∀ {ns : List Str} {us : List Value}, ns.Nodup → us.length = ns.length → ∀ (l : List Str), (∀ n ∈ l, n ∈ ns) → (l.filter fun n => ((ns.zip us).lookup n).isNone) = [] := by
  intro ns us nd hl l hm
  rw [List.filter_eq_nil_iff]
  intro n hn
  have : ∀ {ns : List Str} {us : List Value}, us.length = ns.length → n ∈ ns → ((ns.zip us).lookup n).isNone = false := by
    intro ns
    induction ns with
    | nil => intro us _ h; cases h
    | cons m ns ih =>
      intro us hl h
      cases us with
      | nil => simp at hl
      | cons u us =>
        rw [List.zip_cons_cons, List.lookup_cons]
        by_cases e : n == m
        · rw [e]; rfl
        · have e : (n == m) = false := by simpa using e
          rw [e]
          rcases List.mem_cons.mp h with h | h
          · subst h; simp at e
          · exact ih (by simpa using hl) h
  rw [this hl (hm n hn)]
  exact Bool.false_ne_true
theorem zip_back : ∀ {ns : List Str} {us : List Value}, ns.Nodup → us.length = ns.length → (ns.filterMap fun n => ((ns.zip us).lookup n).map fun v => (n, v)) = ns.zip us := by
  have key : ∀ (ns : List Str) (us : List Value) (m : List (Str × Value)), ns.Nodup → us.length = ns.length → (∀ n ∈ ns, m.lookup n = (ns.zip us).lookup n) → (ns.filterMap fun n => (m.lookup n).map fun v => (n, v)) = ns.zip us := by
    intro ns
    induction ns with
    | nil => intro us m _ _ _; simp
    | cons n ns ih =>
      intro us m nd hl hm
      cases us with
      | nil => simp at hl
      | cons u us =>
        rw [List.filterMap_cons, hm n (by simp), List.zip_cons_cons, List.lookup_cons]
        simp only [beq_self_eq_true, Option.map_some]
        congr 1
        rw [List.nodup_cons] at nd
        refine ih us m nd.2 (by simpa using hl) fun k hk => ?_
        rw [hm k (by simp [hk]), List.zip_cons_cons, List.lookup_cons]
        have : (k == n) = false := by
          rw [beq_eq_false_iff_ne]
          rintro rfl
          exact nd.1 hk
        rw [this]
  intro ns us nd hl
  exact key _ _ _ nd hl fun _ _ => rfl
theorem bind_plain {fd : FuncData} {args : List Arg} {kd : List (Option Expr)} {dfs : List Expr} (hp : fd.params = ⟨[], args, none, [], kd, none, dfs⟩) (hd : fd.defaults = .none) {us : List Value} (hl : us.length = (args.map (·.arg)).length) (nd : (args.map (·.arg)).Nodup) :
    bindArgs fd ⟨us, []⟩ = pure ((args.map (·.arg)).zip us) := by
  have e0 : seqItems? Value.none = pure none := by rfl
  have hl2 : us.length = args.length := by simpa using hl
  have lk := zip_look nd hl (args.map (·.arg)) (fun n h => h)
  have bk := zip_back nd hl
  unfold bindArgs
  rw [hp, hd, e0]
  simp [hl2, bk]
  have lk2 : List.filter (fun n => (List.lookup n ((List.map (fun x => x.arg) args).zip us)).isNone) (List.take ((List.map (fun x => x.arg) ([] : List Arg) ++ List.map (fun x => x.arg) args).length - (List.drop ((#[] : Array Value).size - (List.map (fun x => x.arg) ([] : List Arg) ++ List.map (fun x => x.arg) args).length) ([] : List Value)).length) (List.map (fun x => x.arg) ([] : List Arg) ++ List.map (fun x => x.arg) args)) = [] :=
    zip_look nd hl _ (fun n h => by
      have := List.mem_of_mem_take h
      simpa using this)
  refine Eq.trans (if_neg ?_) ?_
  · rw [lk2]; exact Bool.false_ne_true
  · congr 1
    rw [← List.filterMap_map]
    exact bk
/-- a def of the text, erased: N: its names, parameters first -/
def erF (nm : Nm) (n : Nat) (N : List Str) (st : Stmt) : Option CF := match st with
  | .FunctionDef _ a b _ _ _ sc _ _ _ =>
    let ps := a.args.map (·.arg)
    if C8.scC N ps sc = true ∧ ps.Nodup ∧ a.posonlyargs.isEmpty = true ∧ a.vararg.isNone = true ∧ a.kwonlyargs.isEmpty = true ∧ a.kwarg.isNone = true then (erS nm N (fun _ => true) n sc b).map fun c => ⟨ps.length, N.length, c⟩ else none
  | _ => none
/-- classes, by the written part -/
structure XcK (K : PySem.W.Frag) (mg : Str → Option Value) (x : Str) : Prop where
  ex : ∃ (C : Addr) (bmB : List Value) (B newId initId : String), mg x = some (.ref C) ∧ ClsN K x C ∧ PySem.W.keepIn K (.ref C) = true ∧ ExcBaseFacts B newId initId bmB ∧ PySem.W.excIn K C bmB newId = true ∧
    PySem.W.subIn K (.ref C) (.type "BaseException") = some true ∧ PySem.W.typeIn K (.ref C) = some (.type "type") ∧ ExcC K C ∧ (x == ("__debug__" : Str)) = false
def ClsK2 (mg : Str → Option Value) (y : Str) (u : Value) : Prop := (y == ("__debug__" : Str)) = false ∧ ((mg y = some u ∧ ∃ C, u = .ref C) ∨ (mg y = none ∧ bootBuiltins y = some u ∧ y ≠ "__name__" ∧ ∃ t, u = .type t))
structure IsxK (K : PySem.W.Frag) (mg : Str → Option Value) (xs ys yes : List Str) : Prop where
  ex : ∃ us : List Value, us.length ≤ 1000 ∧ Paired (ClsK2 mg) ys us ∧ ∀ x ∈ xs, ∀ C, ClsN K x C → PySem.W.kitAny K (.ref C) us = some (yes.contains x)
structure CatK (K : PySem.W.Frag) (mg : Str → Option Value) (xs : List Str) (c : Str) : Prop where
  ex : ∃ u, ClsK2 mg c u ∧ ∀ x ∈ xs, ∀ C, ClsN K x C → PySem.W.exmOne K (.ref C) u = some true
/-- a class that keeps one field -/
structure FxK (K : PySem.W.Frag) (mg : Str → Option Value) (x f : Str) : Prop where
  ex : ∃ (C fI : Addr) (fd : FuncData) (pS pV : Str), mg x = some (.ref C) ∧ ClsN K x C ∧ FxC K C f ∧ PySem.W.findIn K (.ref C) "__init__" = some (some (.ref fI)) ∧ PySem.W.typeIn K (.ref fI) = some (.type "function") ∧ (∀ (P : Program) (w : World) (base : Heap), FnOk P w K mg base (L2.CX P w) 1 fI fd [pS, pV] (spI K f)) ∧ Binds K fd [pS, pV] [] ∧ (x == ("__debug__" : Str)) = false
/-- what stands around a call of any def -/
structure Gb (nm : Nm) (G : Gv) (P : Program) (w : World) (K : PySem.W.Frag) (mg : Str → Option Value) (base : Heap) (k : Nat) : Prop where
  sm : ∃ o es n, base.get? sysModules = some o ∧ o.data = .dict es n
  fns : ∀ x i, nm.fn x = some i → (x == ("__debug__" : Str)) = false ∧ ∃ f fd ps, mg x = some (.ref f) ∧ PySem.W.keepIn K (.ref f) = true ∧ FnG P w K mg base k f fd ps (G.fn i) ∧ Binds K fd ps [] ∧ ∀ ds S, ds.length ≠ ps.length → G.fn i ds S = .bad
  cts : ∀ x i d, nm.ct x = some i → G.ct i = some d → ∃ u v, mg x = some u ∧ RelV v u ∧ (∀ ι H, DR K ι H d v) ∧ (x == ("__debug__" : Str)) = false
  bls : ∀ x, x ∈ nm.bl → mg x = none
  xs : ∀ x, x ∈ nm.xs → XcK K mg x
  ix : ∀ ys yes, nm.yes ys = some yes → IsxK K mg nm.held ys yes
  cat : ∀ c, c ∈ nm.cat → CatK K mg nm.xs c
  fx : ∀ p, p ∈ nm.fx → FxK K mg p.1 p.2
section
variable {nm : Nm} {N : List Str} {G : Gv} {k : Nat} {P : Program} {w : World} {K : PySem.W.Frag} {mg : Str → Option Value} {base : Heap}
theorem Room.un150 {A : Around} (h : Room k A) : A.units + 150 < cLine := by have := h.un; omega
theorem gc_isok (S : Store) (d : D) (S' : Store) : ∃ d2 S2, Mi.gc S d S' = .ok d2 S2 := by
  unfold Mi.gc
  split
  · exact ⟨_, _, rfl⟩
  · split
    · split
      · split
        · exact ⟨_, _, rfl⟩
        · exact ⟨_, _, rfl⟩
      · exact ⟨_, _, rfl⟩
    · exact ⟨_, _, rfl⟩
theorem ResX.ungc {K : PySem.W.Frag} {ι : List Addr} {H : Hp} {S : Store} {r : R D} {Q : VK} {W : Str → Hp → Prop} (so : Sok K ι H S) (h : ResX K ι H (r.gc S) Q W) : ResX K ι H r Q W := by
  cases r with
  | exc _ _ => exact h
  | bad => exact h
  | ok d S' =>
    obtain ⟨d2, S2, e⟩ := gc_isok S d S'
    have h1 : ResX K ι H (Mi.gc S d S') Q W := h
    rw [e] at h1
    have h2 : Res K ι H ((R.ok d S').gc S) Q := by
      show Res K ι H (Mi.gc S d S') Q
      rw [e]
      exact h1
    exact Res.ungc so h2
/-- THE RULE for a def -/
theorem fn_g {x qual : Str} {f : Addr} {n : Nat} {st : Stmt} {cf : CF} {oc dV kV doc pm cdv ct : Value} {od an : Option Addr} {osl : Array (Option Value)} (b : Gb nm G P w K mg base k) (er : erF nm n N st = some cf)
    (lk : K.lookup f = some ⟨oc, od, .func (PySem.W.fnOf x qual (defArgs st) (defBody st) (defScope st) dV kV doc pm an cdv ct), osl⟩) (hcd : PySem.W.codeIn K cdv qual = true) :
    FnG P w K mg base (k + 1) f (PySem.W.fnOf x qual (defArgs st) (defBody st) (defScope st) dV kV doc pm an cdv ct) ((defArgs st).args.map (·.arg)) (runF G cf) := by
  refine ⟨fun A outer s H args us vs Q W hr hgu e0 hb r hl hsp => ?_⟩
  obtain ⟨ι, S, ds, so, dr, res⟩ := hsp
  cases st with
  | FunctionDef nme a body dl rt tp sc ts bd pos =>
    simp only [erF] at er
    split at er
    · rename_i hc
      obtain ⟨c, hcs, rfl⟩ := Option.map_eq_some_iff.mp er
      have SS : FnScope N (a.args.map (·.arg)) sc := C8.fnScope_by hc.1
      have KX : K.In s.heap := e0.mod.kin.keeps fun b o e => (e0.bs b o e).1
      have lim : s.heap.NoLimit := e0.mod.nolimit.keeps fun b o e => (e0.bs b o e).1
      have hkind : ∀ y ∈ (a.args.map (·.arg)).zip us, sc.names.lookup y.1 = some .local ∨ (sc.names.lookup y.1 = some .cell ∧ ((cellsFrom (s.heap.objs.size + 1) sc.names []).lookup y.1).isSome = true) := fun ⟨n, v⟩ hy => by
        rcases SS.par n (List.of_mem_zip hy).1 with q | q
        · exact .inl q
        · exact .inr ⟨q, PySem.W.cellsFrom_some _ _ _ (.inl q)⟩
      have hl : vs.length = (a.args.map (·.arg)).length := hl
      refine codeAny_call_function hr.depth (KX _ _ lk) rfl SS.co SS.gen rfl (PySem.W.codeRec_of KX hcd) (hb _ _ _ _ ?_)
      refine wpAny_newFunctionEnv_cells SS.kind hkind fun env he s1 x => ?_
      subst he
      refine ⟨lim.keeps x.toInCall.keep, codeAny_func ?_⟩
      have I : Inv (cxOf (L2.CX P w) P w K mg base N qual sc f cdv A outer s H (WX0 K W)) [] (L2.start N vs) H s1 := inv_start SS hr.hd e0 hl r x
      have gd : Gd nm N G k (cxOf (L2.CX P w) P w K mg base N qual sc f cdv A outer s H (WX0 K W)) := by
        have hr' := hr.deeper (PyProof.Rows.envOfC qual sc s.heap.objs.size f cdv)
        refine ⟨⟨rfl, Room.un150 hr', hgu, b.sm⟩, rfl, SS.nd, hr', fun y i hy => ?_, b.cts, b.bls, fun x h => ?_, fun ys yes h => ?_, fun c h => ?_, fun p h => ?_⟩
        · obtain ⟨h1, f2, fd2, ps2, h2, h3, h4, h5, h6⟩ := b.fns y i hy
          exact ⟨⟨f2, fd2, ps2, h2, h3, h4, h5, h6⟩, h1⟩
        · obtain ⟨C, bmB, B, n1, n2, a1, a2, a3, a4, a5, a6, a7, a8, a9⟩ := (b.xs x h).ex
          exact ⟨C, bmB, B, n1, n2, a1, a2, a3, a4, a5, raises_own a6 a7, a8, a9⟩
        · exact ⟨(b.ix ys yes h).ex⟩
        · exact ⟨(b.cat c h).ex⟩
        · obtain ⟨C, fI, fd, pS, pV, a1, a2, a3, a4, a5, a6, a7, a8⟩ := (b.fx p h).ex
          exact ⟨C, fI, fd, pS, pV, a1, a2, a3, a4, a5, a6 P w base, a7, a8⟩
      have body_ok := er_sts (nm := nm) (N := N) (G := G) (k := k) (tc := fun _ => true) (W := W) n sc (cxOf (L2.CX P w) P w K mg base N qual sc f cdv A outer s H (WX0 K W)) rfl SS.kind gd (passes_of rfl) (takes_of rfl rfl rfl rfl) ⟨rfl, rfl, rfl⟩ (fun _ _ => rfl) body c hcs
      have hlen : ds.length = (a.args.map (·.arg)).length := by rw [← dr.length]; exact hl
      have res : ResX K ι H (((exS G c (ds.map some ++ List.replicate (N.length - (a.args.map (·.arg)).length) none) S).bindB fun p S' => match p.1 with
        | .nx => .ok .non S'
        | .ret d => .ok d S'
        | .xc x => .exc ⟨x⟩ S'
        | _ => .bad).gc S) Q W := by
        unfold runF at res
        rw [if_pos hlen] at res
        exact res
      have res := ResX.ungc so res
      refine wpAny_mono (body_ok.run [] s1 (L2.start N vs) H { nx := fun _ H' => Q .non H', rt := Q } I ⟨ι, S, _, so, Lok.start dr (by rw [hlen]), ?_⟩) (fun fl s' hs => ?_) fun e s' hs => hs
      · cases e1 : exS G c (ds.map some ++ List.replicate (N.length - (a.args.map (·.arg)).length) none) S with
        | bad => rw [e1] at res; exact res.elim
        | exc _ _ => rw [e1] at res; exact res.elim
        | ok p S' =>
          rw [e1, R.bindB_ok] at res
          obtain ⟨fl, L'⟩ := p
          intro ι' H' σ' pp xx so' lo'
          cases fl with
          | nx => exact res ι' H' .non pp xx so' rfl
          | ret d => exact fun v rv => res ι' H' v pp xx so' rv
          | brk => exact res.elim
          | ct => exact res.elim
          | xc x => exact res ι' H' pp xx so'
      · have fin : ∀ {σ' : St} {H' : Hp} {v : V} {u : Value}, Inv (cxOf (L2.CX P w) P w K mg base N qual sc f cdv A outer s H (WX0 K W)) [] σ' H' s' → RelV v u → Q v H' → L2.CE outer P w H s Q u s' :=
          fun {σ' H' v u} J rv q => ⟨v, H', J.os, J.bare, J.base, J.hok, rv, q⟩
        cases fl with
        | ret u =>
          obtain ⟨v, σ', H', J, rv, q⟩ := hs
          exact fin J rv q
        | next =>
          obtain ⟨σ', H', J, q⟩ := hs
          exact fin (v := V.non) (u := Value.none) J rfl q
        | brk =>
          obtain ⟨_, _, _, q⟩ := hs
          exact False.elim q
        | cont =>
          obtain ⟨_, _, _, q⟩ := hs
          exact False.elim q
    · cases er
  | _ => cases er
theorem binds_g {x qual : Str} {n : Nat} {st : Stmt} {cf : CF} {kV doc pm cdv ct : Value} {an : Option Addr} (er : erF nm n N st = some cf) : Binds K (PySem.W.fnOf x qual (defArgs st) (defBody st) (defScope st) .none kV doc pm an cdv ct) ((defArgs st).args.map (·.arg)) [] ∧ ∀ ds S, ds.length ≠ ((defArgs st).args.map (·.arg)).length → runF G cf ds S = .bad := by
  cases st with
  | FunctionDef nme a body dl rt tp sc ts bd pos =>
    simp only [erF] at er
    split at er
    · rename_i hc
      obtain ⟨c, hcs, rfl⟩ := Option.map_eq_some_iff.mp er
      obtain ⟨_, nd, h1, h2, h3, h4⟩ := hc
      obtain ⟨po, ar, va, ko, kd, kw, df⟩ := a
      have e1 : po = [] := by cases po with
        | nil => rfl
        | cons _ _ => cases h1
      have e3 : ko = [] := by cases ko with
        | nil => rfl
        | cons _ _ => cases h3
      have e2 : va = none := by cases va with
        | none => rfl
        | some _ => cases h2
      have e4 : kw = none := by cases kw with
        | none => rfl
        | some _ => cases h4
      subst e1 e2 e3 e4
      refine ⟨Binds.all fun us hl => bind_plain rfl rfl hl nd, fun ds S h => ?_⟩
      unfold runF
      exact if_neg h
    · cases er
  | _ => cases er
end
end Mi
namespace Mi
open PySem PySem.Spec PyProof.Rows L2
/-- a def of the text as the top has left it, and its erasure -/
structure FnRow (nm : Nm) (n : Nat) (T : Nat → Option CF) (K : PySem.W.Frag) (mg : Str → Option Value) (x : Str) (i : Nat) : Prop where
  ex : ∃ (f : Addr) (st : Stmt) (N : List Str) (cf : CF) (oc : Value) (od an : Option Addr) (osl : Array (Option Value)) (kV doc pm cdv ct : Value),
    mg x = some (.ref f) ∧ PySem.W.keepIn K (.ref f) = true ∧ K.lookup f = some ⟨oc, od, .func (PySem.W.fnOf x x (defArgs st) (defBody st) (defScope st) .none kV doc pm an cdv ct), osl⟩ ∧ PySem.W.codeIn K cdv x = true ∧
    erF nm n N st = some cf ∧ T i = some cf ∧ (x == ("__debug__" : Str)) = false
structure CtRow (ct : Nat → Option D) (K : PySem.W.Frag) (mg : Str → Option Value) (x : Str) (i : Nat) : Prop where
  ex : ∀ d, ct i = some d → ∃ u v, mg x = some u ∧ RelV v u ∧ (∀ ι H, DR K ι H d v) ∧ (x == ("__debug__" : Str)) = false
theorem gb_all {nm : Nm} {n : Nat} {T : Nat → Option CF} {ct : Nat → Option D} {P : Program} {w : World} {K : PySem.W.Frag} {mg : Str → Option Value} {base : Heap} (rows : ∀ x i, nm.fn x = some i → FnRow nm n T K mg x i)
    (cts : ∀ x i, nm.ct x = some i → CtRow ct K mg x i) (bls : ∀ x, x ∈ nm.bl → mg x = none) (xs : ∀ x, x ∈ nm.xs → XcK K mg x) (ix : ∀ ys yes, nm.yes ys = some yes → IsxK K mg nm.held ys yes) (cat : ∀ c, c ∈ nm.cat → CatK K mg nm.xs c) (fx : ∀ p, p ∈ nm.fx → FxK K mg p.1 p.2) (sm : ∃ o es n, base.get? sysModules = some o ∧ o.data = .dict es n) : ∀ k, Gb nm ⟨semN T ct k, ct⟩ P w K mg base k := by
  intro k
  have key : ∀ x i, nm.fn x = some i → (x == ("__debug__" : Str)) = false ∧ ∃ f fd ps, mg x = some (.ref f) ∧ PySem.W.keepIn K (.ref f) = true ∧ FnG P w K mg base k f fd ps (semN T ct k i) ∧ Binds K fd ps [] ∧ ∀ ds S, ds.length ≠ ps.length → semN T ct k i ds S = .bad := by
    induction k with
    | zero =>
      intro x i hx
      obtain ⟨f, st, N, cf, oc, od, an, osl, kV, doc, pm, cdv, c2, h1, h2, h3, h4, h5, h6, h7⟩ := (rows x i hx).ex
      refine ⟨h7, f, _, _, h1, h2, ⟨fun A outer s H args us vs Q W hr hgu e0 hb r hl hsp => ?_⟩, (binds_g (G := ⟨fun _ _ _ => .bad, ct⟩) (K := K) (x := x) (qual := x) (kV := kV) (doc := doc) (pm := pm) (cdv := cdv) (ct := c2) (an := an) h5).1, fun ds S _ => rfl⟩
      obtain ⟨ι, S, ds, so, dr, res⟩ := hsp
      exact res.elim
    | succ k ih =>
      intro x i hx
      obtain ⟨f, st, N, cf, oc, od, an, osl, kV, doc, pm, cdv, c2, h1, h2, h3, h4, h5, h6, h7⟩ := (rows x i hx).ex
      have gb : Gb nm ⟨semN T ct k, ct⟩ P w K mg base k := ⟨sm, ih, fun x i d hx hd => (cts x i hx).ex d hd, bls, xs, ix, cat, fx⟩
      have e : semN T ct (k + 1) i = runF ⟨semN T ct k, ct⟩ cf := by
        funext ds S
        show (match T i with
          | some f => runF ⟨semN T ct k, ct⟩ f ds S
          | none => .bad) = _
        rw [h6]
      obtain ⟨b1, b2⟩ := binds_g (G := ⟨semN T ct k, ct⟩) (K := K) (x := x) (qual := x) (kV := kV) (doc := doc) (pm := pm) (cdv := cdv) (ct := c2) (an := an) h5
      refine ⟨h7, f, _, _, h1, h2, ?_, b1, ?_⟩
      · rw [e]; exact fn_g gb h5 h3 h4
      · rw [e]; exact b2
  exact ⟨sm, key, fun x i d hx hd => (cts x i hx).ex d hd, bls, xs, ix, cat, fx⟩
/-- the head, for a promise over stores -/
theorem call_g {P : Program} {w : World} {K : PySem.W.Frag} {mg mb : Str → Option Value} {k : Nat} {fa a : Addr} {fd : FuncData} {x : Str} {F : List D → Store → R D} {s₁ : Shared} {vs : List Value} {ns : List Int}
    (KX : K.In s₁.heap) (hns : s₁.heap.Ns mainGlobals mg) (hb : s₁.heap.Ns builtinsNs mb) (hbb : ∀ x : Str, x ≠ "__name__" → mb x = bootBuiltins x) (hlim : s₁.heap.NoLimit) (hse : s₁.heap.NoSeer) (hg : s₁.gens = #[])
    (ha : s₁.heap.get? a = some { cls := .type "list", data := .seq vs.toArray }) (hi : IntsAre vs ns) (hl : ns.length ≤ sizeLine) (hr : Room (k + 2) callerA)
    (G : ∀ base : Heap, K.In base → base.Ns mainGlobals mg → (∃ o es n, base.get? sysModules = some o ∧ o.data = .dict es n) → FnG P w K mg base k fa fd [x] F) (hbind : Binds K fd [x] [])
    (hok : ∃ S', F [.ref 0] [.frz (ns.map .int)] = .ok (.bl true) S') :
    codeAny (model P w) callerA (.call (.ref fa) ⟨[.ref a], []⟩) (fun r s' => r = .ok (.ret (.bool true)) ∧ OldK s₁.heap s'.heap ∧ s'.os = s₁.os ∧ AllBare s'.gens) s₁ := by
  have rv := vals_ints hi
  have lenV := hi.length
  have drs : ∀ (ι : List Addr) (H : Hp) (ns : List Int), DRs K ι H (ns.map .int) (ns.map V.int) := by
    intro ι H ns
    induction ns with
    | nil => rfl
    | cons n ns ih => exact ⟨.int n, ns.map V.int, rfl, rfl, ih⟩
  have core : ∀ H : Hp, Only H → Fz K H a (ns.map V.int) → HOk P w H s₁.heap → (∀ b, H b ≠ none → b = a) → (H a ≠ none → K.lookup a = none) →
      codeAny (model P w) callerA (.call (.ref fa) ⟨[.ref a], []⟩) (fun r s' => r = .ok (.ret (.bool true)) ∧ OldK s₁.heap s'.heap ∧ s'.os = s₁.os ∧ AllBare s'.gens) s₁ := by
    intro H hO hS hok' hA hK
    have base_of : ∀ {b : Addr} {o : Obj}, s₁.heap.get? b = some o → H b = none → (hidT s₁.heap H).get? b = some o := fun e n => hidT_get e n
    have noA : ∀ {b : Addr} {o : Obj} {es : Array DictEntry} {ep : Nat}, s₁.heap.get? b = some o → o.data = .dict es ep → H b = none := fun {b o es ep} e d => by
      cases q : H b with
      | none => rfl
      | some u =>
        have e' : b = a := hA b (by rw [q]; simp)
        subst e'
        rw [ha] at e; cases e
        have d' : Data.seq vs.toArray _ = Data.dict es ep := d
        cases d'
    have nsK : ∀ {b : Addr} {m : Str → Option Value}, s₁.heap.Ns b m → (hidT s₁.heap H).Ns b m := fun {b m} ⟨o, es, ep, e, d, r⟩ => ⟨o, es, ep, base_of e (noA e d), d, r⟩
    have hKb : K.In (hidT s₁.heap H) := fun b o e => base_of (KX b o e) (by
      cases q : H b with
      | none => rfl
      | some u =>
        have e' : b = a := hA b (by rw [q]; simp)
        subst e'
        rw [hK (by rw [q]; simp)] at e; cases e)
    have hM : Mod K mg (hidT s₁.heap H) := ⟨hKb, nsK hns, ⟨mb, nsK hb, hbb⟩, let ⟨mc, h1, h2⟩ := hlim; ⟨mc, nsK h1, h2⟩⟩
    have hsm : ∃ o es n, (hidT s₁.heap H).get? sysModules = some o ∧ o.data = .dict es n := by
      obtain ⟨mm, h1, _⟩ := hse.mods
      obtain ⟨o, es, ep, e, d, _⟩ := nsK h1
      exact ⟨o, es, ep, e, d⟩
    have e0 : Env0 P w K mg (hidT s₁.heap H) callerA [] s₁ H := ⟨rfl, hM, fun b o e => of_hidT e, Nat.le_of_eq (hidT_size _ _), trivial, fun b hb => absurd (show b ∈ ([] : List Addr) from hb) (by simp), hok', .of_eq hg⟩
    obtain ⟨S', eS⟩ := hok
    have so : Sok K [a] H [.frz (ns.map .int)] := by
      refine ⟨rfl, fun m n b c c' e1 e2 e3 e4 m1 m2 => ?_, fun n b c e1 e2 => ?_⟩
      · cases m with
        | zero => cases e3; cases m1
        | succ m => cases e3
      · cases n with
        | zero =>
          cases e1; cases e2
          exact ⟨_, hS, drs _ _ _⟩
        | succ n => cases e1
    have bd := hbind s₁ [.ref a] KX rfl
    rw [List.append_nil] at bd
    refine codeAny_mono ((G _ hKb (nsK hns) hsm).run callerA [] s₁ H ⟨[.ref a], []⟩ [.ref a] [.ref a] (fun v _ => v = .bl true) (fun _ _ => False) hr rfl e0 bd (.cons rfl .nil) rfl ⟨[a], [.frz (ns.map .int)], [.ref 0], so, ⟨.ref a, [], rfl, ⟨a, rfl, rfl⟩, rfl⟩, by rw [eS]; exact fun ι' H' v _ _ _ r => r⟩) fun r s' h => ?_
    cases r with
    | error e =>
      obtain ⟨_, _, _, _, _, _, _, _, _, _, _, _, _, _, _, _, _, no⟩ := (show L2.CX P w [] H s₁ (WX0 K fun _ _ => False) e s' from h)
      exact no.elim
    | ok fl =>
      cases fl with
      | next => exact False.elim h
      | brk => exact False.elim h
      | cont => exact False.elim h
      | ret u =>
        obtain ⟨v, H', os, bare, un, hok', r', q⟩ := h
        have q' : v = .bl true := q
        subst q'
        obtain rfl : u = Value.bool true := r'
        refine ⟨rfl, OldK.of_keep fun b o e => ?_, os, bare⟩
        cases q : H b with
        | none => exact un.keep b o e q (by intro z; exact absurd (show b ∈ ([] : List Addr) from z) (by simp)) (by simp)
        | some u =>
          rcases hO b with z | ⟨ob, xs, z⟩
          · rw [q] at z; cases z
          · have z2 := un.frzs b ob _ z
            obtain ⟨e1, _⟩ := e0.hok b _ z
            obtain ⟨e2, _⟩ := hok' b _ z2
            rw [e] at e1; cases e1
            exact e2
  cases hk : K.lookup a with
  | some o =>
    have e := KX a o hk
    rw [ha] at e
    cases e
    refine core (fun _ => none) (fun _ => .inl rfl) (.inr ⟨_, vs.toArray, _, hk, rfl, rfl, rfl, by rw [List.size_toArray, lenV]; exact hl, by simpa using rv⟩) (fun b u z => by have z' : (none : Option HO) = some u := z; cases z') (fun b z => absurd rfl z) fun z => absurd rfl z
  | none =>
    refine core (fun b => if b = a then some (.frz { cls := .type "list", data := .seq vs.toArray } (.lst (ns.map V.int))) else none) (fun b => ?_) (.inl ⟨{ cls := .type "list", data := .seq vs.toArray }, if_pos rfl⟩) (fun b u z => ?_) (fun b z => ?_) fun _ => hk
    · by_cases hb : b = a
      · exact .inr ⟨_, _, if_pos hb⟩
      · exact .inl (if_neg hb)
    · by_cases hb : b = a
      · have z' := (if_pos hb).symm.trans z
        cases z'
        subst hb
        exact ⟨ha, by rw [List.length_map]; exact hl, vs, _, rv, ha⟩
      · have z' := (if_neg hb).symm.trans z
        cases z'
    · by_cases hb : b = a
      · exact hb
      · exact absurd (if_neg hb) z
/-- the text of a law, by its rows -/
structure Tx (nm : Nm) (n : Nat) (T : Nat → Option CF) (ct : Nat → Option D) (K : PySem.W.Frag) (mg : Str → Option Value) : Prop where
  rows : ∀ x i, nm.fn x = some i → FnRow nm n T K mg x i
  cts : ∀ x i, nm.ct x = some i → CtRow ct K mg x i
  bls : ∀ x, x ∈ nm.bl → mg x = none
  xs : ∀ x, x ∈ nm.xs → XcK K mg x
  ix : ∀ ys yes, nm.yes ys = some yes → IsxK K mg nm.held ys yes
  cat : ∀ c, c ∈ nm.cat → CatK K mg nm.xs c
  fx : ∀ p, p ∈ nm.fx → FxK K mg p.1 p.2
theorem walk_mi {l : PySem.W.OpenLaw} {m k n iL : Nat} {q : Program} {loose : List Str} {XP : (Str → Option Value) → Heap → Prop} {YP : World → Heap → Prop} {d : DefRec} {K : Params → PySem.W.Frag} {nm : Nm} {T : Nat → Option CF} {ct : Nat → Option D}
    (hn : l.most = some m) (hn2 : m ≤ sizeLine) (hdf : d.params.defaults = []) (hr : Room (k + 2) callerA) (him : PyProof.Rows.importsNone q = true)
    (hY : ∀ (w : World) (h : Heap), YP w h → (K w.params).In h) (hiL : nm.fn d.name = some iL) (h1 : ∀ cf, T iL = some cf → cf.ps = 1)
    (F : ∀ (w : World) (mg : Str → Option Value) (h : Heap), (K w.params).In h → h.Ns mainGlobals mg → Tx nm n T ct (K w.params) mg)
    (hlaw : ∀ ns : List Int, ns.length ≤ m → (∀ z ∈ ns, Builtin.Int.intBits z ≤ 1048576) → ∃ S', semN T ct k iL [.ref 0] [.frz (ns.map .int)] = .ok (.bl true) S') :
    PySem.W.WalkO q loose XP YP l.row.toRowW d [] (fun f vs => PySem.call f vs) := by
  refine Att.attach_callB hn hdf fun w s₀ s₁ mg mb fa o pm cd doc a vs ns G Y ho hd hcd hmg hobj hints hlen hbits hg => ?_
  have KX := hY w _ Y
  have tx := F w mg _ KX G.T.g
  have all := fun (base : Heap) (sm : ∃ o es n, base.get? sysModules = some o ∧ o.data = .dict es n) => gb_all (P := l.prog) (w := w) (base := base) tx.rows tx.cts tx.bls tx.xs tx.ix tx.cat tx.fx sm k
  obtain ⟨f, st, N, cf, oc, od, an, osl, kV, doc2, pm2, cdv, c2, g1, g2, g3, g4, g5, g6, g7⟩ := (tx.rows _ _ hiL).ex
  rw [hmg] at g1
  cases g1
  have hps : ((defArgs st).args.map (·.arg)).length = 1 := by
    have := h1 cf g6
    cases st with
    | FunctionDef nme a body dl rt tp sc ts bd pos =>
      simp only [erF] at g5
      split at g5
      · obtain ⟨c, _, rfl⟩ := Option.map_eq_some_iff.mp g5
        exact this
      · cases g5
    | _ => cases g5
  obtain ⟨x, hx⟩ : ∃ x, (defArgs st).args.map (·.arg) = [x] := by
    cases e : (defArgs st).args.map (·.arg) with
    | nil => rw [e] at hps; cases hps
    | cons x r =>
      rw [e] at hps
      cases r with
      | nil => exact ⟨x, rfl⟩
      | cons _ _ => simp at hps
  have hb := (binds_g (G := ⟨semN T ct 0, ct⟩) (K := K w.params) (x := d.name) (qual := d.name) (kV := kV) (doc := doc2) (pm := pm2) (cdv := cdv) (ct := c2) (an := an) g5).1
  rw [hx] at hb
  have e : ∀ k, semN T ct (k + 1) iL = runF ⟨semN T ct k, ct⟩ cf := by
    intro k
    funext ds S
    show (match T iL with
      | some f => runF ⟨semN T ct k, ct⟩ f ds S
      | none => .bad) = _
    rw [g6]
  cases k with
  | zero =>
    obtain ⟨S', h⟩ := hlaw ns hlen hbits
    cases h
  | succ k =>
    refine call_g (F := semN T ct (k + 1) iL) KX G.T.g G.T.b G.T.builtins G.T.nolimit (G.T.seer him) hg hobj hints (Nat.le_trans hlen hn2) hr (fun base hKb hns sm => ?_) hb (hlaw ns hlen hbits)
    rw [e k]
    have gb := gb_all (P := l.prog) (w := w) (base := base) tx.rows tx.cts tx.bls tx.xs tx.ix tx.cat tx.fx sm k
    have := fn_g (x := d.name) (qual := d.name) (f := fa) (dV := .none) gb g5 g3 g4
    rw [hx] at this
    exact this
end Mi
namespace Mi
open PySem PySem.Spec PyProof.Rows L2
section
variable {nm : Nm} {n : Nat} {T : Nat → Option CF} {ct : Nat → Option D} {K : PySem.W.Frag} {mg : Str → Option Value} {h : Heap}
theorem row_mk {x : Str} {i : Nat} {st : Stmt} {N : List Str} {cf : CF} (X : K.In h) (G : h.Ns mainGlobals mg) {f : Addr} {oc : Value} {od an : Option Addr} {osl : Array (Option Value)} {kV doc pm cdv c2 : Value}
    (er : erF nm n N st = some cf) (t : T i = some cf) (db : (x == ("__debug__" : Str)) = false) (a : PySem.W.nsIn K mainGlobals x = some (some (.ref f)))
    (l : K.lookup f = some ⟨oc, od, .func (PySem.W.fnOf x x (defArgs st) (defBody st) (defScope st) .none kV doc pm an cdv c2), osl⟩) (c : PySem.W.codeIn K cdv x = true) (k : PySem.W.keepIn K (.ref f) = true) : FnRow nm n T K mg x i :=
  ⟨f, st, N, cf, oc, od, an, osl, kV, doc, pm, cdv, c2, PySem.W.mg_of X G a, k, l, c, er, t, db⟩
theorem ct_int {x : Str} {i : Nat} {z : Int} {t : Tok} (X : K.In h) (G : h.Ns mainGlobals mg) (e : ct i = some (.int z)) (db : (x == ("__debug__" : Str)) = false) (a : PySem.W.nsIn K mainGlobals x = some (some (.int z t))) : CtRow ct K mg x i :=
  ⟨fun d hd => by rw [e] at hd; cases hd; exact ⟨_, .int z, PySem.W.mg_of X G a, ⟨t, rfl⟩, fun _ _ => rfl, db⟩⟩
theorem ct_str {x : Str} {i : Nat} {z : Str} {t : Tok} (X : K.In h) (G : h.Ns mainGlobals mg) (e : ct i = some (.str z)) (db : (x == ("__debug__" : Str)) = false) (a : PySem.W.nsIn K mainGlobals x = some (some (.str z t))) : CtRow ct K mg x i :=
  ⟨fun d hd => by rw [e] at hd; cases hd; exact ⟨_, .str z, PySem.W.mg_of X G a, ⟨t, rfl⟩, fun _ _ => rfl, db⟩⟩
/-- a tuple of texts and ints -/
def scV : D → Option V
  | .int i => some (.int i)
  | .str x => some (.str x)
  | .bl b => some (.bl b)
  | .non => some .non
  | _ => none
def scVs : List D → Option (List V)
  | [] => some []
  | d :: r => match scV d, scVs r with
    | some v, some vs => some (v :: vs)
    | _, _ => none
theorem scV_dr {d : D} {v : V} (e : scV d = some v) (ι : List Addr) (H : Hp) : DR K ι H d v := by
  cases d <;> first | (cases e; rfl) | cases e
theorem scVs_dr : ∀ {ds : List D} {vs : List V}, scVs ds = some vs → ∀ (ι : List Addr) (H : Hp), DRs K ι H ds vs
  | [], vs, e, _, _ => by cases e; rfl
  | d :: r, vs, e, ι, H => by
    simp only [scVs] at e
    split at e
    · rename_i v vs' h1 h2
      cases e
      exact ⟨v, vs', rfl, scV_dr h1 ι H, scVs_dr h2 ι H⟩
    · cases e
def relB : V → Value → Bool
  | .int i, .int j _ => decide (i = j)
  | .str x, .str y _ => decide (x = y)
  | .bl a, .bool b => decide (a = b)
  | .non, .none => true
  | _, _ => false
theorem relB_ok {v : V} {u : Value} (h : relB v u = true) : RelV v u := by
  cases v <;> cases u <;> first
    | exact ⟨_, by rw [of_decide_eq_true h]⟩
    | (have := of_decide_eq_true h; subst this; rfl)
    | exact (rfl : Value.none = Value.none)
    | cases h
def valsB : List V → List Value → Bool
  | [], [] => true
  | v :: vs, u :: us => relB v u && valsB vs us
  | _, _ => false
theorem valsB_ok : ∀ {vs : List V} {us : List Value}, valsB vs us = true → Vals vs us
  | [], [], _ => .nil
  | v :: vs, u :: us, h => by
    simp only [valsB, Bool.and_eq_true] at h
    exact .cons (relB_ok h.1) (valsB_ok h.2)
  | [], _ :: _, h => by cases h
  | _ :: _, [], h => by cases h
theorem ct_tup {x : Str} {i : Nat} {ds : List D} {vs : List V} {a : Addr} {its : Array Value} {m : Nat} {dd : Option Addr} {sl : Array (Option Value)} (X : K.In h) (G : h.Ns mainGlobals mg) (e : ct i = some (.tup ds)) (db : (x == ("__debug__" : Str)) = false) (ev : scVs ds = some vs)
    (ha : PySem.W.nsIn K mainGlobals x = some (some (.ref a))) (l : K.lookup a = some ⟨.type "tuple", dd, .seq its m, sl⟩) (r : valsB vs its.toList = true) (z : its.size ≤ sizeLine) : CtRow ct K mg x i :=
  ⟨fun d hd => by
    rw [e] at hd; cases hd
    exact ⟨_, .ref a, PySem.W.mg_of X G ha, rfl, fun ι H => ⟨a, vs, rfl, .inr ⟨_, its, m, l, rfl, rfl, z, valsB_ok r⟩, scVs_dr ev ι H⟩, db⟩⟩
theorem rows_of {fns : List (Str × Nat)} (h : ∀ p ∈ fns, FnRow nm n T K mg p.1 p.2) : ∀ x i, fns.lookup x = some i → FnRow nm n T K mg x i := fun x i e => h (x, i) (PySem.mem_of_lookup e)
theorem cts_of {cts : List (Str × Nat)} (h : ∀ p ∈ cts, CtRow ct K mg p.1 p.2) : ∀ x i, cts.lookup x = some i → CtRow ct K mg x i := fun x i e => h (x, i) (PySem.mem_of_lookup e)
theorem rows_nil : ∀ p ∈ ([] : List (Str × Nat)), FnRow nm n T K mg p.1 p.2 := fun _ h => by cases h
theorem rows_cons {x : Str} {i : Nat} {l : List (Str × Nat)} (h : FnRow nm n T K mg x i) (t : ∀ p ∈ l, FnRow nm n T K mg p.1 p.2) : ∀ p ∈ (x, i) :: l, FnRow nm n T K mg p.1 p.2 := fun p hp => by
  rcases List.mem_cons.mp hp with rfl | hp
  · exact h
  · exact t p hp
theorem cts_nil : ∀ p ∈ ([] : List (Str × Nat)), CtRow ct K mg p.1 p.2 := fun _ h => by cases h
theorem cts_cons {x : Str} {i : Nat} {l : List (Str × Nat)} (h : CtRow ct K mg x i) (t : ∀ p ∈ l, CtRow ct K mg p.1 p.2) : ∀ p ∈ (x, i) :: l, CtRow ct K mg p.1 p.2 := fun p hp => by
  rcases List.mem_cons.mp hp with rfl | hp
  · exact h
  · exact t p hp
theorem bls_nil : ∀ x ∈ ([] : List Str), mg x = none := fun _ h => by cases h
theorem bls_cons {y : Str} {l : List Str} (h : mg y = none) (t : ∀ x ∈ l, mg x = none) : ∀ x ∈ y :: l, mg x = none := fun p hp => by
  rcases List.mem_cons.mp hp with rfl | hp
  · exact h
  · exact t p hp
theorem all_nil {α : Type} {P : α → Prop} : ∀ p ∈ ([] : List α), P p := fun _ h => by cases h
theorem all_cons {α : Type} {P : α → Prop} {a : α} {l : List α} (h : P a) (t : ∀ p ∈ l, P p) : ∀ p ∈ a :: l, P p := fun p hp => by
  rcases List.mem_cons.mp hp with rfl | hp
  · exact h
  · exact t p hp
theorem bl_mk {x : Str} (X : K.In h) (G : h.Ns mainGlobals mg) (z : PySem.W.nsIn K mainGlobals x = some none) : mg x = none := PySem.W.mg_none_of X G z
end
end Mi
namespace Mi
open PySem L2
theorem gc_len {S S' : Store} {d : D} (hl : S'.length = S.length) : gc S d S' = .ok d S' := by
  unfold gc
  by_cases hc : d.lt S.length = true ∧ Keep S S'
  · rw [if_pos hc, ← hl, List.take_length]
  · rw [if_neg hc]
    cases d with
    | ref k =>
      cases e : S'[k]? with
      | none => simp only [e]
      | some c =>
        have : k < S'.length := (List.getElem?_eq_some_iff.mp e).1
        simp only [e]
        rw [if_neg (by rintro ⟨a, _⟩; omega)]
    | _ => rfl
theorem gc_same {S : Store} {d : D} : gc S d S = .ok d S := gc_len rfl
theorem keep_app {S A T : Store} (h : A.length = S.length) (k : ∀ (i : Nat) (c : Cell), A[i]? = some c → S[i]? = some c ∨ c.lt S.length = true) : Keep S (A ++ T) := by
  refine ⟨by rw [List.length_append]; omega, fun i c hi e => ?_⟩
  rw [List.getElem?_append_left (by omega)] at e
  exact k i c e
theorem gc_app {S A T : Store} {d : D} (hd : d.lt S.length = true) (h : A.length = S.length) (k : ∀ (i : Nat) (c : Cell), A[i]? = some c → S[i]? = some c ∨ c.lt S.length = true) : gc S d (A ++ T) = .ok d A := by
  unfold gc
  rw [if_pos ⟨hd, keep_app h k⟩, ← h, List.take_left]
theorem gc_app0 {S T : Store} {d : D} (hd : d.lt S.length = true) : gc S d (S ++ T) = .ok d S := gc_app hd rfl fun _ _ e => .inl e
theorem gc_new {S A T : Store} {m : Nat} {c : Cell} (h : A.length = S.length) (k : ∀ (i : Nat) (c : Cell), A[i]? = some c → S[i]? = some c ∨ c.lt S.length = true) (hm : S.length ≤ m) (e : (A ++ T)[m]? = some c) (hc : c.lt S.length = true) : gc S (.ref m) (A ++ T) = .ok (.ref S.length) (A ++ [c]) := by
  unfold gc
  rw [if_neg (by rintro ⟨a, _⟩; simp [D.lt] at a; omega)]
  simp only [e]
  rw [if_pos ⟨hm, hc, keep_app h k⟩, ← h, List.take_left]
theorem gc_new0 {S T : Store} {m : Nat} {c : Cell} (hm : S.length ≤ m) (e : (S ++ T)[m]? = some c) (hc : c.lt S.length = true) : gc S (.ref m) (S ++ T) = .ok (.ref S.length) (S ++ [c]) := gc_new rfl (fun _ _ e => .inl e) hm e hc
@[simp] theorem ofB_some {b : Bool} {S : Store} : ofB (some b) S = .ok (.bl b) S := rfl
@[simp] theorem optR_some {d : D} {S : Store} : optR (some d) S = .ok d S := rfl
@[simp] theorem okIf_true {d : D} {S : Store} : okIf true d S = .ok d S := rfl
@[simp] theorem ofO_some {α : Type} {a : α} {S : Store} : ofO (some a) S = .ok a S := rfl
theorem atI_nat {α : Type} {xs : List α} {i : Nat} {x : α} (h : xs[i]? = some x) : L2.atI xs (i : Int) = some x := by
  have hl : i < xs.length := (List.getElem?_eq_some_iff.mp h).1
  unfold L2.atI L2.ixN
  rw [if_pos (by omega), if_pos (by omega)]
  simpa using h
theorem atI_int {α : Type} {xs : List α} {i : Int} (h0 : 0 ≤ i) (h1 : i < xs.length) : ∃ x, L2.atI xs i = some x ∧ x ∈ xs := by
  have hl : i.toNat < xs.length := by omega
  have e : xs[i.toNat]? = some xs[i.toNat] := List.getElem?_eq_getElem hl
  have e2 : (i.toNat : Int) = i := by omega
  have h := atI_nat e
  rw [e2] at h
  exact ⟨_, h, List.getElem_mem hl⟩
def kC : Key := .inr "cells"
def kT : Key := .inr "turn"
def kR : Key := .inr "rest"
def penC (c : Nat) (t r : Int) : Cell := .dK [(.inr "cells", .ref c), (.inr "turn", .int t), (.inr "rest", .int r)]
def setPen (S : Store) (p c : Nat) (t r : Int) : Store := S.set p (penC c t r)
structure Pen (p c : Nat) (cs : List Int) (t r : Int) (S : Store) : Prop where
  pen : S[p]? = some (penC c t r)
  cells : S[c]? = some (.lst (cs.map .int))
theorem Pen.plt {p c : Nat} {cs : List Int} {t r : Int} {S : Store} (h : Pen p c cs t r S) : p < S.length := (List.getElem?_eq_some_iff.mp h.pen).1
theorem Pen.clt {p c : Nat} {cs : List Int} {t r : Int} {S : Store} (h : Pen p c cs t r S) : c < S.length := (List.getElem?_eq_some_iff.mp h.cells).1
theorem Pen.ne {p c : Nat} {cs : List Int} {t r : Int} {S : Store} (h : Pen p c cs t r S) : p ≠ c := by
  rintro rfl
  have h1 := h.pen
  rw [h.cells] at h1
  cases h1
@[simp] theorem setPen_len (S : Store) (p c : Nat) (t r : Int) : (setPen S p c t r).length = S.length := by simp [setPen]
theorem Pen.set {p c : Nat} {cs : List Int} {t r : Int} {S : Store} (h : Pen p c cs t r S) (t' r' : Int) : Pen p c cs t' r' (setPen S p c t' r') := by
  refine ⟨?_, ?_⟩
  · unfold setPen
    rw [List.getElem?_set_self h.plt]
  · unfold setPen
    rw [List.getElem?_set_ne h.ne]
    exact h.cells
theorem Pen.app {p c : Nat} {cs : List Int} {t r : Int} {S : Store} (h : Pen p c cs t r S) (T : Store) : Pen p c cs t r (S ++ T) := by
  refine ⟨?_, ?_⟩
  · rw [List.getElem?_append_left h.plt]; exact h.pen
  · rw [List.getElem?_append_left h.clt]; exact h.cells
@[simp] theorem setPen_set (S : Store) (p c : Nat) (t r t' r' : Int) : setPen (setPen S p c t r) p c t' r' = setPen S p c t' r' := by simp [setPen]
theorem setPen_app {S T : Store} {p c : Nat} {t r : Int} (h : p < S.length) : setPen (S ++ T) p c t r = setPen S p c t r ++ T := by
  unfold setPen
  rw [List.set_append_left _ _ h]
theorem setPen_same {p c : Nat} {cs : List Int} {t r : Int} {S : Store} (h : Pen p c cs t r S) : setPen S p c t r = S := by
  unfold setPen
  refine List.ext_getElem? fun i => ?_
  by_cases e : p = i
  · subst e
    rw [List.getElem?_set_self h.plt, h.pen]
  · rw [List.getElem?_set_ne e]
/-- behind an expression that drew: what is new is dropped -/
theorem Pen.keep {p c : Nat} {cs : List Int} {t r : Int} {S : Store} (h : Pen p c cs t r S) (t' r' : Int) : ∀ (i : Nat) (x : Cell), (setPen S p c t' r')[i]? = some x → S[i]? = some x ∨ x.lt S.length = true := by
  intro i x e
  by_cases hi : p = i
  · subst hi
    have := (h.set t' r').pen
    rw [this] at e
    cases e
    exact .inr (by simp [Cell.lt, penC, D.ltAll, D.lt, h.clt])
  · unfold setPen at e
    rw [List.getElem?_set_ne hi] at e
    exact .inl e
theorem Pen.gc {p c : Nat} {cs : List Int} {t r : Int} {S T : Store} {d : D} (h : Pen p c cs t r S) (hd : d.lt S.length = true) (t' r' : Int) : gc S d (setPen S p c t' r' ++ T) = .ok d (setPen S p c t' r') :=
  gc_app hd (by simp) (h.keep t' r')
theorem Pen.gc1 {p c : Nat} {cs : List Int} {t r : Int} {S : Store} {d : D} (t' r' : Int) : Mi.gc S d (setPen S p c t' r') = .ok d (setPen S p c t' r') := gc_len (by simp)
end Mi
namespace Mi
open PySem L2
theorem R.bind_congr {α β : Type} {r r' : R α} (f : α → Store → R β) (h : r = r') : r.bind f = r'.bind f := by rw [h]
theorem ifB_congr {α : Type} {d d' : D} (x y : R α) (h : d = d') : ifB d x y = ifB d' x y := by rw [h]
@[simp] theorem ifB_t {α : Type} (x y : R α) : ifB (.bl true) x y = x := rfl
@[simp] theorem ifB_f {α : Type} (x y : R α) : ifB (.bl false) x y = y := rfl
section
variable {G : Gv} {L : Lcs} {S : Store}
@[simp] theorem ev_cst {d : D} : evE G (.cst d) L S = .ok d S := rfl
theorem ev_loc {i : Nat} : evE G (.loc i) L S = (match L[i]? with | some (some d) => .ok d S | _ => .bad) := rfl
@[simp] theorem ev_loc0 {d : D} {r : Lcs} : evE G (.loc 0) (some d :: r) S = .ok d S := rfl
@[simp] theorem ev_locS {d : Option D} {r : Lcs} {i : Nat} : evE G (.loc (i + 1)) (d :: r) S = evE G (.loc i) r S := rfl
@[simp] theorem ev_glb {x : Nat} : evE G (.glb x) L S = optR (G.ct x) S := rfl
@[simp] theorem ev_bin {op : Operator} {a b : CE} : evE G (.bin op a b) L S = (evE G a L S).bind fun x S1 => (evE G b L S1).bind fun y S2 => binD op x y S2 := rfl
@[simp] theorem ev_neg {a : CE} : evE G (.neg a) L S = (evE G a L S).bind negD := rfl
@[simp] theorem ev_not {a : CE} : evE G (.not a) L S = (evE G a L S).bind fun x S1 => ifB x (.ok (.bl false) S1) (.ok (.bl true) S1) := rfl
@[simp] theorem ev_and {a b : CE} : evE G (.and a b) L S = (evE G a L S).bind fun x S1 => ifB x ((evE G b L S1).bind fun y S2 => ifB y (.ok (.bl true) S2) (.ok (.bl false) S2)) (.ok (.bl false) S1) := rfl
@[simp] theorem ev_or {a b : CE} : evE G (.or a b) L S = (evE G a L S).bind fun x S1 => ifB x (.ok (.bl true) S1) ((evE G b L S1).bind fun y S2 => ifB y (.ok (.bl true) S2) (.ok (.bl false) S2)) := rfl
@[simp] theorem ev_cmp {op : CmpOp} {a b : CE} : evE G (.cmp op a b) L S = ((evE G a L S).bind fun x S1 => (evE G b L S1).bind fun y S2 => cmpD op x y S2).gc S := rfl
@[simp] theorem ev_chn {p q : CmpOp} {a b c : CE} : evE G (.chn p q a b c) L S = ((evE G a L S).bind fun x S1 => (evE G b L S1).bind fun y S2 => (cmpD p x y S2).bind fun r S3 => ifB r ((evE G c L S3).bind fun z S4 => cmpD q y z S4) (.ok (.bl false) S3)).gc S := rfl
@[simp] theorem ev_ite {c a b : CE} : evE G (.ite c a b) L S = (evE G c L S).bind fun x S1 => ifB x (evE G a L S1) (evE G b L S1) := rfl
@[simp] theorem ev_tup {as : CA} : evE G (.tup as) L S = (evA G as L S).bind fun ds S1 => okIf (sizeOk ds.length) (.tup ds) S1 := rfl
@[simp] theorem ev_lst {as : CA} : evE G (.lst as) L S = (evA G as L S).bind fun ds S1 => if sizeOk ds.length then newC (.lst ds) S1 else .bad := rfl
@[simp] theorem ev_idx {a b : CE} : evE G (.idx a b) L S = ((evE G a L S).bind fun x S1 => (evE G b L S1).bind fun y S2 => idxD x y S2).gc S := rfl
@[simp] theorem ev_rev {a : CE} : evE G (.rev a) L S = ((evE G a L S).bind revD).gc S := rfl
@[simp] theorem ev_call {f : Nat} {as : CA} : evE G (.call f as) L S = ((evA G as L S).bind fun ds S1 => G.fn f ds S1).gc S := rfl
@[simp] theorem ev_bi {f : Bi} {as : CA} : evE G (.bi f as) L S = ((evA G as L S).bind fun ds S1 => biD f ds S1).gc S := rfl
@[simp] theorem ev_mth {m : Mt} {o : CE} {as : CA} : evE G (.mth m o as) L S = ((evE G o L S).bind fun x S1 => if mtTy m x S1 = true then (evA G as L S1).bind fun ds S2 => mtD m x ds S2 else .bad).gc S := rfl
theorem slcN {e : CE} {hi : CE} : evE G (.slc e false (.cst .non) false (.cst .non)) L S = ((evE G e L S).bind fun d S1 => slcD d none none S1).gc S := by
  show ((evE G e L S).bind fun d S1 => _).gc S = _
  congr 1
@[simp] theorem slc_l {e l : CE} {c : CE} : evE G (.slc e true l false c) L S = ((evE G e L S).bind fun d S1 => (evE G l L S1).bind fun u S2 => match u with | .int i => slcD d (some i) none S2 | _ => .bad).gc S := by
  simp only [evE, if_true, Bool.false_eq_true, if_false]
  congr 2
  funext d S1
  cases evE G l L S1 with
  | ok u S2 => cases u <;> rfl
  | exc _ _ => rfl
  | bad => rfl
@[simp] theorem slc_h {e h : CE} {c : CE} : evE G (.slc e false c true h) L S = ((evE G e L S).bind fun d S1 => (evE G h L S1).bind fun u S2 => match u with | .int i => slcD d none (some i) S2 | _ => .bad).gc S := by
  simp only [evE, if_true, Bool.false_eq_true, if_false]
  congr 2
  funext d S1
  rw [R.bind_ok]
  cases evE G h L S1 with
  | ok u S2 => cases u <;> rfl
  | exc _ _ => rfl
  | bad => rfl
@[simp] theorem slc_lh {e l h : CE} : evE G (.slc e true l true h) L S = ((evE G e L S).bind fun d S1 => (evE G l L S1).bind fun u S2 => match u with
    | .int i => (evE G h L S2).bind fun u S3 => match u with | .int j => slcD d (some i) (some j) S3 | _ => .bad
    | _ => .bad).gc S := by
  simp only [evE, if_true]
  congr 2
  funext d S1
  cases evE G l L S1 with
  | exc _ _ => rfl
  | bad => rfl
  | ok u S2 =>
    cases u with
    | int i =>
      simp only [R.bind_ok]
      cases evE G h L S2 with
      | ok u S3 => cases u <;> rfl
      | exc _ _ => rfl
      | bad => rfl
    | _ => rfl
@[simp] theorem ev_anil : evA G .nil L S = .ok [] S := rfl
@[simp] theorem ev_acons {e : CE} {r : CA} : evA G (.cons e r) L S = (evE G e L S).bind fun d S1 => (evA G r L S1).bind fun ds S2 => .ok (d :: ds) S2 := rfl
@[simp] theorem ev_val {e : CE} : evI G (.val e) L S = (evE G e L S).bind fun d S1 => ofO (walkD S1 d) S1 := rfl
@[simp] theorem ev_rng {as : CA} : evI G (.rng as) L S = (evA G as L S).bind fun ds S1 => ofO ((rngD ds).map fun l => (l, [])) S1 := rfl
@[simp] theorem ev_enu {e : CE} : evI G (.enu e) L S = (evE G e L S).bind fun d S1 => ofO ((walkE S1 d).map fun p => (enuFrom 0 p.1, p.2)) S1 := rfl
@[simp] theorem ev_zip {a b : CE} : evI G (.zip a b) L S = (evE G a L S).bind fun x S1 => (evE G b L S1).bind fun y S2 => ofO (zipD S2 x y) S2 := rfl
@[simp] theorem ex_nil : exS G .nil L S = .ok (.nx, L) S := rfl
@[simp] theorem ex_asg {t : CT} {e : CE} {r : CSs} : exS G (.asg t e r) L S = (evE G e L S).bind fun d S1 => (ofO (asgT t d S1 L) S1).bind fun L1 S2 => exS G r L1 S2 := rfl
@[simp] theorem ex_sub {o i e : CE} {r : CSs} : exS G (.sub o i e r) L S = (evE G e L S).bind fun v S1 => (evE G o L S1).bind fun x S2 => (evE G i L S2).bind fun k S3 => (ofO (subD x k v S3) S3).bind fun S4 _ => exS G r L S4 := by
  simp only [exS]
  congr 1
  funext v S1
  congr 1
  funext x S2
  congr 1
  funext k S3
  cases subD x k v S3 <;> rfl
@[simp] theorem ex_exp {e : CE} {r : CSs} : exS G (.exp e r) L S = (evE G e L S).bind fun _ S1 => exS G r L S1 := rfl
@[simp] theorem ex_ret {e : CE} : exS G (.ret e) L S = (evE G e L S).bind fun d S1 => .ok (.ret d, L) S1 := rfl
/-- behind a part -/
noncomputable def thenS (G : Gv) (r : CSs) (q : R (Fl × Lcs)) : R (Fl × Lcs) := q.bind fun p S2 => match p.1 with
  | .nx => exS G r p.2 S2
  | _ => .ok p S2
@[simp] theorem then_nx {r : CSs} : thenS G r (.ok (.nx, L) S) = exS G r L S := rfl
@[simp] theorem then_ret {r : CSs} {d : D} : thenS G r (.ok (.ret d, L) S) = .ok (.ret d, L) S := rfl
@[simp] theorem then_brk {r : CSs} : thenS G r (.ok (.brk, L) S) = .ok (.brk, L) S := rfl
@[simp] theorem then_ct {r : CSs} : thenS G r (.ok (.ct, L) S) = .ok (.ct, L) S := rfl
theorem then_congr {r : CSs} {q q' : R (Fl × Lcs)} (h : q = q') : thenS G r q = thenS G r q' := by rw [h]
@[simp] theorem ex_ifs {c : CE} {a b r : CSs} : exS G (.ifs c a b r) L S = (evE G c L S).bind fun x S1 => thenS G r (ifB x (exS G a L S1) (exS G b L S1)) := rfl
/-- a loop's turn -/
noncomputable def body2 (G : Gv) (t : CT) (b : CSs) : D → Lcs → Store → R (Fl × Lcs) := fun d L1 S2 => (ofO (asgT t d S2 L1) S2).bind fun L2 S3 => exS G b L2 S3
@[simp] theorem ex_for {t : CT} {it : CI} {b r : CSs} : exS G (.for_ t it b r) L S = (evI G it L S).bind fun q S1 => thenS G r (forLoop (body2 G t b) q.2 q.1 L S1) := rfl
@[simp] theorem asg_nm {i : Nat} {d : D} : asgT (.nm i) d S L = if i < L.length then some (L.set i (some d)) else none := rfl
@[simp] theorem asg_tpt {ts : List CT} {ds : List D} : asgT (.tp ts) (.tup ds) S L = if ds.length = ts.length then asgTs ts ds S L else none := rfl
@[simp] theorem asg_snil : asgTs [] [] S L = some L := rfl
@[simp] theorem asg_scons {t : CT} {ts : List CT} {d : D} {ds : List D} : asgTs (t :: ts) (d :: ds) S L = (asgT t d S L).bind (asgTs ts ds S) := rfl
@[simp] theorem bin_addI {i j : Int} : binD .Add (.int i) (.int j) S = .ok (.int (i + j)) S := rfl
@[simp] theorem bin_subI {i j : Int} : binD .Sub (.int i) (.int j) S = .ok (.int (i - j)) S := rfl
theorem bin_mul {i j : Int} (h : CMul i j) : binD .Mult (.int i) (.int j) S = .ok (.int (i * j)) S := by
  show okIf (decide (CMul i j) || decide (CMulW i j)) _ S = _
  rw [decide_eq_true h]; rfl
theorem bin_div {i j : Int} (h : CDivW i j) : binD .FloorDiv (.int i) (.int j) S = .ok (.int (i / j)) S := by
  show okIf (decide (CDivW i j)) _ S = _
  rw [decide_eq_true h]; rfl
theorem bin_mod {i j : Int} (h : 0 < j) : binD .Mod (.int i) (.int j) S = .ok (.int (i % j)) S := by
  show okIf (decide (0 < j)) _ S = _
  rw [decide_eq_true h]; rfl
theorem bin_pow {i j : Int} (h : CPow i j) : binD .Pow (.int i) (.int j) S = .ok (.int (i ^ j.toNat)) S := by
  show okIf (decide (CPow i j)) _ S = _
  rw [decide_eq_true h]; rfl
@[simp] theorem pow18 : binD .Pow (.int 10) (.int 18) S = .ok (.int 1000000000000000000) S := by rw [bin_pow (by decide)] <;> rfl
@[simp] theorem pow20 : binD .Pow (.int 10) (.int 20) S = .ok (.int 100000000000000000000) S := by rw [bin_pow (by decide)] <;> rfl
@[simp] theorem pow6 : binD .Pow (.int 10) (.int 6) S = .ok (.int 1000000) S := by rw [bin_pow (by decide)] <;> rfl
@[simp] theorem bin_addS {x y : Str} : binD .Add (.str x) (.str y) S = okIf (sizeOk (x.length + y.length)) (.str (x ++ y)) S := rfl
@[simp] theorem bin_addT {xs ys : List D} : binD .Add (.tup xs) (.tup ys) S = okIf (sizeOk (xs.length + ys.length)) (.tup (xs ++ ys)) S := rfl
@[simp] theorem cmp_lt {i j : Int} : cmpD .Lt (.int i) (.int j) S = .ok (.bl (decide (i < j))) S := rfl
@[simp] theorem cmp_le {i j : Int} : cmpD .LtE (.int i) (.int j) S = .ok (.bl (decide (i ≤ j))) S := rfl
@[simp] theorem cmp_gt {i j : Int} : cmpD .Gt (.int i) (.int j) S = .ok (.bl (decide (j < i))) S := rfl
@[simp] theorem cmp_ge {i j : Int} : cmpD .GtE (.int i) (.int j) S = .ok (.bl (decide (j ≤ i))) S := rfl
@[simp] theorem cmp_eqI {i j : Int} : cmpD .Eq (.int i) (.int j) S = .ok (.bl (i == j)) S := by
  show ofB (eqD S (.int i) (.int j)) S = _
  unfold eqD
  simp [py, toPy, SeqAt.shaped, PyData.canLay0, PyData.depth, PyData.eqv]
@[simp] theorem cmp_neI {i j : Int} : cmpD .NotEq (.int i) (.int j) S = .ok (.bl (!(i == j))) S := by
  show ofB ((eqD S (.int i) (.int j)).map (!·)) S = _
  unfold eqD
  simp [py, toPy, SeqAt.shaped, PyData.canLay0, PyData.depth, PyData.eqv]
theorem cmp_eqS {i j : Str} (hi : PyData.strOk i = true) (hj : PyData.strOk j = true) : cmpD .Eq (.str i) (.str j) S = .ok (.bl (i == j)) S := by
  show ofB (eqD S (.str i) (.str j)) S = _
  unfold eqD
  simp [py, toPy, SeqAt.shaped, PyData.canLay0, PyData.depth, PyData.eqv, hi, hj]
@[simp] theorem neg_int {i : Int} : negD (.int i) S = .ok (.int (-i)) S := rfl
@[simp] theorem bi_abs {i : Int} : biD .abs [.int i] S = .ok (.int (if i < 0 then -i else i)) S := rfl
@[simp] theorem bi_min {i j : Int} : biD .min [.int i, .int j] S = .ok (.int (if j < i then j else i)) S := rfl
@[simp] theorem bi_max {i j : Int} : biD .max [.int i, .int j] S = .ok (.int (if j > i then j else i)) S := rfl
@[simp] theorem bi_lenT {ds : List D} : biD .len [.tup ds] S = .ok (.int ds.length) S := rfl
theorem sub_dK {n : Nat} {kvs : List (Key × D)} {k v : D} {kk : Key} (h : S[n]? = some (.dK kvs)) (hk : keyOf k = some kk) (hz : kvs.length < sizeLine) : subD (.ref n) k v S = some (S.set n (.dK (putD kvs kk v))) := by
  cases k with
  | int i => cases hk; simp only [subD, h, keyOf, if_pos hz]
  | str x => cases hk; simp only [subD, h, keyOf, if_pos hz]
  | _ => cases hk
theorem sub_lst {n : Nat} {ds : List D} {i : Int} {v : D} {j : Nat} (h : S[n]? = some (.lst ds)) (hj : ixN ds.length i = some j) : subD (.ref n) (.int i) v S = some (S.set n (.lst (ds.set j v))) := by
  simp only [subD, h, hj, Option.map_some]
theorem div_ok {i j : Int} (h : 0 < j) (h2 : j < 2 ^ 64) : CDivW i j := by
  refine ⟨h, ?_⟩
  have : j.natAbs < 2 ^ 64 := by omega
  have := PySem.Flt.log2_lt_of (by decide) this
  omega
@[simp] theorem sizeOk_of {n : Nat} : sizeOk n = decide (n ≤ 16777216) := by
  unfold sizeOk; rw [sizeLine_eq]
theorem allSome_ints (k : Nat) (cs : List Int) : allSome ((cs.map D.int).map (toPy (k + 1) S)) = some (cs.map PyData.int) := by
  induction cs with
  | nil => rfl
  | cons c cs ih =>
    rw [List.map_cons, List.map_cons]
    show (allSome ((cs.map D.int).map (toPy (k + 1) S))).map (PyData.int c :: ·) = _
    rw [ih]; rfl
theorem lay_ints : ∀ cs : List Int, PyData.canLayAll0 (cs.map PyData.int) = true ∧ PyData.depthAll (cs.map PyData.int) = 0
  | [] => ⟨rfl, rfl⟩
  | c :: cs => by
    obtain ⟨h1, h2⟩ := lay_ints cs
    exact ⟨by simp [PyData.canLayAll0, PyData.canLay0, h1], by simp [PyData.depthAll, PyData.depth, h2]⟩
theorem eqv_nil (ps : List PyData) : PyData.eqv (.list ps) (.list []) = ps.isEmpty := by
  cases ps <;> simp [PyData.eqv, PyData.eqvAll]
theorem py_lst {n : Nat} {ds : List D} {ps : List PyData} (e : S[n]? = some (.lst ds)) (h : allSome (ds.map (toPy 49 S)) = some ps) : py S (.ref n) = some (.list ps) := by
  show toPy (49 + 1) S (.ref n) = _
  simp only [toPy, e, h, Option.map_some]
theorem eq_nil {n m : Nat} {ds : List D} {ps : List PyData} (e : S[n]? = some (.lst ds)) (h : allSome (ds.map (toPy 49 S)) = some ps) (sh : SeqAt.shaped (.list ps) = true) (e2 : S[m]? = some (.lst [])) : eqD S (.ref n) (.ref m) = some ps.isEmpty := by
  unfold eqD
  rw [py_lst e h, py_lst e2 rfl]
  have : SeqAt.shaped (.list []) = true := by decide
  simp only [sh, this, Bool.and_self, if_true, eqv_nil]
theorem shaped_ints (cs : List Int) : SeqAt.shaped (.list (cs.map PyData.int)) = true := by
  obtain ⟨h1, h2⟩ := lay_ints cs
  simp [SeqAt.shaped, PyData.canLay0, PyData.depth, h1, h2]
/-- any list beside an empty one -/
theorem cmp_nil {n m : Nat} {ds : List D} (e : S[n]? = some (.lst ds)) (e2 : S[m]? = some (.lst [])) : cmpD .Eq (.ref n) (.ref m) S = .ok (.bl ds.isEmpty) S := by
  show ofB (eqX S (.ref n) (.ref m)) S = _
  simp only [eqX, nilB, e, e2]
  rfl
theorem ne_nilI {n m : Nat} {cs : List Int} (e : S[n]? = some (.lst (cs.map .int))) (e2 : S[m]? = some (.lst [])) : cmpD .NotEq (.ref n) (.ref m) S = .ok (.bl (!cs.isEmpty)) S := by
  show ofB ((eqD S (.ref n) (.ref m)).map (!·)) S = _
  rw [eq_nil e (allSome_ints 48 cs) (shaped_ints cs) e2]
  cases cs <;> rfl
theorem len_lst {n : Nat} {ds : List D} (e : S[n]? = some (.lst ds)) : biD .len [.ref n] S = .ok (.int ds.length) S := by
  have h : lenD S (.ref n) = some ds.length := by simp only [lenD, e]
  show optR ((lenD S (.ref n)).map fun n => .int n) S = _
  rw [h]; rfl
theorem idx_lst {n : Nat} {ds : List D} {i : Int} {d : D} (e : S[n]? = some (.lst ds)) (h : L2.atI ds i = some d) : idxD (.ref n) (.int i) S = .ok d S := by
  show idxC S[n]? _ S = _
  rw [e]
  show optR (L2.atI ds i) S = _
  rw [h]; rfl
theorem at_ints {cs : List Int} {i : Int} (h0 : 0 ≤ i) (h1 : i < cs.length) : ∃ z, z ∈ cs ∧ L2.atI (cs.map D.int) i = some (.int z) := by
  obtain ⟨x, hx, hm⟩ := atI_int (xs := cs.map D.int) h0 (by simpa using h1)
  obtain ⟨z, hz, rfl⟩ := List.mem_map.mp hm
  exact ⟨z, hz, hx⟩
end
end Mi
namespace Mi
open PySem L2
theorem strOk_iff {x : Str} : PyData.strOk x = true ↔ ∀ c ∈ x.cps.toList, c < 0x110000 := by
  unfold PyData.strOk
  rw [← Array.all_toList, List.all_eq_true]
  simp
/-- a text of at most b signs -/
structure Sg (b : Nat) (x : Str) : Prop where
  len : x.cps.toList.length ≤ b
  ok : PyData.strOk x = true
theorem Sg.size {b : Nat} {x : Str} (h : Sg b x) : x.length ≤ b := by
  have := h.len
  simpa [Str.length] using this
theorem Sg.mono {a b : Nat} {x : Str} (h : Sg a x) (l : a ≤ b) : Sg b x := ⟨Nat.le_trans h.len l, h.ok⟩
theorem Sg.app {a b : Nat} {x y : Str} (h : Sg a x) (g : Sg b y) : Sg (a + b) (x ++ y) := by
  have e : (x ++ y).cps.toList = x.cps.toList ++ y.cps.toList := by
    show (x.cps ++ y.cps).toList = _
    simp
  refine ⟨?_, ?_⟩
  · rw [e, List.length_append]; have := h.len; have := g.len; omega
  · rw [strOk_iff, e]
    intro c hc
    rcases List.mem_append.mp hc with hc | hc
    · exact strOk_iff.mp h.ok c hc
    · exact strOk_iff.mp g.ok c hc
theorem Sg.of {b : Nat} {x : Str} {l : List Nat} (h : Sg b x) (s : ∀ c ∈ l, c ∈ x.cps.toList) (hl : l.length ≤ b) : Sg b ⟨l.toArray⟩ := by
  refine ⟨by simpa using hl, strOk_iff.mpr fun c hc => strOk_iff.mp h.ok c (s c (by simpa using hc))⟩
theorem Sg.one {x : Str} {b c : Nat} (h : Sg b x) (hc : c ∈ x.cps.toList) : Sg 1 ⟨#[c]⟩ := ⟨by simp, strOk_iff.mpr fun d hd => by
  have : d = c := by simpa using hd
  subst this
  exact strOk_iff.mp h.ok d hc⟩
theorem sIx_le' (n d : Nat) (o : Option Int) (h : d ≤ n) : HT.sIx n d o ≤ n := HT.sIx_le n d h o
theorem cutD_mem {α : Type} {xs : List α} {lo hi : Option Int} {x : α} (h : x ∈ cutD xs lo hi) : x ∈ xs := List.mem_of_mem_drop (List.mem_of_mem_take h)
theorem cutD_len {α : Type} (xs : List α) (lo hi : Option Int) : (cutD xs lo hi).length ≤ xs.length := by
  unfold cutD
  rw [List.length_take, List.length_drop]
  omega
theorem cut_from {α : Type} (xs : List α) {i : Int} (h : 0 ≤ i) : cutD xs (some i) none = xs.drop i.toNat := by
  unfold cutD
  have e : HT.sIx xs.length 0 (some i) = min i.toNat xs.length := by
    show (if i < 0 then (i + (xs.length : Int)).toNat else min i.toNat xs.length) = _
    rw [if_neg (by omega)]
  rw [e, HT.sIx_none]
  by_cases hl : i.toNat ≤ xs.length
  · rw [Nat.min_eq_left hl, List.take_of_length_le]
    rw [List.length_drop]; omega
  · rw [Nat.min_eq_right (by omega), List.drop_of_length_le (Nat.le_refl _), List.drop_of_length_le (by omega)]
    simp
theorem cut_to {α : Type} (xs : List α) {j : Int} (h : 0 ≤ j) : cutD xs none (some j) = xs.take j.toNat := by
  unfold cutD
  have e : HT.sIx xs.length xs.length (some j) = min j.toNat xs.length := by
    show (if j < 0 then (j + (xs.length : Int)).toNat else min j.toNat xs.length) = _
    rw [if_neg (by omega)]
  rw [e, HT.sIx_none, List.drop_zero, Nat.sub_zero]
  by_cases hl : j.toNat ≤ xs.length
  · rw [Nat.min_eq_left hl]
  · rw [Nat.min_eq_right (by omega), List.take_of_length_le (Nat.le_refl _), List.take_of_length_le (by omega)]
section
variable {S : Store}
theorem slc_str {z : Str} {lo hi : Option Int} (h : z.length ≤ 16777216) : slcD (.str z) lo hi S = .ok (.str ⟨(cutD z.cps.toList lo hi).toArray⟩) S := by
  show (if sizeOk z.length then _ else _) = _
  rw [sizeOk_of, decide_eq_true h]; rfl
theorem slc_lst {n : Nat} {ds : List D} {lo hi : Option Int} (h : S[n]? = some (.lst ds)) : slcD (.ref n) lo hi S = .ok (.ref S.length) (S ++ [.lst (cutD ds lo hi)]) := by
  have e : lstAt S (.ref n) = some ds := by simp only [lstAt, h]
  show (match lstAt S (.ref n) with
    | some ds => newC (.lst (cutD ds lo hi)) S
    | none => .bad) = _
  rw [e]; rfl
theorem slc_frz {n : Nat} {ds : List D} {lo hi : Option Int} (h : S[n]? = some (.frz ds)) : slcD (.ref n) lo hi S = .ok (.ref S.length) (S ++ [.lst (cutD ds lo hi)]) := by
  have e : lstAt S (.ref n) = some ds := by simp only [lstAt, h]
  show (match lstAt S (.ref n) with
    | some ds => newC (.lst (cutD ds lo hi)) S
    | none => .bad) = _
  rw [e]; rfl
@[simp] theorem slc_tup {ds : List D} {lo hi : Option Int} : slcD (.tup ds) lo hi S = .ok (.tup (cutD ds lo hi)) S := rfl
theorem add_lst {m n : Nat} {xs ys : List D} (h : S[m]? = some (.lst xs)) (g : S[n]? = some (.lst ys)) (hz : xs.length + ys.length ≤ 16777216) : binD .Add (.ref m) (.ref n) S = .ok (.ref S.length) (S ++ [.lst (xs ++ ys)]) := by
  simp only [binD, h, g]
  rw [sizeOk_of, decide_eq_true hz]; rfl
theorem app_lst {n : Nat} {xs : List D} {d : D} (h : S[n]? = some (.lst xs)) (hz : xs.length < 16777216) : mtD .append (.ref n) [d] S = .ok .non (S.set n (.lst (xs ++ [d]))) := by
  have e : xs.length < sizeLine := by rw [sizeLine_eq]; exact hz
  simp only [mtD, h, if_pos e, setC]
theorem ty_app {n : Nat} {xs : List D} (h : S[n]? = some (.lst xs)) : mtTy .append (.ref n) S = true := by
  simp only [mtTy, lstAt, h]; rfl
theorem ty_pop {n : Nat} {xs : List D} (h : S[n]? = some (.lst xs)) : mtTy .pop (.ref n) S = true := by
  simp only [mtTy, lstAt, h]; rfl
theorem ty_ins {n : Nat} {xs : List D} (h : S[n]? = some (.lst xs)) : mtTy .insert (.ref n) S = true := by
  simp only [mtTy, lstAt, h]; rfl
theorem pop_lst {n : Nat} {xs : List D} {v : Int} {d : D} (h : S[n]? = some (.lst xs)) (h0 : 0 ≤ v) (h1 : v < xs.length) (hd : xs[v.toNat]? = some d) (hz : xs.length < 2 ^ 60) : mtD .pop (.ref n) [.int v] S = .ok d (S.set n (.lst (xs.eraseIdx v.toNat))) := by
  have e : ixN xs.length v = some v.toNat := by unfold ixN; rw [if_pos h0, if_pos h1]
  simp only [mtD, h, e, hd]
  rw [if_pos (by constructor <;> omega)]; rfl
theorem whN_more {f : Turn} : ∀ {n : Nat} {L : Lcs} {S : Store} {r : R (Fl × Lcs)} (m : Nat), whN f n L S = some r → n ≤ m → whN f m L S = some r
  | 0, _, _, _, _, h, _ => by cases h
  | n + 1, L, S, r, 0, h, l => by omega
  | n + 1, L, S, r, m + 1, h, l => by
    simp only [whN] at h ⊢
    cases e : f L S with
    | bad => rw [e] at h; exact h
    | exc _ _ => rw [e] at h; exact h
    | ok q S' =>
      obtain ⟨b, fl, L'⟩ := q
      rw [e] at h
      cases b with
      | false => exact h
      | true => exact whN_more m h (by omega)
theorem wh_eq {f : Turn} {n : Nat} {L : Lcs} {S : Store} {r : R (Fl × Lcs)} (h : whN f n L S = some r) : wh f L S = r := by
  unfold wh
  have hx : ∃ n r, whN f n L S = some r := ⟨n, r, h⟩
  rw [dif_pos hx]
  have h2 := (Classical.choose_spec hx).choose_spec
  have a := whN_more (max n hx.choose) h (Nat.le_max_left ..)
  have b := whN_more (max n hx.choose) h2 (Nat.le_max_right ..)
  rw [a] at b
  exact (Option.some.inj b).symm
/-- a while by a measure -/
theorem wh_inv {f : Turn} (I : Nat → Lcs → Store → Prop) (Q : Fl × Lcs → Store → Prop) (step : ∀ n L S, I n L S → (∃ L' S', f L S = .ok (true, .nx, L') S' ∧ ∃ m, m < n ∧ I m L' S') ∨ ∃ fl L' S', f L S = .ok (false, fl, L') S' ∧ Q (fl, L') S') : ∀ n L S, I n L S → ∃ p S', wh f L S = .ok p S' ∧ Q p S' := by
  have key : ∀ n L S, I n L S → ∃ p S', whN f (n + 1) L S = some (.ok p S') ∧ Q p S' := by
    intro n
    induction n using Nat.strongRecOn with
    | ind n ih =>
      intro L S h
      rcases step n L S h with ⟨L', S', e, m, hm, hI⟩ | ⟨fl, L', S', e, hq⟩
      · obtain ⟨p, S2, e2, q⟩ := ih m hm L' S' hI
        refine ⟨p, S2, ?_, q⟩
        simp only [whN, e]
        exact whN_more n e2 (by omega)
      · exact ⟨(fl, L'), S', by simp only [whN, e], hq⟩
  intro n L S h
  obtain ⟨p, S', e, q⟩ := key n L S h
  exact ⟨p, S', wh_eq e, q⟩
/-- a comprehension's turns -/
theorem lc_inv {f : D → Store → R Unit} {g : Guard} (I : Nat → Store → Prop) : ∀ (items : List D) (n : Nat) (S : Store), I n S →
    (∀ i S, I i S → Gok g S) → (∀ i d S, n ≤ i → items[i - n]? = some d → I i S → ∃ S', f d S = .ok () S' ∧ I (i + 1) S') → ∃ S', lcLoop f g items S = .ok () S' ∧ I (n + items.length) S'
  | [], n, S, h0, hg, step => ⟨S, by simp [lcLoop, hg n S h0], h0⟩
  | d :: ds, n, S, h0, hg, step => by
    obtain ⟨S1, e1, i1⟩ := step n d S (Nat.le_refl _) (by simp) h0
    obtain ⟨S2, e2, i2⟩ := lc_inv I ds (n + 1) S1 i1 hg fun i d' S hi hd hI => step i d' S (by omega) (by
      have : i - n = (i - (n + 1)) + 1 := by omega
      rw [this]; exact hd) hI
    refine ⟨S2, ?_, by rw [List.length_cons]; have : n + (ds.length + 1) = n + 1 + ds.length := by omega
                       rw [this]; exact i2⟩
    simp only [lcLoop]
    rw [if_pos (hg n S h0), e1, R.bind_ok]
    exact e2
theorem ev_lcE {G : Gv} {vs : List Nat} {t : CT} {it : CI} {c e : CE} {L : Lcs} : evE G (.lc vs t it c e) L S = ((evI G it L S).bind fun p S1 => (lcLoop (lcF G t c e (wipeL L vs) S1.length) p.2 p.1 (S1 ++ [.lst []])).bind fun _ S9 => .ok (.ref S1.length) S9).gc S := rfl
theorem ex_whl {G : Gv} {c : CE} {b r : CSs} {L : Lcs} : exS G (.whl c b r) L S = thenS G r (wh (whF G c b) L S) := rfl
end
theorem joinL_nil : ∀ ps : List (List Nat), TL.joinL [] ps = ps.flatten
  | [] => rfl
  | [p] => by simp [TL.joinL]
  | p :: q :: r => by
    show p ++ ([] ++ TL.joinL [] (q :: r)) = _
    rw [joinL_nil (q :: r)]; simp
theorem strs_of (xs : List Str) : strsOf (xs.map D.str) = some xs := by
  induction xs with
  | nil => rfl
  | cons x xs ih => rw [List.map_cons]; show (strsOf (xs.map D.str)).map (x :: ·) = _; rw [ih]; rfl
theorem join_lst {S : Store} {n : Nat} {a : Str} {ys : List Str} (h : S[n]? = some (.lst (ys.map .str))) (hz : (ys.map (·.length)).sum + ys.length * a.length ≤ 16777216) : mtD .join (.str a) [.ref n] S = .ok (.str (Txt.join a ys)) S := by
  have e : lstAt S (.ref n) = some (ys.map .str) := by simp only [lstAt, h]
  simp only [mtD, e, strs_of, if_pos hz]
@[simp] theorem ty_join {S : Store} {a : Str} : mtTy .join (.str a) S = true := rfl
theorem flat_ones (xs : List Nat) : ((xs.map fun c => (⟨#[c]⟩ : Str)).map TL.tl).flatten = xs := by
  induction xs with
  | nil => rfl
  | cons x xs ih =>
    rw [List.map_cons, List.map_cons, List.flatten_cons, ih]; rfl
theorem join_ones {xs : List Nat} : (Txt.join (Str.ofString "") (xs.map fun c => (⟨#[c]⟩ : Str))).cps.toList = xs := by
  rw [TL.join_eq]
  show TL.tl _ = _
  rw [TL.tl_join]
  have e3 : TL.tl (Str.ofString "") = [] := by decide
  rw [e3, joinL_nil, flat_ones]
theorem shaped_strs {xs : List Str} (h : ∀ x ∈ xs, PyData.strOk x = true) : SeqAt.shaped (.list (xs.map PyData.str)) = true := by
  have k : ∀ xs : List Str, (∀ x ∈ xs, PyData.strOk x = true) → PyData.canLayAll0 (xs.map PyData.str) = true ∧ PyData.depthAll (xs.map PyData.str) = 0 := by
    intro xs
    induction xs with
    | nil => intro _; exact ⟨rfl, rfl⟩
    | cons x xs ih =>
      intro h
      obtain ⟨h1, h2⟩ := ih fun y hy => h y (by simp [hy])
      exact ⟨by simp [PyData.canLayAll0, PyData.canLay0, h1, h x (by simp)], by simp [PyData.depthAll, PyData.depth, h2]⟩
  obtain ⟨h1, h2⟩ := k xs h
  simp [SeqAt.shaped, PyData.canLay0, PyData.depth, h1, h2]
theorem allSome_strs {S : Store} (k : Nat) (xs : List Str) : allSome ((xs.map D.str).map (toPy (k + 1) S)) = some (xs.map PyData.str) := by
  induction xs with
  | nil => rfl
  | cons c cs ih =>
    rw [List.map_cons, List.map_cons]
    show (allSome ((cs.map D.str).map (toPy (k + 1) S))).map (PyData.str c :: ·) = _
    rw [ih]; rfl
theorem ne_nilS {S : Store} {n m : Nat} {xs : List Str} (hx : ∀ x ∈ xs, PyData.strOk x = true) (e : S[n]? = some (.lst (xs.map .str))) (e2 : S[m]? = some (.lst [])) : cmpD .NotEq (.ref n) (.ref m) S = .ok (.bl (!xs.isEmpty)) S := by
  show ofB ((eqD S (.ref n) (.ref m)).map (!·)) S = _
  rw [eq_nil e (allSome_strs 48 xs) (shaped_strs hx) e2]
  cases xs <;> rfl
theorem erase_perm {α : Type} : ∀ (l : List α) (i : Nat) (h : i < l.length), (l[i] :: l.eraseIdx i).Perm l
  | x :: l, 0, _ => by simp
  | x :: l, i + 1, h => by
    have ih := erase_perm l i (by simpa using h)
    simp only [List.getElem_cons_succ, List.eraseIdx_cons_succ]
    exact (List.Perm.swap x _ _).trans (ih.cons x)
theorem map_erase {α β : Type} (f : α → β) : ∀ (l : List α) (i : Nat), (l.map f).eraseIdx i = (l.eraseIdx i).map f
  | [], i => by simp
  | x :: l, 0 => by simp
  | x :: l, i + 1 => by
    simp only [List.map_cons, List.eraseIdx_cons_succ, map_erase f l i]
/-- what a def's body tells -/
noncomputable def fin (q : R (Fl × Lcs)) : R D := q.bindB fun p S' => match p.1 with
  | .nx => .ok .non S'
  | .ret d => .ok d S'
  | .xc x => .exc ⟨x⟩ S'
  | _ => .bad
@[simp] theorem fin_ret {d : D} {L : Lcs} {S : Store} : fin (.ok (.ret d, L) S) = .ok d S := rfl
@[simp] theorem fin_nx {L : Lcs} {S : Store} : fin (.ok (.nx, L) S) = .ok .non S := rfl
theorem runF_fin {G : Gv} {f : CF} {ds : List D} {S : Store} (h : ds.length = f.ps) : runF G f ds S = (fin (exS G f.body (ds.map some ++ List.replicate (f.ns - f.ps) none) S)).gc S := by
  unfold runF
  rw [if_pos h]; rfl
end Mi
namespace Mi
open PySem L2
theorem textFrom_le : ∀ (ts : List Str) (k : Nat) (acc : Str), (textFrom k acc ts).length ≤ acc.length + piled ts
  | [], k, acc => by show acc.length ≤ _; omega
  | t :: r, k, acc => by
    have h := textFrom_le r (k + 1) (acc ++ (if k > 0 then ", " else "" : String) ++ t)
    have e : (acc ++ (if k > 0 then ", " else "" : String) ++ t).length ≤ acc.length + 2 + t.length := by
      rw [strLen_append, strLen_append]
      split
      · show acc.length + 2 + t.length ≤ _; omega
      · show acc.length + 0 + t.length ≤ _; omega
    rw [piled_cons]
    show (textFrom (k + 1) _ r).length ≤ _
    omega
theorem listText_le (ts : List Str) : (listText ts).length ≤ piled ts + 2 := by
  unfold listText
  rw [strLen_append]
  have h := textFrom_le ts 0 "["
  have e : (("[" : String) : Str).length = 1 := rfl
  have e2 : (("]" : String) : Str).length = 1 := rfl
  omega
theorem join_le (ts : List Str) : (Str.join ", " ts).length ≤ piled ts := by
  by_cases h : ts = []
  · subst h; exact Nat.le_refl _
  · have := join_length_add ts h; omega
theorem tupleText_le (ts : List Str) : (tupleText ts).length ≤ piled ts + 3 := by
  unfold tupleText
  rw [strLen_append, strLen_append]
  have h := join_le ts
  have e : (("(" : String) : Str).length = 1 := rfl
  split
  · have e2 : ((",)" : String) : Str).length = 2 := rfl
    omega
  · have e2 : ((")" : String) : Str).length = 1 := rfl
    omega
theorem reprText_le {x : Str} (h : PyData.strOk x = true) : (reprText x).length ≤ 12 * x.length + 12 := by
  have := StrLaws.reprText_len x fun c hc => Nat.lt_of_lt_of_le (strOk_iff.mp h c hc) (by decide)
  omega
theorem big_log {i : Int} {k : Nat} (hk : k ≤ 1000) (h0 : -(10 ^ 60) - (k : Int) ≤ i) (h1 : i ≤ 10 ^ 60 + (k : Int)) : i.natAbs.log2 < 210 := by
  have h : i.natAbs < 2 ^ 210 := by
    have : (2 : Nat) ^ 210 = 1645504557321206042154969182557350504982735865633579863348609024 := by decide +kernel
    rw [this]
    omega
  by_cases h2 : i.natAbs = 0
  · rw [h2]; decide
  · exact (Nat.log2_lt h2).mpr h
theorem big_text {i : Int} {k : Nat} (hk : k ≤ 1000) (h0 : -(10 ^ 60) - (k : Int) ≤ i) (h1 : i ≤ 10 ^ 60 + (k : Int)) : ((toString i : String) : Str).length ≤ 250 := by
  have := int_text_length_le (k := 210) (by decide) (big_log hk h0 h1)
  have e : ((toString i : String) : Str).length = (toString i).length := ofString_length _
  omega
theorem str_app_cps (x y : Str) : (x ++ y).cps.toList = x.cps.toList ++ y.cps.toList := by
  show (x.cps ++ y.cps).toList = _
  simp
theorem strOk_app {x y : Str} (h : PyData.strOk x = true) (g : PyData.strOk y = true) : PyData.strOk (x ++ y) = true := by
  rw [strOk_iff, str_app_cps]
  intro c hc
  rcases List.mem_append.mp hc with hc | hc
  · exact strOk_iff.mp h c hc
  · exact strOk_iff.mp g c hc
theorem char_lt (c : Char) : c.toNat < 0x110000 := by
  show c.val.toNat < _
  rcases c.valid with h | ⟨_, h⟩
  · have : c.val.toNat < 0xd800 := h
    omega
  · exact h
theorem ofStr_ok (s : String) : PyData.strOk (Str.ofString s) = true := by
  rw [strOk_iff, Str.ofString_eq_toList]
  intro c hc
  obtain ⟨x, _, rfl⟩ := List.mem_map.mp (by simpa using hc)
  exact char_lt x
theorem reprChar_lt {q c : Nat} (hc : c < 0x110000) : ∀ d ∈ Builtin.Str.reprChar q c, d < 0x110000 := by
  intro d hd
  have hex : ∀ w : Nat, d ∈ List.replicate (w - ((Nat.toDigits 16 c).map Char.toNat).length) 48 ++ (Nat.toDigits 16 c).map Char.toNat → d < 0x110000 := by
    intro w h
    rcases List.mem_append.mp h with h | h
    · have := List.eq_of_mem_replicate h; omega
    · obtain ⟨x, _, rfl⟩ := List.mem_map.mp h; exact char_lt x
  unfold Builtin.Str.reprChar at hd
  dsimp only at hd
  repeat' split at hd
  all_goals first
    | (simp only [List.mem_cons, List.not_mem_nil, or_false] at hd; omega)
    | (rcases List.mem_append.mp hd with h | h
       · simp only [List.mem_cons, List.not_mem_nil, or_false] at h; omega
       · exact hex _ h)
theorem foldl_repr_lt (q : Nat) : ∀ (l : List Nat) (acc : Array Nat), (∀ c ∈ l, c < 0x110000) → (∀ c ∈ acc.toList, c < 0x110000) → ∀ c ∈ (l.foldl (fun out c => out ++ (Builtin.Str.reprChar q c).toArray) acc).toList, c < 0x110000
  | [], acc, _, h => h
  | c :: r, acc, h, g => by
    rw [List.foldl_cons]
    refine foldl_repr_lt q r _ (fun d hd => h d (List.mem_cons_of_mem _ hd)) ?_
    intro d hd
    rw [Array.toList_append] at hd
    rcases List.mem_append.mp hd with hd | hd
    · exact g d hd
    · exact reprChar_lt (h c (List.mem_cons_self ..)) d (by simpa using hd)
theorem repr_ok {x : Str} (h : PyData.strOk x = true) : PyData.strOk (reprText x) = true := by
  have hq : reprQuote x < 0x110000 := by unfold reprQuote; split <;> omega
  rw [strOk_iff]
  unfold reprText
  show ∀ c ∈ ((x.cps.foldl (fun out c => out ++ (Builtin.Str.reprChar (reprQuote x) c).toArray) #[reprQuote x]).push (reprQuote x)).toList, c < 0x110000
  rw [← Array.foldl_toList, Array.toList_push]
  intro c hc
  rcases List.mem_append.mp hc with hc | hc
  · exact foldl_repr_lt _ _ _ (strOk_iff.mp h) (by intro d hd; have : d = reprQuote x := by simpa using hd
                                                   omega) c hc
  · have : c = reprQuote x := by simpa using hc
    omega
theorem textFrom_ok : ∀ (ts : List Str) (k : Nat) (acc : Str), (∀ t ∈ ts, PyData.strOk t = true) → PyData.strOk acc = true → PyData.strOk (textFrom k acc ts) = true
  | [], _, _, _, h => h
  | t :: r, k, acc, h, g => by
    refine textFrom_ok r (k + 1) _ (fun u hu => h u (List.mem_cons_of_mem _ hu)) ?_
    exact strOk_app (strOk_app g (ofStr_ok _)) (h t (List.mem_cons_self ..))
theorem listText_ok {ts : List Str} (h : ∀ t ∈ ts, PyData.strOk t = true) : PyData.strOk (listText ts) = true := strOk_app (textFrom_ok ts 0 _ h (ofStr_ok _)) (ofStr_ok _)
theorem join_ok {s : Str} (hs : PyData.strOk s = true) : ∀ ts : List Str, (∀ t ∈ ts, PyData.strOk t = true) → PyData.strOk (Str.join s ts) = true
  | [], _ => (by decide +kernel : PyData.strOk Str.empty = true)
  | [t], h => h t (by simp)
  | t :: u :: r, h => strOk_app (strOk_app (h t (by simp)) hs) (join_ok hs (u :: r) fun v hv => h v (List.mem_cons_of_mem _ hv))
theorem tupleText_ok {ts : List Str} (h : ∀ t ∈ ts, PyData.strOk t = true) : PyData.strOk (tupleText ts) = true := strOk_app (strOk_app (ofStr_ok _) (join_ok (ofStr_ok _) ts h)) (by split <;> exact ofStr_ok _)
def Th : Nat → Store → (Nat → Prop) → D → Nat → Prop
  | _, _, _, .non, w => 8 ≤ w
  | _, _, _, .bl _, w => 8 ≤ w
  | k, _, _, .int i, w => -(10 ^ 60) - (k : Int) ≤ i ∧ i ≤ 10 ^ 60 + (k : Int) ∧ 250 ≤ w
  | _, _, _, .str x, w => PyData.strOk x = true ∧ 12 * x.length + 12 ≤ w
  | k + 1, S, A, .tup ds, w => ∃ dws : List (D × Nat), ds = dws.map (·.1) ∧ (∀ q ∈ dws, Th k S A q.1 q.2) ∧ (dws.map (·.2)).sum + 2 * dws.length + 6 ≤ w
  | k + 1, S, A, .ref n, w => A n ∧ ((∃ dws : List (D × Nat), S[n]? = some (.lst (dws.map (·.1))) ∧ (∀ q ∈ dws, Th k S A q.1 q.2) ∧ (dws.map (·.2)).sum + 2 * dws.length + 6 ≤ w) ∨ (S[n]? = some (.dK []) ∧ 300 ≤ w) ∨ (S[n]? = some (.dK [(.inr (Str.ofString "a"), .int 0)]) ∧ 300 ≤ w))
  | _, _, _, _, _ => False
theorem Th.int {k : Nat} {S : Store} {A : Nat → Prop} {i : Int} {w : Nat} : Th k S A (.int i) w ↔ (-(10 ^ 60) - (k : Int) ≤ i ∧ i ≤ 10 ^ 60 + (k : Int) ∧ 250 ≤ w) := by
  cases k <;> exact Iff.rfl
theorem Th.str {k : Nat} {S : Store} {A : Nat → Prop} {x : Str} {w : Nat} : Th k S A (.str x) w ↔ (PyData.strOk x = true ∧ 12 * x.length + 12 ≤ w) := by
  cases k <;> exact Iff.rfl
theorem Th.non {k : Nat} {S : Store} {A : Nat → Prop} {w : Nat} : Th k S A .non w ↔ 8 ≤ w := by
  cases k <;> exact Iff.rfl
theorem Th.bl {k : Nat} {S : Store} {A : Nat → Prop} {b : Bool} {w : Nat} : Th k S A (.bl b) w ↔ 8 ≤ w := by
  cases k <;> exact Iff.rfl
theorem Th.tup {k : Nat} {S : Store} {A : Nat → Prop} {ds : List D} {w : Nat} : Th (k + 1) S A (.tup ds) w ↔ ∃ dws : List (D × Nat), ds = dws.map (·.1) ∧ (∀ q ∈ dws, Th k S A q.1 q.2) ∧ (dws.map (·.2)).sum + 2 * dws.length + 6 ≤ w := Iff.rfl
theorem Th.ref {k : Nat} {S : Store} {A : Nat → Prop} {n : Nat} {w : Nat} : Th (k + 1) S A (.ref n) w ↔ (A n ∧ ((∃ dws : List (D × Nat), S[n]? = some (.lst (dws.map (·.1))) ∧ (∀ q ∈ dws, Th k S A q.1 q.2) ∧ (dws.map (·.2)).sum + 2 * dws.length + 6 ≤ w) ∨ (S[n]? = some (.dK []) ∧ 300 ≤ w) ∨ (S[n]? = some (.dK [(.inr (Str.ofString "a"), .int 0)]) ∧ 300 ≤ w))) := Iff.rfl
theorem Th.mono : ∀ {k k' : Nat} {S S' : Store} {A A' : Nat → Prop} {d : D} {w w' : Nat}, Th k S A d w → k ≤ k' → w ≤ w' → (∀ n, A n → A' n) → (∀ n c, A n → S[n]? = some c → S'[n]? = some c) → Th k' S' A' d w' := by
  intro k
  induction k with
  | zero =>
    intro k' S S' A A' d w w' h hk hw hA hS
    cases d with
    | non => exact Th.non.mpr (Nat.le_trans (Th.non.mp h) hw)
    | bl b => exact Th.bl.mpr (Nat.le_trans (Th.bl.mp h) hw)
    | int i =>
      obtain ⟨a, b, c⟩ := Th.int.mp h
      exact Th.int.mpr ⟨by omega, by omega, by omega⟩
    | str x =>
      obtain ⟨a, b⟩ := Th.str.mp h
      exact Th.str.mpr ⟨a, by omega⟩
    | tup ds => exact h.elim
    | ref n => exact h.elim
    | sta s => exact h.elim
  | succ k ih =>
    intro k' S S' A A' d w w' h hk hw hA hS
    cases d with
    | non => exact Th.non.mpr (Nat.le_trans (Th.non.mp h) hw)
    | bl b => exact Th.bl.mpr (Nat.le_trans (Th.bl.mp h) hw)
    | int i =>
      obtain ⟨a, b, c⟩ := Th.int.mp h
      exact Th.int.mpr ⟨by omega, by omega, by omega⟩
    | str x =>
      obtain ⟨a, b⟩ := Th.str.mp h
      exact Th.str.mpr ⟨a, by omega⟩
    | tup ds =>
      obtain ⟨dws, rfl, h1, h2⟩ := Th.tup.mp h
      cases k' with
      | zero => omega
      | succ k' => exact Th.tup.mpr ⟨dws, rfl, fun q hq => ih (h1 q hq) (by omega) (Nat.le_refl _) hA hS, by omega⟩
    | ref n =>
      obtain ⟨hn, h⟩ := Th.ref.mp h
      cases k' with
      | zero => omega
      | succ k' =>
        refine Th.ref.mpr ⟨hA n hn, ?_⟩
        rcases h with ⟨dws, e, h1, h2⟩ | ⟨e, h2⟩ | ⟨e, h2⟩
        · exact .inl ⟨dws, hS n _ hn e, fun q hq => ih (h1 q hq) (by omega) (Nat.le_refl _) hA hS, by omega⟩
        · exact .inr (.inl ⟨hS n _ hn e, by omega⟩)
        · exact .inr (.inr ⟨hS n _ hn e, by omega⟩)
    | sta s => exact h.elim
theorem Th.list_py {k : Nat} {S : Store} {A : Nat → Prop} (ih : ∀ {d : D} {w : Nat}, Th k S A d w → ∃ q : PyData, (∀ j, toPy (j + k) S d = some q) ∧ q.showable = true ∧ q.shown.length ≤ w ∧ PyData.strOk q.shown = true) : ∀ dws : List (D × Nat), (∀ q ∈ dws, Th k S A q.1 q.2) → ∃ qs : List PyData, (∀ j, allSome ((dws.map (·.1)).map (toPy (j + k) S)) = some qs) ∧ PyData.showableAll qs = true ∧ piled (PyData.shownAll qs) ≤ (dws.map (·.2)).sum + 2 * dws.length ∧ ∀ t ∈ PyData.shownAll qs, PyData.strOk t = true
  | [], _ => ⟨[], fun _ => rfl, rfl, Nat.zero_le _, fun _ h => nomatch h⟩
  | (d, w) :: r, h => by
    obtain ⟨q, e, s, l, o⟩ := ih (h (d, w) (by simp))
    obtain ⟨qs, es, ss, ls, os⟩ := Th.list_py ih r fun q hq => h q (by simp [hq])
    refine ⟨q :: qs, fun j => ?_, by simp [PyData.showableAll, s, ss], ?_, ?_⟩
    · rw [List.map_cons, List.map_cons, e j]
      show (allSome _).map _ = _
      rw [es j]; rfl
    · show piled (q.shown :: PyData.shownAll qs) ≤ _
      rw [piled_cons, List.map_cons, List.sum_cons, List.length_cons]
      have l' : q.shown.length ≤ w := l
      show _ ≤ w + _ + _
      omega
    · intro t ht
      rcases List.mem_cons.mp (show t ∈ q.shown :: PyData.shownAll qs from ht) with rfl | ht
      · exact o
      · exact os t ht
theorem Th.py : ∀ {k : Nat} {S : Store} {A : Nat → Prop} {d : D} {w : Nat}, k ≤ 1000 → Th k S A d w → ∃ q : PyData, (∀ j, toPy (j + k) S d = some q) ∧ q.showable = true ∧ q.shown.length ≤ w ∧ PyData.strOk q.shown = true := by
  intro k
  have base : ∀ {k : Nat} {S : Store} {A : Nat → Prop} {d : D} {w : Nat}, k ≤ 1000 → Th k S A d w → (∀ ds, d ≠ .tup ds) → (∀ n, d ≠ .ref n) → ∃ q : PyData, (∀ j, toPy (j + k) S d = some q) ∧ q.showable = true ∧ q.shown.length ≤ w ∧ PyData.strOk q.shown = true := by
    intro k S A d w hk h nt nr
    cases d with
    | non =>
      have := Th.non.mp h
      exact ⟨.none, fun j => by cases (j + k) <;> rfl, rfl, Nat.le_trans (by decide : _ ≤ 8) this, ofStr_ok _⟩
    | bl b =>
      have := Th.bl.mp h
      exact ⟨.bool b, fun j => by cases (j + k) <;> rfl, rfl, Nat.le_trans (by cases b <;> decide : _ ≤ 8) this, by cases b <;> exact ofStr_ok _⟩
    | int i =>
      obtain ⟨h0, h1, h2⟩ := Th.int.mp h
      refine ⟨.int i, fun j => by cases (j + k) <;> rfl, ?_, Nat.le_trans (big_text hk h0 h1) h2, ofStr_ok _⟩
      exact decide_eq_true (Nat.lt_trans (big_log hk h0 h1) (by decide))
    | str x =>
      obtain ⟨h0, h1⟩ := Th.str.mp h
      exact ⟨.str x, fun j => by cases (j + k) <;> rfl, rfl, Nat.le_trans (reprText_le h0) h1, repr_ok h0⟩
    | tup ds => exact absurd rfl (nt ds)
    | ref n => exact absurd rfl (nr n)
    | sta s => cases k <;> exact h.elim
  induction k with
  | zero =>
    intro S A d w hk h
    refine base hk h ?_ ?_
    · rintro ds rfl; exact h.elim
    · rintro n rfl; exact h.elim
  | succ k ih =>
    intro S A d w hk h
    cases d with
    | tup ds =>
      obtain ⟨dws, rfl, h1, h2⟩ := Th.tup.mp h
      obtain ⟨qs, e, s, l, o⟩ := Th.list_py (fun h => ih (by omega) h) dws h1
      refine ⟨.tuple qs, fun j => ?_, s, ?_, tupleText_ok o⟩
      · show (allSome ((dws.map (·.1)).map (toPy (j + k) S))).map PyData.tuple = _
        rw [e j]; rfl
      · have := tupleText_le (PyData.shownAll qs)
        show (tupleText (PyData.shownAll qs)).length ≤ w
        omega
    | ref n =>
      obtain ⟨_, h⟩ := Th.ref.mp h
      rcases h with ⟨dws, e1, h1, h2⟩ | ⟨e1, h2⟩ | ⟨e1, h2⟩
      · obtain ⟨qs, e, s, l, o⟩ := Th.list_py (fun h => ih (by omega) h) dws h1
        refine ⟨.list qs, fun j => ?_, s, ?_, listText_ok o⟩
        · show toPy (j + k + 1) S (.ref n) = _
          simp only [toPy, e1, e j, Option.map_some]
        · have := listText_le (PyData.shownAll qs)
          show (listText (PyData.shownAll qs)).length ≤ w
          omega
      · refine ⟨.dict [], fun j => ?_, rfl, Nat.le_trans (by decide : _ ≤ 300) h2, by decide +kernel⟩
        show toPy (j + k + 1) S (.ref n) = _
        simp only [toPy, e1]; rfl
      · refine ⟨.dict [(.str (Str.ofString "a"), .int 0)], fun j => ?_, by decide +kernel, Nat.le_trans (by decide +kernel : _ ≤ 300) h2, by decide +kernel⟩
        show toPy (j + k + 1) S (.ref n) = _
        have : toPy (j + k) S (.int 0) = some (.int 0) := by cases (j + k) <;> rfl
        simp only [toPy, e1, List.map_cons, List.map_nil, this, allSome]; rfl
    | non => exact base hk h (fun _ h => by cases h) (fun _ h => by cases h)
    | bl b => exact base hk h (fun _ h => by cases h) (fun _ h => by cases h)
    | int i => exact base hk h (fun _ h => by cases h) (fun _ h => by cases h)
    | str x => exact base hk h (fun _ h => by cases h) (fun _ h => by cases h)
    | sta s => exact base hk h (fun _ h => by cases h) (fun _ h => by cases h)
/-- repr of a thing -/
theorem Th.repr {k : Nat} {S : Store} {A : Nat → Prop} {d : D} {w : Nat} (hk : k ≤ 50) (hw : w ≤ 16777216) (h : Th k S A d w) : ∃ z : Str, PyData.strOk z = true ∧ biD .repr [d] S = .ok (.str z) S := by
  obtain ⟨q, e, s, l, o⟩ := Th.py (by omega) h
  refine ⟨q.shown, o, ?_⟩
  have e' : Mi.py S d = some q := by
    have := e (50 - k)
    rwa [show 50 - k + k = 50 by omega] at this
  have hz : sizeOk q.shown.length = true := by rw [sizeOk_of]; exact decide_eq_true (by omega)
  simp only [biD, e', s, hz, and_self, if_true]
mutual
theorem lt_mono {n m : Nat} (h : n ≤ m) : ∀ {d : D}, d.lt n = true → d.lt m = true
  | .ref k, e => by
    have : k < n := of_decide_eq_true e
    exact decide_eq_true (by omega)
  | .tup ds, e => ltAll_mono h (ds := ds) e
  | .non, _ => rfl
  | .bl _, _ => rfl
  | .int _, _ => rfl
  | .str _, _ => rfl
  | .sta _, _ => rfl
theorem ltAll_mono {n m : Nat} (h : n ≤ m) : ∀ {ds : List D}, D.ltAll n ds = true → D.ltAll m ds = true
  | [], _ => rfl
  | d :: ds, e => by
    have e' : (d.lt n && D.ltAll n ds) = true := e
    rw [Bool.and_eq_true] at e'
    show (d.lt m && D.ltAll m ds) = true
    rw [lt_mono h e'.1, ltAll_mono h e'.2]; rfl
end
theorem cell_mono {n m : Nat} (h : n ≤ m) {c : Cell} (e : c.lt n = true) : c.lt m = true := by
  cases c with
  | lst ds => exact ltAll_mono h (ds := ds) e
  | frz ds => exact ltAll_mono h (ds := ds) e
  | dK kvs => exact ltAll_mono h (ds := kvs.map Prod.snd) e
  | dT kvs => exact ltAll_mono h (ds := kvs.map Prod.snd) e
  | ins _ fs => exact ltAll_mono h (ds := fs.map Prod.snd) e
  | exc y => rfl
  | exv y f d => exact lt_mono h (d := d) e
theorem ltAll_iff {n : Nat} : ∀ {ds : List D}, D.ltAll n ds = true ↔ ∀ d ∈ ds, d.lt n = true
  | [] => ⟨fun _ _ h => (by cases h), fun _ => rfl⟩
  | d :: ds => by
    show (d.lt n && D.ltAll n ds) = true ↔ _
    rw [Bool.and_eq_true, ltAll_iff, List.forall_mem_cons]
def Wf (S : Store) : Prop := ∀ (n : Nat) (c : Cell), S[n]? = some c → c.lt S.length = true
theorem Wf.app {S : Store} {X : List Cell} (h : Wf S) (hx : ∀ c ∈ X, c.lt (S.length + X.length) = true) : Wf (S ++ X) := by
  intro n c e
  rw [List.length_append]
  rcases Nat.lt_or_ge n S.length with hn | hn
  · rw [List.getElem?_append_left hn] at e
    exact cell_mono (by omega) (h n c e)
  · rw [List.getElem?_append_right hn] at e
    exact hx c (List.mem_of_getElem? e)
theorem Wf.set {S : Store} {n : Nat} {x : Cell} (h : Wf S) (hx : x.lt S.length = true) : Wf (S.set n x) := by
  intro m c e
  rw [List.length_set]
  by_cases hm : n = m
  · subst hm
    by_cases hn : n < S.length
    · rw [List.getElem?_set_self hn] at e
      cases e; exact hx
    · rw [List.getElem?_eq_none (by simp; omega)] at e; cases e
  · rw [List.getElem?_set_ne hm] at e
    exact h m c e
theorem Wf.pen {S : Store} {p c : Nat} {cs : List Int} {t r : Int} (h : Wf S) (hp : Pen p c cs t r S) (t' r' : Int) : Wf (setPen S p c t' r') :=
  Wf.set h (by
    have := hp.clt
    simp [penC, Cell.lt, D.ltAll, D.lt, this])
/-- a thing that names none of the last cells -/
theorem Th.cut {B X : Store} (wf : Wf B) : ∀ {k : Nat} {A : Nat → Prop} {d : D} {w : Nat}, Th k (B ++ X) A d w → d.lt B.length = true → Th k B A d w := by
  intro k
  induction k with
  | zero =>
    intro A d w h hl
    cases d with
    | tup ds => exact h.elim
    | ref n => exact h.elim
    | _ => exact h
  | succ k ih =>
    intro A d w h hl
    cases d with
    | tup ds =>
      obtain ⟨dws, rfl, h1, h2⟩ := Th.tup.mp h
      exact Th.tup.mpr ⟨dws, rfl, fun q hq => ih (h1 q hq) (ltAll_iff.mp hl _ (List.mem_map_of_mem hq)), h2⟩
    | ref n =>
      obtain ⟨hn, h⟩ := Th.ref.mp h
      have hl' : n < B.length := of_decide_eq_true hl
      rw [List.getElem?_append_left hl'] at h
      refine Th.ref.mpr ⟨hn, ?_⟩
      rcases h with ⟨dws, e, h1, h2⟩ | h | h
      · have := wf n _ e
        exact .inl ⟨dws, e, fun q hq => ih (h1 q hq) (ltAll_iff.mp this _ (List.mem_map_of_mem hq)), h2⟩
      · exact .inr (.inl h)
      · exact .inr (.inr h)
    | _ => exact h
/-- the weight of data without references -/
def chk : Nat → D → Option Nat
  | _, .non => some 8
  | _, .bl _ => some 8
  | _, .int i => if -(10 ^ 60) ≤ i ∧ i ≤ 10 ^ 60 then some 250 else none
  | _, .str x => if PyData.strOk x = true then some (12 * x.length + 12) else none
  | k + 1, .tup ds => (allSome (ds.map (chk k))).map fun ws => ws.sum + 2 * ds.length + 6
  | _, _ => none
theorem chk_list {k : Nat} {S : Store} {A : Nat → Prop} (ih : ∀ {d : D} {w : Nat}, chk k d = some w → Th k S A d w) : ∀ (ds : List D) (ws : List Nat), allSome (ds.map (chk k)) = some ws → ∃ dws : List (D × Nat), ds = dws.map (·.1) ∧ ws = dws.map (·.2) ∧ ∀ q ∈ dws, Th k S A q.1 q.2
  | [], ws, h => ⟨[], rfl, by cases h; rfl, by simp⟩
  | d :: ds, ws, h => by
    rw [List.map_cons] at h
    cases e : chk k d with
    | none => rw [e] at h; cases h
    | some w =>
      rw [e] at h
      cases e2 : allSome (ds.map (chk k)) with
      | none => simp only [allSome, e2] at h; cases h
      | some r =>
        simp only [allSome, e2] at h
        cases h
        obtain ⟨dws, rfl, rfl, h3⟩ := chk_list ih ds r e2
        refine ⟨(d, w) :: dws, rfl, rfl, fun q hq => ?_⟩
        rcases List.mem_cons.mp hq with rfl | hq
        · exact ih e
        · exact h3 q hq
theorem chk_th {S : Store} {A : Nat → Prop} : ∀ {k : Nat} {d : D} {w : Nat}, chk k d = some w → Th k S A d w := by
  have base : ∀ {k : Nat} {d : D} {w : Nat}, chk k d = some w → (∀ ds, d ≠ .tup ds) → Th k S A d w := by
    intro k d w h nt
    cases d with
    | non =>
      have : some 8 = some w := by cases k <;> exact h
      exact Th.non.mpr (by cases this; exact Nat.le_refl _)
    | bl b =>
      have : some 8 = some w := by cases k <;> exact h
      exact Th.bl.mpr (by cases this; exact Nat.le_refl _)
    | int i =>
      have h' : (if -(10 ^ 60) ≤ i ∧ i ≤ 10 ^ 60 then some 250 else none) = some w := by cases k <;> exact h
      by_cases hi : -(10 ^ 60) ≤ i ∧ i ≤ 10 ^ 60
      · rw [if_pos hi] at h'
        have : 250 = w := Option.some.inj h'
        exact Th.int.mpr ⟨by omega, by omega, by omega⟩
      · rw [if_neg hi] at h'; cases h'
    | str x =>
      have h' : (if PyData.strOk x = true then some (12 * x.length + 12) else none) = some w := by cases k <;> exact h
      by_cases hi : PyData.strOk x = true
      · rw [if_pos hi] at h'
        exact Th.str.mpr ⟨hi, by have := Option.some.inj h'; omega⟩
      · rw [if_neg hi] at h'; cases h'
    | tup ds => exact absurd rfl (nt ds)
    | ref n => cases k <;> cases h
    | sta s => cases k <;> cases h
  intro k
  induction k with
  | zero =>
    intro d w h
    cases d with
    | tup ds => cases h
    | non => exact base h fun _ h => by cases h
    | bl b => exact base h fun _ h => by cases h
    | int i => exact base h fun _ h => by cases h
    | str x => exact base h fun _ h => by cases h
    | ref n => exact base h fun _ h => by cases h
    | sta s => exact base h fun _ h => by cases h
  | succ k ih =>
    intro d w h
    cases d with
    | tup ds =>
      have h' : (allSome (ds.map (chk k))).map (fun ws => ws.sum + 2 * ds.length + 6) = some w := h
      cases e : allSome (ds.map (chk k)) with
      | none => rw [e] at h'; cases h'
      | some ws =>
        rw [e] at h'
        obtain ⟨dws, rfl, rfl, h3⟩ := chk_list (fun h => ih h) ds ws e
        refine Th.tup.mpr ⟨dws, rfl, h3, ?_⟩
        have h5 : (dws.map Prod.snd).sum + 2 * (dws.map Prod.fst).length + 6 = w := Option.some.inj h'
        rw [List.length_map] at h5
        show (dws.map Prod.snd).sum + 2 * dws.length + 6 ≤ w
        omega
    | non => exact base h fun _ h => by cases h
    | bl b => exact base h fun _ h => by cases h
    | int i => exact base h fun _ h => by cases h
    | str x => exact base h fun _ h => by cases h
    | ref n => exact base h fun _ h => by cases h
    | sta s => exact base h fun _ h => by cases h
theorem chk_le {S : Store} {A : Nat → Prop} {k : Nat} {d : D} {w : Nat} (h : ((chk k d).any fun v => decide (v ≤ w)) = true) : Th k S A d w := by
  cases e : chk k d with
  | none => rw [e] at h; cases h
  | some v =>
    rw [e] at h
    exact (chk_th e).mono (Nat.le_refl _) (of_decide_eq_true h) (fun _ h => h) fun _ _ _ h => h
/-- what is left of a thing behind a call -/
theorem gc_thing {p c : Nat} {cs : List Int} {t r : Int} {S : Store} (hp : Pen p c cs t r S) (wf : Wf S) (t' r' : Int) (X : List Cell) (wf' : Wf (setPen S p c t' r' ++ X)) (d : D) : ∃ (d' : D) (X' : List Cell), Mi.gc S d (setPen S p c t' r' ++ X) = .ok d' (setPen S p c t' r' ++ X') ∧ Wf (setPen S p c t' r' ++ X') ∧ ∀ (k : Nat) (A : Nat → Prop) (w : Nat), Th k (setPen S p c t' r' ++ X) (fun n => A n ∨ S.length ≤ n) d w → Th k (setPen S p c t' r' ++ X') (fun n => A n ∨ S.length ≤ n) d' w := by
  have wp : Wf (setPen S p c t' r') := wf.pen hp t' r'
  by_cases h1 : d.lt S.length = true
  · refine ⟨d, [], ?_, by rw [List.append_nil]; exact wp, fun k A w h => ?_⟩
    · rw [List.append_nil]; exact hp.gc h1 t' r'
    · rw [List.append_nil]
      exact Th.cut wp h (by rw [setPen_len]; exact h1)
  · by_cases h2 : ∃ m x, d = .ref m ∧ (setPen S p c t' r' ++ X)[m]? = some x ∧ S.length ≤ m ∧ x.lt S.length = true
    · obtain ⟨m, x, rfl, e, hm, hx⟩ := h2
      refine ⟨.ref S.length, [x], gc_new (by simp) (hp.keep t' r') hm e hx, Wf.app wp ?_, fun k A w h => ?_⟩
      · intro y hy
        have : y = x := by simpa using hy
        rw [this, setPen_len]
        exact cell_mono (by omega) hx
      · cases k with
        | zero => exact h.elim
        | succ k =>
          obtain ⟨hn, h⟩ := Th.ref.mp h
          rw [e] at h
          have eS : (setPen S p c t' r' ++ [x])[S.length]? = some x := by
            rw [List.getElem?_append_right (by simp)]; simp
          refine Th.ref.mpr ⟨.inr (Nat.le_refl _), ?_⟩
          rw [eS]
          rcases h with ⟨dws, e1, h1, h2⟩ | h | h
          · have : x = .lst (dws.map (·.1)) := Option.some.inj e1
            refine .inl ⟨dws, e1, fun q hq => ?_, h2⟩
            have hl : q.1.lt S.length = true := by
              rw [this] at hx
              exact ltAll_iff.mp hx _ (List.mem_map_of_mem hq)
            have h3 := Th.cut wp (h1 q hq) (by rw [setPen_len]; exact hl)
            exact h3.mono (Nat.le_refl _) (Nat.le_refl _) (fun _ h => h) fun n y _ e => by rw [List.getElem?_append_left (List.getElem?_eq_some_iff.mp e).1]; exact e
          · exact .inr (.inl h)
          · exact .inr (.inr h)
    · refine ⟨d, X, ?_, wf', fun _ _ _ h => h⟩
      unfold Mi.gc
      rw [if_neg (fun h => h1 h.1)]
      cases d with
      | ref m =>
        cases e : (setPen S p c t' r' ++ X)[m]? with
        | none => simp only [e]
        | some x =>
          simp only [e]
          rw [if_neg (fun h => h2 ⟨m, x, rfl, e, h.1, h.2.1⟩)]
      | _ => rfl
end Mi
namespace Mi
open PySem L2
theorem shifted_lt : ∀ (l : List (Nat × Nat × Nat)) (c d : Nat), (l.all fun q => decide (q.2.2 + (q.2.1 - q.1) < 0x110000)) = true → Unicode.shifted l c = some d → d < 0x110000
  | [], _, _, _, h => by cases h
  | (a, b, t) :: r, c, d, hl, h => by
    rw [List.all_cons, Bool.and_eq_true] at hl
    have h1 : t + (b - a) < 0x110000 := of_decide_eq_true hl.1
    simp only [Unicode.shifted] at h
    split at h
    · cases h
    · split at h
      · cases h; omega
      · exact shifted_lt r c d hl.2 h
theorem upperOf_lt {c d : Nat} (hc : c < 0x110000) (h : d ∈ Unicode.upperOf c) : d < 0x110000 := by
  unfold Unicode.upperOf Unicode.image at h
  split at h
  · rename_i cs hl
    have := StrLaws.lookup_all (p := fun l => l.all fun x => decide (x < 0x110000)) UnicodeData.severalUpper c cs (by decide +kernel) hl
    exact of_decide_eq_true (List.all_eq_true.mp this d h)
  · have : d = (Unicode.shifted UnicodeData.oneUpper c).getD c := by simpa using h
    subst this
    cases e : Unicode.shifted UnicodeData.oneUpper c with
    | none => exact hc
    | some x => exact shifted_lt _ c x (by decide +kernel) e
theorem upper_ok {x : Str} (h : PyData.strOk x = true) : PyData.strOk (Txt.upper x) = true := by
  rw [strOk_iff] at h ⊢
  intro d hd
  have hd' : d ∈ (Txt.upper x).cps := Array.mem_toList_iff.mp hd
  have : (Txt.upper x).cps = (x.cps.mapIdx fun i c => (Unicode.upperOf c).toArray).flatten := rfl
  rw [this] at hd'
  obtain ⟨xs, hx, hdx⟩ := Array.mem_flatten.mp hd'
  obtain ⟨i, hi, rfl⟩ := Array.mem_mapIdx.mp hx
  exact upperOf_lt (h _ (Array.mem_toList_iff.mpr (Array.getElem_mem hi))) (by simpa using hdx)
/-- whose type is known -/
def Typ (S : Store) (d : D) : Prop := match d with
  | .ref n => (∃ ds, S[n]? = some (.lst ds)) ∨ ∃ kvs, S[n]? = some (.dK kvs)
  | .sta _ => False
  | _ => True
theorem Th.typ {k : Nat} {S : Store} {A : Nat → Prop} {d : D} {w : Nat} (h : Th k S A d w) : Typ S d := by
  cases k with
  | zero =>
    cases d with
    | tup ds => exact h.elim
    | ref n => exact h.elim
    | sta s => exact h.elim
    | _ => exact trivial
  | succ k =>
    cases d with
    | ref n =>
      obtain ⟨_, h⟩ := Th.ref.mp h
      rcases h with ⟨dws, e, _⟩ | ⟨e, _⟩ | ⟨e, _⟩
      · exact .inl ⟨_, e⟩
      · exact .inr ⟨_, e⟩
      · exact .inr ⟨_, e⟩
    | sta s => exact h.elim
    | _ => exact trivial
theorem Th.lt {k : Nat} {S : Store} {A : Nat → Prop} : ∀ {d : D} {w : Nat}, Th k S A d w → d.lt S.length = true := by
  induction k with
  | zero =>
    intro d w h
    cases d with
    | tup ds => exact h.elim
    | ref n => exact h.elim
    | sta s => exact h.elim
    | _ => rfl
  | succ k ih =>
    intro d w h
    cases d with
    | tup ds =>
      obtain ⟨dws, rfl, h1, h2⟩ := Th.tup.mp h
      exact ltAll_iff.mpr fun d hd => by
        obtain ⟨q, hq, rfl⟩ := List.mem_map.mp hd
        exact ih (h1 q hq)
    | ref n =>
      obtain ⟨_, h⟩ := Th.ref.mp h
      refine decide_eq_true ?_
      rcases h with ⟨dws, e, _⟩ | ⟨e, _⟩ | ⟨e, _⟩ <;> exact (List.getElem?_eq_some_iff.mp e).1
    | sta s => exact h.elim
    | _ => rfl
def isIntB : D → Bool
  | .int _ => true
  | .bl _ => true
  | _ => false
def isBlB : D → Bool
  | .bl _ => true
  | _ => false
def isStrB : D → Bool
  | .str _ => true
  | _ => false
def isTupB : D → Bool
  | .tup _ => true
  | _ => false
section
variable {S : Store} {d : D}
theorem isi_int (h : Typ S d) : biD .isi [d, .sta (.ty "int")] S = .ok (.bl (isIntB d)) S := by
  cases d with
  | ref n => rcases h with ⟨ds, e⟩ | ⟨kvs, e⟩ <;> simp [biD, isiD, tyOf, e, subTy, isIntB]
  | sta v => exact h.elim
  | _ => rfl
theorem isi_bool (h : Typ S d) : biD .isi [d, .sta (.ty "bool")] S = .ok (.bl (isBlB d)) S := by
  cases d with
  | ref n => rcases h with ⟨ds, e⟩ | ⟨kvs, e⟩ <;> simp [biD, isiD, tyOf, e, subTy, isBlB]
  | sta v => exact h.elim
  | _ => rfl
theorem isi_str (h : Typ S d) : biD .isi [d, .sta (.ty "str")] S = .ok (.bl (isStrB d)) S := by
  cases d with
  | ref n => rcases h with ⟨ds, e⟩ | ⟨kvs, e⟩ <;> simp [biD, isiD, tyOf, e, subTy, isStrB]
  | sta v => exact h.elim
  | _ => rfl
theorem isi_tup (h : Typ S d) : biD .isi [d, .sta (.ty "tuple")] S = .ok (.bl (isTupB d)) S := by
  cases d with
  | ref n => rcases h with ⟨ds, e⟩ | ⟨kvs, e⟩ <;> simp [biD, isiD, tyOf, e, subTy, isTupB]
  | sta v => exact h.elim
  | _ => rfl
theorem isi_seqT {ds : List D} : biD .isi [.tup ds, .tup [.sta (.ty "tuple"), .sta (.ty "list")]] S = .ok (.bl true) S := rfl
theorem isi_seqL {n : Nat} {ds : List D} (e : S[n]? = some (.lst ds)) : biD .isi [.ref n, .tup [.sta (.ty "tuple"), .sta (.ty "list")]] S = .ok (.bl true) S := by
  simp [biD, isiD, tyOf, e, subTy]
theorem isi_seqD {n : Nat} {ds : List (Key × D)} (e : S[n]? = some (.dK ds)) : biD .isi [.ref n, .tup [.sta (.ty "tuple"), .sta (.ty "list")]] S = .ok (.bl false) S := by
  simp [biD, isiD, tyOf, e, subTy]
theorem isi_seqI {i : Int} : biD .isi [.int i, .tup [.sta (.ty "tuple"), .sta (.ty "list")]] S = .ok (.bl false) S := rfl
theorem isi_seqB {b : Bool} : biD .isi [.bl b, .tup [.sta (.ty "tuple"), .sta (.ty "list")]] S = .ok (.bl false) S := rfl
theorem isi_seqS {x : Str} : biD .isi [.str x, .tup [.sta (.ty "tuple"), .sta (.ty "list")]] S = .ok (.bl false) S := rfl
theorem isi_seqN : biD .isi [.non, .tup [.sta (.ty "tuple"), .sta (.ty "list")]] S = .ok (.bl false) S := rfl
end
def BR (S : Store) (p c : Nat) (t cost : Int) (j : Nat) (A : Nat → Prop) (w : Nat) (r : R D) : Prop :=
  ∃ (d : D) (t' r' : Int) (X : List Cell), r = .ok d (setPen S p c t' r' ++ X) ∧ Wf (setPen S p c t' r' ++ X) ∧ Th j (setPen S p c t' r' ++ X) (fun n => A n ∨ S.length ≤ n) d w ∧ t ≤ t' ∧ t' ≤ t + cost
theorem BR.gc {S : Store} {p c : Nat} {cs : List Int} {t0 r0 t cost : Int} {j : Nat} {A : Nat → Prop} {w : Nat} {r : R D} (h : BR S p c t cost j A w r) (hp : Pen p c cs t0 r0 S) (wf : Wf S) : BR S p c t cost j A w (r.gc S) := by
  obtain ⟨d, t', r', X, rfl, wf', th, a, b⟩ := h
  obtain ⟨d', X', e, wf2, th2⟩ := gc_thing hp wf t' r' X wf' d
  exact ⟨d', t', r', X', by rw [R.gc_ok, e], wf2, th2 j A w th, a, b⟩
theorem BR.mono {S : Store} {p c : Nat} {t cost t2 cost2 : Int} {j j2 : Nat} {A A2 : Nat → Prop} {w w2 : Nat} {r : R D} (h : BR S p c t cost j A w r) (ht : t2 ≤ t) (hc : t + cost ≤ t2 + cost2) (hj : j ≤ j2) (hA : ∀ n, A n → A2 n) (hw : w ≤ w2) : BR S p c t2 cost2 j2 A2 w2 r := by
  obtain ⟨d, t', r', X, e, wf', th, a, b⟩ := h
  exact ⟨d, t', r', X, e, wf', th.mono hj hw (fun n h => h.imp (hA n) id) fun _ _ _ h => h, by omega, by omega⟩
theorem BR.pen {S : Store} {p c : Nat} {t cost t1 r1 : Int} {j : Nat} {A : Nat → Prop} {w : Nat} {r : R D} (h : BR (setPen S p c t1 r1) p c t cost j A w r) : BR S p c t cost j A w r := by
  obtain ⟨d, t', r', X, e, wf', th, a, b⟩ := h
  rw [setPen_set] at e wf' th
  rw [setPen_len] at th
  exact ⟨d, t', r', X, e, wf', th, a, b⟩
end Mi
namespace Mi
open PySem PySem.Spec PyProof.Rows L2
section
variable {K : PySem.W.Frag} {mg : Str → Option Value} {h : Heap}
theorem xc_mk {x : Str} {C : Addr} (X : K.In h) (G : h.Ns mainGlobals mg) (db : (x == ("__debug__" : Str)) = false) (a : PySem.W.nsIn K mainGlobals x = some (some (.ref C))) (k : PySem.W.keepIn K (.ref C) = true)
    (q : PySem.W.excIn K C [.type "ValueError", .type "Exception", .type "BaseException", .type "object"] "ValueError.__new__" = true) (s : PySem.W.subIn K (.ref C) (.type "BaseException") = some true) (t : PySem.W.typeIn K (.ref C) = some (.type "type"))
    (f1 : PySem.W.findIn K (.ref C) "__getattribute__" = some (some (.builtin "BaseException.__getattribute__"))) (f2 : PySem.W.findIn K (.ref C) "__getattr__" = some none) (f3 : PySem.W.hasDictIn K C = true) (f4 : PySem.W.findIn K (.ref C) "__class__" = some (some (.builtin "object.__class__")))
    (f5 : PySem.W.specialIn K (.builtin "object.__class__") "__get__" = some (some (.builtin "getset_descriptor.__get__"))) (f6 : PySem.W.takesIn K (.builtin "object.__class__") = some true) (f7 : PySem.W.mroIn K C (.type "object") = some true) : XcK K mg x :=
  ⟨C, _, _, _, _, PySem.W.mg_of X G a, a, k, PySem.F.excBase_ValueError, q, s, t, ⟨f1, f2, s, f3, f4, f5, f6, f7⟩, db⟩
theorem own_mk {y : Str} {C : Addr} (X : K.In h) (G : h.Ns mainGlobals mg) (db : (y == ("__debug__" : Str)) = false) (a : PySem.W.nsIn K mainGlobals y = some (some (.ref C))) : ClsK2 mg y (.ref C) := ⟨db, .inl ⟨PySem.W.mg_of X G a, C, rfl⟩⟩
theorem bex_mk {y : Str} {t : String} (X : K.In h) (G : h.Ns mainGlobals mg) (db : (y == ("__debug__" : Str)) = false) (n : y ≠ "__name__") (b : bootBuiltins y = some (.type t)) (z : PySem.W.nsIn K mainGlobals y = some none) : ClsK2 mg y (.type t) := ⟨db, .inr ⟨PySem.W.mg_none_of X G z, b, n, t, rfl⟩⟩
theorem isx_mk {xs ys yes : List Str} {us : List Value} (l : us.length ≤ 1000) (p : Paired (ClsK2 mg) ys us) (k : ∀ x ∈ xs, ∃ C, PySem.W.nsIn K mainGlobals x = some (some (.ref C)) ∧ PySem.W.kitAny K (.ref C) us = some (yes.contains x)) : IsxK K mg xs ys yes := ⟨us, l, p, fun x hx C hC => by
  obtain ⟨C2, h2, e⟩ := k x hx
  have : C = C2 := by
    have := (show PySem.W.nsIn K mainGlobals x = some (some (.ref C)) from hC).symm.trans h2
    cases this; rfl
  rw [this]; exact e⟩
theorem cat_mk {xs : List Str} {c : Str} {D : Addr} (c2 : ClsK2 mg c (.ref D)) (k : ∀ x ∈ xs, ∃ C, PySem.W.nsIn K mainGlobals x = some (some (.ref C)) ∧ PySem.W.exmOne K (.ref C) (.ref D) = some true) : CatK K mg xs c := ⟨.ref D, c2, fun x hx C hC => by
  obtain ⟨C2, h2, e⟩ := k x hx
  have : C = C2 := by
    have := (show PySem.W.nsIn K mainGlobals x = some (some (.ref C)) from hC).symm.trans h2
    cases this; rfl
  rw [this]; exact e⟩
theorem xk_mk {x : Str} {P : Addr → Prop} {C : Addr} (a : PySem.W.nsIn K mainGlobals x = some (some (.ref C))) (b : P C) : ∃ C, PySem.W.nsIn K mainGlobals x = some (some (.ref C)) ∧ P C := ⟨C, a, b⟩
theorem xs_nil {P : Str → Prop} : ∀ x ∈ ([] : List Str), P x := fun _ h => by cases h
theorem xs_cons {P : Str → Prop} {y : Str} {l : List Str} (h : P y) (t : ∀ x ∈ l, P x) : ∀ x ∈ y :: l, P x := fun x hx => by
  rcases List.mem_cons.mp hx with rfl | hx
  · exact h
  · exact t x hx
theorem mem_look {α β : Type} [BEq α] [LawfulBEq α] {a : α} {b : β} : ∀ {l : List (α × β)}, l.lookup a = some b → (a, b) ∈ l
  | (x, y) :: l, h => by
    rw [List.lookup_cons] at h
    cases e : a == x with
    | true =>
      rw [e] at h
      cases h
      have : a = x := by simpa using e
      simp [this]
    | false =>
      rw [e] at h
      simp [mem_look h]
theorem ix_of {asked : List (List Str × List Str)} {xs : List Str} (h : ∀ p ∈ asked, IsxK K mg xs p.1 p.2) : ∀ ys yes, asked.lookup ys = some yes → IsxK K mg xs ys yes := fun ys yes e => h (ys, yes) (mem_look e)
/-- one class asked -/
theorem kit_no {t c : Value} {cs : List Value} {b : Bool} (h : PySem.W.kitOne K t c = some false) (r : PySem.W.kitAny K t cs = some b) : PySem.W.kitAny K t (c :: cs) = some b := by
  unfold PySem.W.kitAny; rw [h]; exact r
theorem kit_yes {t c : Value} {cs : List Value} (h : PySem.W.kitOne K t c = some true) : PySem.W.kitAny K t (c :: cs) = some true := by
  unfold PySem.W.kitAny; rw [h]
theorem kit_end {t : Value} : PySem.W.kitAny K t [] = some false := rfl
theorem kit_own {t : Value} {C2 : Addr} {b : Bool} (ne : (t == .ref C2) = false) (hd : PySem.W.hasDictIn K C2 = true) (ht : PySem.W.typeIn K (.ref C2) = some (.type "type")) (h4 : PySem.W.subIn K t (.ref C2) = some b) : PySem.W.kitOne K t (.ref C2) = some b := by
  obtain ⟨cd, hc, _⟩ := PySem.W.any_some hd
  unfold PySem.W.kitOne
  rw [if_neg (by rw [ne]; exact Bool.false_ne_true)]
  have e2 : ((PySem.W.clsIn K C2).isSome && PySem.W.typeIn K (.ref C2) == some (.type "type")) = true := by rw [hc, ht] <;> rfl
  show (if ((PySem.W.clsIn K C2).isSome && PySem.W.typeIn K (.ref C2) == some (.type "type")) = true then PySem.W.subIn K t (.ref C2) else none) = some b
  rw [if_pos e2]; exact h4
theorem kit_ty {t : Value} {T : String} {b : Bool} (ne : (t == .type T) = false) (m : PySem.W.kitMeta T = true) (h4 : PySem.W.subIn K t (.type T) = some b) : PySem.W.kitOne K t (.type T) = some b := by
  unfold PySem.W.kitOne
  rw [if_neg (by rw [ne]; exact Bool.false_ne_true)]
  show (if PySem.W.kitMeta T = true then PySem.W.subIn K t (.type T) else none) = some b
  rw [if_pos m]; exact h4
theorem kit_self {t : Value} : PySem.W.kitOne K t t = some true := by
  unfold PySem.W.kitOne
  rw [if_pos (beq_self_eq_true t)]
/-- a class of any base -/
theorem xc_mk2 {x : Str} {C : Addr} {bmB : List Value} {B n1 n2 : String} (X : K.In h) (G : h.Ns mainGlobals mg) (F : ExcBaseFacts B n1 n2 bmB) (db : (x == ("__debug__" : Str)) = false) (a : PySem.W.nsIn K mainGlobals x = some (some (.ref C))) (k : PySem.W.keepIn K (.ref C) = true)
    (q : PySem.W.excIn K C bmB n1 = true) (s : PySem.W.subIn K (.ref C) (.type "BaseException") = some true) (t : PySem.W.typeIn K (.ref C) = some (.type "type"))
    (f1 : PySem.W.findIn K (.ref C) "__getattribute__" = some (some (.builtin "BaseException.__getattribute__"))) (f2 : PySem.W.findIn K (.ref C) "__getattr__" = some none) (f3 : PySem.W.hasDictIn K C = true) (f4 : PySem.W.findIn K (.ref C) "__class__" = some (some (.builtin "object.__class__")))
    (f5 : PySem.W.specialIn K (.builtin "object.__class__") "__get__" = some (some (.builtin "getset_descriptor.__get__"))) (f6 : PySem.W.takesIn K (.builtin "object.__class__") = some true) (f7 : PySem.W.mroIn K C (.type "object") = some true) : XcK K mg x :=
  ⟨C, _, _, _, _, PySem.W.mg_of X G a, a, k, F, q, s, t, ⟨f1, f2, s, f3, f4, f5, f6, f7⟩, db⟩
def clsBody : Stmt → List Stmt
  | .ClassDef _ _ _ b _ _ _ _ _ _ _ => b
  | _ => []
/-- a class whose __init__ keeps one field -/
theorem fx_mk {x f pS pV qual : Str} {C D fI : Addr} {st : Stmt} {nm2 q2 : Str} {N2 : Addr} {bs bm : List Value} {sn : List Str} {sub : List Value} {ab col} {dd k0 k1 k2 k3 k5} {oc : Value} {od an : Option Addr} {osl : Array (Option Value)} {kV doc pm cdv c2 : Value} {ar : List Arg} {kd : List (Option Expr)} {df : List Expr} {p1 p2 p3 p4 p5 p6 p7 p8 p9 p10 : Pos}
    (X : K.In h) (G : h.Ns mainGlobals mg) (db : (x == ("__debug__" : Str)) = false) (a : PySem.W.nsIn K mainGlobals x = some (some (.ref C))) (k : PySem.W.keepIn K (.ref C) = true)
    (lc : K.lookup C = some (excClassObj nm2 q2 C N2 bs bm true sn sub ab col dd k0 k1 k2 k3 k5 "ValueError.__new__")) (r : PySem.HandSPX.refsVE bm = true) (sa : PySem.W.findIn K (.ref C) "__setattr__" = some (some (.builtin "object.__setattr__")))
    (s : PySem.W.subIn K (.ref C) (.type "BaseException") = some true) (t : PySem.W.typeIn K (.ref C) = some (.type "type")) (no : PySem.W.findIn K (.ref C) f = some none)
    (f1 : PySem.W.findIn K (.ref C) "__getattribute__" = some (some (.builtin "BaseException.__getattribute__"))) (f2 : PySem.W.findIn K (.ref C) "__getattr__" = some none) (f3 : PySem.W.hasDictIn K C = true) (f4 : PySem.W.findIn K (.ref C) "__class__" = some (some (.builtin "object.__class__")))
    (f5 : PySem.W.specialIn K (.builtin "object.__class__") "__get__" = some (some (.builtin "getset_descriptor.__get__"))) (f6 : PySem.W.takesIn K (.builtin "object.__class__") = some true) (f7 : PySem.W.mroIn K C (.type "object") = some true)
    (i : PySem.W.findIn K (.ref C) "__init__" = some (some (.ref fI))) (ti : PySem.W.typeIn K (.ref fI) = some (.type "function"))
    (hb : defBody st = [.Expr (.Call (.Attribute (.Name "DialError" p1) "__init__" p2) [.Name pS p3, .Name pV p4] [] p5) p6, .Assign [.Attribute (.Name pS p7) f p8] (.Name pV p9) p10]) (ha : defArgs st = ⟨[], ar, none, [], kd, none, df⟩) (har : ar.map (·.arg) = [pS, pV])
    (hs : C8.scC [pS, pV] [pS, pV] (defScope st) = true) (hl : ((defScope st).names.lookup pS == some .local && (defScope st).names.lookup pV == some .local && (defScope st).names.lookup ("DialError" : Str) == some .globalImplicit && p2.endLine == p5.line) = true)
    (hn : (!(pS == ("__debug__" : Str)) && !(pS == ("__classdict__" : Str)) && !(pV == ("__debug__" : Str)) && !(pV == ("__classdict__" : Str))) = true)
    (l : K.lookup fI = some ⟨oc, od, .func (PySem.W.fnOf "__init__" qual (defArgs st) (defBody st) (defScope st) .none kV doc pm an cdv c2), osl⟩) (c : PySem.W.codeIn K cdv qual = true)
    (d : PySem.W.nsIn K mainGlobals ("DialError" : Str) = some (some (.ref D))) (d1 : PySem.W.readsIn K D (.type "type") = true) (d2 : PySem.W.findCls K (.ref D) (.type "type") "__init__" = some (.val (.builtin "ValueError.__init__"))) (d3 : PySem.W.specialIn K (.ref D) "__getattribute__" = some (some (.builtin "type.__getattribute__"))) : FxK K mg x f := by
  simp only [Bool.and_eq_true, beq_iff_eq, Bool.not_eq_true'] at hl hn
  obtain ⟨⟨⟨l1, l2⟩, l3⟩, l4⟩ := hl
  obtain ⟨⟨⟨n1, n2⟩, n3⟩, n4⟩ := hn
  have S := C8.fnScope_by hs
  rw [hb] at l
  refine ⟨C, fI, _, pS, pV, PySem.W.mg_of X G a, a, ⟨⟨⟨_, _, _, _, _, _, _, _, _, _, _, _, _, _, _, lc, r⟩, sa, s, t, k⟩, no, ⟨f1, f2, s, f3, f4, f5, f6, f7⟩⟩, i, ti, fun P w base => init_fn l c S l1 l2 n1 n2 n3 n4 l3 (PySem.W.mg_of X G d) d1 d2 d3 (by simpa using l4), ?_, db⟩
  refine Binds.all fun us hl => ?_
  have := bind_plain (fd := PySem.W.fnOf "__init__" qual (defArgs st) [.Expr (.Call (.Attribute (.Name "DialError" p1) "__init__" p2) [.Name pS p3, .Name pV p4] [] p5) p6, .Assign [.Attribute (.Name pS p7) f p8] (.Name pV p9) p10] (defScope st) .none kV doc pm an cdv c2) (args := ar) ha rfl (by rw [har]; exact hl) (by rw [har]; have := S.nd; exact this)
  rw [har] at this
  exact this
/-- all classes held, one question -/
def kitB (K : PySem.W.Frag) (held yes : List Str) (us : List Value) : Bool := held.all fun x => match PySem.W.nsIn K mainGlobals x with
  | some (some (.ref C)) => PySem.W.kitAny K (.ref C) us == some (yes.contains x)
  | _ => false
theorem isx_mkB {xs ys yes : List Str} {us : List Value} (l : us.length ≤ 1000) (p : Paired (ClsK2 mg) ys us) (k : kitB K xs yes us = true) : IsxK K mg xs ys yes := ⟨us, l, p, fun x hx C hC => by
  have := List.all_eq_true.mp k x hx
  rw [show PySem.W.nsIn K mainGlobals x = some (some (.ref C)) from hC] at this
  exact beq_iff_eq.mp this⟩
end
end Mi
namespace K56
open PySem L2 Mi
def top (i : Nat) : Stmt := PySem.Challenge.pw_pawldials_k56_refusals_made_of_their_fie.main.body.getD i (.Pass ⟨0, 0, 0, 0⟩)
def fns : List (Str × Nat) := [(("_law_pen" : Str), 0), (("_law_draw" : Str), 1), (("_law_pick" : Str), 2), (("_law_odd" : Str), 3), (("_law_marks" : Str), 4), (("_law_under" : Str), 5), (("_law_made" : Str), 6), (("_law_fields" : Str), 7), (("law" : Str), 8)]
def cts : List (Str × Nat) := []
def asked : List (List Str × List Str) := [((["NoHouse"] : List Str), (["NoHouse"] : List Str)), ((["NoWalk"] : List Str), (["NoWalk"] : List Str)), ((["NoText"] : List Str), (["NoText"] : List Str)), ((["TooLong"] : List Str), (["TooLong"] : List Str)), ((["TooStrong"] : List Str), (["TooStrong"] : List Str)), ((["Weak"] : List Str), (["Weak"] : List Str)), ((["Poor"] : List Str), (["Poor"] : List Str)), ((["NoNumbers"] : List Str), (["NoNumbers"] : List Str)), ((["NoStanding"] : List Str), (["NoStanding"] : List Str)), ((["NoWish"] : List Str), (["NoWish"] : List Str)), ((["NoWishes"] : List Str), (["NoWishes"] : List Str)), ((["NoStrength"] : List Str), (["NoStrength"] : List Str)), ((["NoPlace"] : List Str), (["NoPlace"] : List Str)), ((["NoDial"] : List Str), (["NoDial"] : List Str)), ((["NoReason"] : List Str), (["NoReason"] : List Str)), ((["NoBeat"] : List Str), (["NoBeat"] : List Str)), ((["NoNumber"] : List Str), (["NoNumber"] : List Str)), ((["NoHands"] : List Str), (["NoHands"] : List Str)), ((["NoRule"] : List Str), (["NoRule"] : List Str)), ((["NoDeed"] : List Str), (["NoDeed"] : List Str)), ((["NoPrice"] : List Str), (["NoPrice"] : List Str)), ((["NoChain"] : List Str), (["NoChain"] : List Str)), ((["NoRow"] : List Str), (["NoRow"] : List Str)), ((["TooWide"] : List Str), (["TooWide"] : List Str)), ((["Never"] : List Str), (["Never"] : List Str)), ((["Taken"] : List Str), (["Taken"] : List Str)), ((["Broken"] : List Str), (["Broken"] : List Str)), ((["Unlike"] : List Str), (["Unlike"] : List Str)), ((["NothingDone"] : List Str), (["NothingDone"] : List Str)), ((["NotYet"] : List Str), (["NotYet"] : List Str)), ((["DialError"] : List Str), (["NoNumbers", "NoStanding", "NoWish", "NoWishes", "NoStrength", "NoPlace", "NoDial", "NoReason", "NoBeat", "NoNumber", "NoHands", "NoRule", "NoDeed", "NoPrice", "NoChain", "NoRow", "TooWide", "Never", "Taken", "Broken", "Unlike", "NoHouse", "NoWalk", "NoText", "TooLong", "TooStrong", "Weak", "Poor"] : List Str)), ((["ValueError"] : List Str), (["NoNumbers", "NoStanding", "NoWish", "NoWishes", "NoStrength", "NoPlace", "NoDial", "NoReason", "NoBeat", "NoNumber", "NoHands", "NoRule", "NoDeed", "NoPrice", "NoChain", "NoRow", "TooWide", "Never", "Taken", "Broken", "Unlike", "NoHouse", "NoWalk", "NoText", "TooLong", "TooStrong", "Weak", "Poor"] : List Str)), ((["LookupError"] : List Str), (["NothingDone"] : List Str)), ((["KeyError", "IndexError"] : List Str), ([] : List Str)), ((["RuntimeError"] : List Str), (["NotYet"] : List Str)), ((["ArithmeticError", "TypeError"] : List Str), ([] : List Str))]
def nm : Nm := ⟨fun x => fns.lookup x, fun x => cts.lookup x, ["len", "isinstance", "abs", "list", "repr", "range"], ["NoNumbers", "NoStanding", "NoWish", "NoWishes", "NoStrength", "NoPlace", "NoDial", "NoReason", "NoBeat", "NoNumber", "NoHands", "NoRule", "NoDeed", "NoPrice", "NoChain", "NoRow", "TooWide", "Never", "Taken", "Broken", "Unlike", "NothingDone", "NotYet"], [], fun ys => asked.lookup ys, [], [("NoHouse", "fault"), ("NoWalk", "nth"), ("NoText", "row"), ("TooLong", "most"), ("TooStrong", "strength"), ("Weak", "strength"), ("Poor", "price")]⟩
/-- _law_pen(_law_script) -/
def n0 : List Str := ["_law_script"]
/-- _law_draw(_law_pen_here, _law_many) -/
def n1 : List Str := ["_law_pen_here", "_law_many", "_law_digit", "_law_turn", "_law_cell", "_law_primes", "_law_prime", "_law_mixed"]
/-- _law_pick(_law_pen_here, _law_some) -/
def n2 : List Str := ["_law_pen_here", "_law_some"]
/-- _law_odd(_law_pen_here) -/
def n3 : List Str := ["_law_pen_here", "_law_some"]
/-- _law_marks(_law_e) -/
def n4 : List Str := ["_law_e", "_law_some"]
/-- _law_under(_law_e) -/
def n5 : List Str := ["_law_e", "_law_some"]
/-- _law_made(_law_thing) -/
def n6 : List Str := ["_law_thing", "_law_some"]
/-- _law_fields(_law_some) -/
def n7 : List Str := ["_law_some", "_law_found"]
/-- law(_law_script) -/
def n8 : List Str := ["_law_script", "_law_pen_here", "_law_due", "_law_turn", "_law_thing", "_law_some", "_law_k", "_law_j", "_law_e"]
def c0 : CF := ⟨1, 1, (.ret (.dct (.cons (.cst (.str "cells")) (.cons (.bi .list (.cons (.slc (.loc 0) false (.cst .non) true (.cst (.int 63))) .nil)) (.cons (.cst (.str "turn")) (.cons (.cst (.int 0)) (.cons (.cst (.str "rest")) (.cons (.cst (.int 0)) .nil))))))))⟩
def c1 : CF := ⟨2, 8, (.ifs (.cmp .Gt (.idx (.loc 0) (.cst (.str "rest"))) (.cst (.int 0))) (.asg (.nm 2) (.bin .Mod (.idx (.loc 0) (.cst (.str "rest"))) (.loc 1)) (.sub (.loc 0) (.cst (.str "rest")) (.bin .FloorDiv (.idx (.loc 0) (.cst (.str "rest"))) (.loc 1)) (.ret (.loc 2)))) .nil (.asg (.nm 3) (.idx (.loc 0) (.cst (.str "turn"))) (.sub (.loc 0) (.cst (.str "turn")) (.bin .Add (.loc 3) (.cst (.int 1))) (.asg (.nm 4) (.bin .Add (.bin .Mult (.cst (.int 43)) (.loc 3)) (.cst (.int 7))) (.ifs (.cmp .NotEq (.idx (.loc 0) (.cst (.str "cells"))) (.lst .nil)) (.asg (.nm 4) (.idx (.idx (.loc 0) (.cst (.str "cells"))) (.bin .Mod (.loc 3) (.bi .len (.cons (.idx (.loc 0) (.cst (.str "cells"))) .nil)))) .nil) .nil (.ifs (.and (.cmp .Lt (.loc 3) (.bi .len (.cons (.idx (.loc 0) (.cst (.str "cells"))) .nil))) (.cmp .GtE (.bi .abs (.cons (.loc 4) .nil)) (.bin .Pow (.cst (.int 10)) (.cst (.int 18))))) (.sub (.loc 0) (.cst (.str "rest")) (.bin .FloorDiv (.bin .Sub (.bi .abs (.cons (.loc 4) .nil)) (.bin .Pow (.cst (.int 10)) (.cst (.int 18)))) (.loc 1)) (.ret (.bin .Mod (.bin .Sub (.bi .abs (.cons (.loc 4) .nil)) (.bin .Pow (.cst (.int 10)) (.cst (.int 18)))) (.loc 1)))) .nil (.asg (.nm 5) (.lst (.cons (.cst (.int 2147483647)) (.cons (.cst (.int 2147483629)) (.cons (.cst (.int 2147483587)) (.cons (.cst (.int 2147483579)) (.cons (.cst (.int 2147483563)) .nil)))))) (.asg (.nm 6) (.idx (.loc 5) (.bin .Mod (.loc 3) (.cst (.int 5)))) (.asg (.nm 7) (.bin .Mod (.bin .Add (.bin .Add (.bin .Mult (.bin .Mod (.loc 4) (.loc 6)) (.cst (.int 48271))) (.bin .Mult (.bin .Mult (.cst (.int 69621)) (.loc 3)) (.loc 3))) (.cst (.int 17))) (.loc 6)) (.asg (.nm 7) (.bin .Mod (.bin .Mult (.loc 7) (.bin .Add (.loc 7) (.cst (.int 40692)))) (.idx (.loc 5) (.bin .Mod (.bin .Add (.loc 3) (.cst (.int 2))) (.cst (.int 5))))) (.ret (.bin .Mod (.bin .FloorDiv (.bin .Mod (.bin .Mult (.loc 7) (.loc 7)) (.cst (.int 2147483549))) (.cst (.int 64))) (.loc 1)))))))))))))⟩
def c2 : CF := ⟨2, 2, (.ret (.idx (.loc 1) (.call 1 (.cons (.loc 0) (.cons (.bi .len (.cons (.loc 1) .nil)) .nil)))))⟩
def c3 : CF := ⟨1, 2, (.asg (.nm 1) (.lst (.cons (.cst .non) (.cons (.cst (.bl true)) (.cons (.cst (.bl false)) (.cons (.cst (.int 0)) (.cons (.cst (.int 1)) (.cons (.neg (.cst (.int 1))) (.cons (.bin .Pow (.cst (.int 10)) (.cst (.int 18))) (.cons (.bin .Pow (.cst (.int 10)) (.cst (.int 20))) (.cons (.neg (.bin .Pow (.cst (.int 10)) (.cst (.int 59)))) (.cons (.cst (.str "")) (.cons (.cst (.str "0")) (.cons (.cst (.str "a")) (.cons (.cst (.str "least")) (.cons (.tup .nil) (.cons (.tup (.cons (.cst (.int 0)) .nil)) (.cons (.lst .nil) (.cons (.lst (.cons (.cst (.int 0)) .nil)) (.cons (.dct .nil) .nil))))))))))))))))))) (.asg (.nm 1) (.bin .Add (.loc 1) (.lst (.cons (.tup (.cons (.cst .non) .nil)) (.cons (.tup (.cons (.cst (.str "a")) (.cons (.cst (.int 0)) .nil))) (.cons (.tup (.cons (.cst (.str "a")) (.cons (.cst (.str "least")) (.cons (.cst (.int 0)) .nil)))) (.cons (.tup (.cons (.tup (.cons (.cst (.str "a")) (.cons (.cst (.str "least")) (.cons (.cst (.int 0)) .nil)))) .nil)) (.cons (.lst (.cons (.tup (.cons (.cst (.str "a")) (.cons (.cst (.str "least")) (.cons (.cst (.int 0)) .nil)))) .nil)) (.cons (.dct (.cons (.cst (.str "a")) (.cons (.cst (.int 0)) .nil))) (.cons (.tup (.cons (.tup .nil) .nil)) .nil))))))))) (.ret (.call 2 (.cons (.loc 0) (.cons (.bin .Add (.loc 1) (.lst (.cons (.tup (.cons (.tup .nil) (.cons (.tup .nil) .nil))) (.cons (.tup (.cons (.cst (.str "one")) (.cons (.tup (.cons (.cst (.str "a")) (.cons (.cst (.str "least")) (.cons (.cst (.int 0)) .nil)))) (.cons (.tup (.cons (.cst (.str "a")) (.cons (.cst (.str "most")) (.cons (.cst (.int 0)) .nil)))) .nil)))) (.cons (.tup (.cons (.cst (.str "off")) (.cons (.cst (.str "a")) (.cons (.cst (.str "b")) (.cons (.cst (.int 0)) .nil))))) .nil))))) .nil))))))⟩
def c4 : CF := ⟨1, 2, (.asg (.nm 1) (.lst (.cons (.isx (.loc 0) [("NoNumbers", false), ("NoStanding", false), ("NoWish", false), ("NoWishes", false), ("NoStrength", false), ("NoPlace", false), ("NoDial", false), ("NoReason", false), ("NoBeat", false), ("NoNumber", false), ("NoHands", false), ("NoRule", false), ("NoDeed", false), ("NoPrice", false), ("NoChain", false), ("NoRow", false), ("TooWide", false), ("Never", false), ("Taken", false), ("Broken", false), ("Unlike", false), ("NothingDone", false), ("NotYet", false), ("NoHouse", true), ("NoWalk", false), ("NoText", false), ("TooLong", false), ("TooStrong", false), ("Weak", false), ("Poor", false)]) (.cons (.isx (.loc 0) [("NoNumbers", false), ("NoStanding", false), ("NoWish", false), ("NoWishes", false), ("NoStrength", false), ("NoPlace", false), ("NoDial", false), ("NoReason", false), ("NoBeat", false), ("NoNumber", false), ("NoHands", false), ("NoRule", false), ("NoDeed", false), ("NoPrice", false), ("NoChain", false), ("NoRow", false), ("TooWide", false), ("Never", false), ("Taken", false), ("Broken", false), ("Unlike", false), ("NothingDone", false), ("NotYet", false), ("NoHouse", false), ("NoWalk", true), ("NoText", false), ("TooLong", false), ("TooStrong", false), ("Weak", false), ("Poor", false)]) (.cons (.isx (.loc 0) [("NoNumbers", false), ("NoStanding", false), ("NoWish", false), ("NoWishes", false), ("NoStrength", false), ("NoPlace", false), ("NoDial", false), ("NoReason", false), ("NoBeat", false), ("NoNumber", false), ("NoHands", false), ("NoRule", false), ("NoDeed", false), ("NoPrice", false), ("NoChain", false), ("NoRow", false), ("TooWide", false), ("Never", false), ("Taken", false), ("Broken", false), ("Unlike", false), ("NothingDone", false), ("NotYet", false), ("NoHouse", false), ("NoWalk", false), ("NoText", true), ("TooLong", false), ("TooStrong", false), ("Weak", false), ("Poor", false)]) (.cons (.isx (.loc 0) [("NoNumbers", false), ("NoStanding", false), ("NoWish", false), ("NoWishes", false), ("NoStrength", false), ("NoPlace", false), ("NoDial", false), ("NoReason", false), ("NoBeat", false), ("NoNumber", false), ("NoHands", false), ("NoRule", false), ("NoDeed", false), ("NoPrice", false), ("NoChain", false), ("NoRow", false), ("TooWide", false), ("Never", false), ("Taken", false), ("Broken", false), ("Unlike", false), ("NothingDone", false), ("NotYet", false), ("NoHouse", false), ("NoWalk", false), ("NoText", false), ("TooLong", true), ("TooStrong", false), ("Weak", false), ("Poor", false)]) .nil))))) (.asg (.nm 1) (.bin .Add (.loc 1) (.lst (.cons (.isx (.loc 0) [("NoNumbers", false), ("NoStanding", false), ("NoWish", false), ("NoWishes", false), ("NoStrength", false), ("NoPlace", false), ("NoDial", false), ("NoReason", false), ("NoBeat", false), ("NoNumber", false), ("NoHands", false), ("NoRule", false), ("NoDeed", false), ("NoPrice", false), ("NoChain", false), ("NoRow", false), ("TooWide", false), ("Never", false), ("Taken", false), ("Broken", false), ("Unlike", false), ("NothingDone", false), ("NotYet", false), ("NoHouse", false), ("NoWalk", false), ("NoText", false), ("TooLong", false), ("TooStrong", true), ("Weak", false), ("Poor", false)]) (.cons (.isx (.loc 0) [("NoNumbers", false), ("NoStanding", false), ("NoWish", false), ("NoWishes", false), ("NoStrength", false), ("NoPlace", false), ("NoDial", false), ("NoReason", false), ("NoBeat", false), ("NoNumber", false), ("NoHands", false), ("NoRule", false), ("NoDeed", false), ("NoPrice", false), ("NoChain", false), ("NoRow", false), ("TooWide", false), ("Never", false), ("Taken", false), ("Broken", false), ("Unlike", false), ("NothingDone", false), ("NotYet", false), ("NoHouse", false), ("NoWalk", false), ("NoText", false), ("TooLong", false), ("TooStrong", false), ("Weak", true), ("Poor", false)]) (.cons (.isx (.loc 0) [("NoNumbers", false), ("NoStanding", false), ("NoWish", false), ("NoWishes", false), ("NoStrength", false), ("NoPlace", false), ("NoDial", false), ("NoReason", false), ("NoBeat", false), ("NoNumber", false), ("NoHands", false), ("NoRule", false), ("NoDeed", false), ("NoPrice", false), ("NoChain", false), ("NoRow", false), ("TooWide", false), ("Never", false), ("Taken", false), ("Broken", false), ("Unlike", false), ("NothingDone", false), ("NotYet", false), ("NoHouse", false), ("NoWalk", false), ("NoText", false), ("TooLong", false), ("TooStrong", false), ("Weak", false), ("Poor", true)]) (.cons (.isx (.loc 0) [("NoNumbers", true), ("NoStanding", false), ("NoWish", false), ("NoWishes", false), ("NoStrength", false), ("NoPlace", false), ("NoDial", false), ("NoReason", false), ("NoBeat", false), ("NoNumber", false), ("NoHands", false), ("NoRule", false), ("NoDeed", false), ("NoPrice", false), ("NoChain", false), ("NoRow", false), ("TooWide", false), ("Never", false), ("Taken", false), ("Broken", false), ("Unlike", false), ("NothingDone", false), ("NotYet", false), ("NoHouse", false), ("NoWalk", false), ("NoText", false), ("TooLong", false), ("TooStrong", false), ("Weak", false), ("Poor", false)]) .nil)))))) (.asg (.nm 1) (.bin .Add (.loc 1) (.lst (.cons (.isx (.loc 0) [("NoNumbers", false), ("NoStanding", true), ("NoWish", false), ("NoWishes", false), ("NoStrength", false), ("NoPlace", false), ("NoDial", false), ("NoReason", false), ("NoBeat", false), ("NoNumber", false), ("NoHands", false), ("NoRule", false), ("NoDeed", false), ("NoPrice", false), ("NoChain", false), ("NoRow", false), ("TooWide", false), ("Never", false), ("Taken", false), ("Broken", false), ("Unlike", false), ("NothingDone", false), ("NotYet", false), ("NoHouse", false), ("NoWalk", false), ("NoText", false), ("TooLong", false), ("TooStrong", false), ("Weak", false), ("Poor", false)]) (.cons (.isx (.loc 0) [("NoNumbers", false), ("NoStanding", false), ("NoWish", true), ("NoWishes", false), ("NoStrength", false), ("NoPlace", false), ("NoDial", false), ("NoReason", false), ("NoBeat", false), ("NoNumber", false), ("NoHands", false), ("NoRule", false), ("NoDeed", false), ("NoPrice", false), ("NoChain", false), ("NoRow", false), ("TooWide", false), ("Never", false), ("Taken", false), ("Broken", false), ("Unlike", false), ("NothingDone", false), ("NotYet", false), ("NoHouse", false), ("NoWalk", false), ("NoText", false), ("TooLong", false), ("TooStrong", false), ("Weak", false), ("Poor", false)]) (.cons (.isx (.loc 0) [("NoNumbers", false), ("NoStanding", false), ("NoWish", false), ("NoWishes", true), ("NoStrength", false), ("NoPlace", false), ("NoDial", false), ("NoReason", false), ("NoBeat", false), ("NoNumber", false), ("NoHands", false), ("NoRule", false), ("NoDeed", false), ("NoPrice", false), ("NoChain", false), ("NoRow", false), ("TooWide", false), ("Never", false), ("Taken", false), ("Broken", false), ("Unlike", false), ("NothingDone", false), ("NotYet", false), ("NoHouse", false), ("NoWalk", false), ("NoText", false), ("TooLong", false), ("TooStrong", false), ("Weak", false), ("Poor", false)]) (.cons (.isx (.loc 0) [("NoNumbers", false), ("NoStanding", false), ("NoWish", false), ("NoWishes", false), ("NoStrength", true), ("NoPlace", false), ("NoDial", false), ("NoReason", false), ("NoBeat", false), ("NoNumber", false), ("NoHands", false), ("NoRule", false), ("NoDeed", false), ("NoPrice", false), ("NoChain", false), ("NoRow", false), ("TooWide", false), ("Never", false), ("Taken", false), ("Broken", false), ("Unlike", false), ("NothingDone", false), ("NotYet", false), ("NoHouse", false), ("NoWalk", false), ("NoText", false), ("TooLong", false), ("TooStrong", false), ("Weak", false), ("Poor", false)]) .nil)))))) (.asg (.nm 1) (.bin .Add (.loc 1) (.lst (.cons (.isx (.loc 0) [("NoNumbers", false), ("NoStanding", false), ("NoWish", false), ("NoWishes", false), ("NoStrength", false), ("NoPlace", true), ("NoDial", false), ("NoReason", false), ("NoBeat", false), ("NoNumber", false), ("NoHands", false), ("NoRule", false), ("NoDeed", false), ("NoPrice", false), ("NoChain", false), ("NoRow", false), ("TooWide", false), ("Never", false), ("Taken", false), ("Broken", false), ("Unlike", false), ("NothingDone", false), ("NotYet", false), ("NoHouse", false), ("NoWalk", false), ("NoText", false), ("TooLong", false), ("TooStrong", false), ("Weak", false), ("Poor", false)]) (.cons (.isx (.loc 0) [("NoNumbers", false), ("NoStanding", false), ("NoWish", false), ("NoWishes", false), ("NoStrength", false), ("NoPlace", false), ("NoDial", true), ("NoReason", false), ("NoBeat", false), ("NoNumber", false), ("NoHands", false), ("NoRule", false), ("NoDeed", false), ("NoPrice", false), ("NoChain", false), ("NoRow", false), ("TooWide", false), ("Never", false), ("Taken", false), ("Broken", false), ("Unlike", false), ("NothingDone", false), ("NotYet", false), ("NoHouse", false), ("NoWalk", false), ("NoText", false), ("TooLong", false), ("TooStrong", false), ("Weak", false), ("Poor", false)]) (.cons (.isx (.loc 0) [("NoNumbers", false), ("NoStanding", false), ("NoWish", false), ("NoWishes", false), ("NoStrength", false), ("NoPlace", false), ("NoDial", false), ("NoReason", true), ("NoBeat", false), ("NoNumber", false), ("NoHands", false), ("NoRule", false), ("NoDeed", false), ("NoPrice", false), ("NoChain", false), ("NoRow", false), ("TooWide", false), ("Never", false), ("Taken", false), ("Broken", false), ("Unlike", false), ("NothingDone", false), ("NotYet", false), ("NoHouse", false), ("NoWalk", false), ("NoText", false), ("TooLong", false), ("TooStrong", false), ("Weak", false), ("Poor", false)]) (.cons (.isx (.loc 0) [("NoNumbers", false), ("NoStanding", false), ("NoWish", false), ("NoWishes", false), ("NoStrength", false), ("NoPlace", false), ("NoDial", false), ("NoReason", false), ("NoBeat", true), ("NoNumber", false), ("NoHands", false), ("NoRule", false), ("NoDeed", false), ("NoPrice", false), ("NoChain", false), ("NoRow", false), ("TooWide", false), ("Never", false), ("Taken", false), ("Broken", false), ("Unlike", false), ("NothingDone", false), ("NotYet", false), ("NoHouse", false), ("NoWalk", false), ("NoText", false), ("TooLong", false), ("TooStrong", false), ("Weak", false), ("Poor", false)]) .nil)))))) (.asg (.nm 1) (.bin .Add (.loc 1) (.lst (.cons (.isx (.loc 0) [("NoNumbers", false), ("NoStanding", false), ("NoWish", false), ("NoWishes", false), ("NoStrength", false), ("NoPlace", false), ("NoDial", false), ("NoReason", false), ("NoBeat", false), ("NoNumber", true), ("NoHands", false), ("NoRule", false), ("NoDeed", false), ("NoPrice", false), ("NoChain", false), ("NoRow", false), ("TooWide", false), ("Never", false), ("Taken", false), ("Broken", false), ("Unlike", false), ("NothingDone", false), ("NotYet", false), ("NoHouse", false), ("NoWalk", false), ("NoText", false), ("TooLong", false), ("TooStrong", false), ("Weak", false), ("Poor", false)]) (.cons (.isx (.loc 0) [("NoNumbers", false), ("NoStanding", false), ("NoWish", false), ("NoWishes", false), ("NoStrength", false), ("NoPlace", false), ("NoDial", false), ("NoReason", false), ("NoBeat", false), ("NoNumber", false), ("NoHands", true), ("NoRule", false), ("NoDeed", false), ("NoPrice", false), ("NoChain", false), ("NoRow", false), ("TooWide", false), ("Never", false), ("Taken", false), ("Broken", false), ("Unlike", false), ("NothingDone", false), ("NotYet", false), ("NoHouse", false), ("NoWalk", false), ("NoText", false), ("TooLong", false), ("TooStrong", false), ("Weak", false), ("Poor", false)]) (.cons (.isx (.loc 0) [("NoNumbers", false), ("NoStanding", false), ("NoWish", false), ("NoWishes", false), ("NoStrength", false), ("NoPlace", false), ("NoDial", false), ("NoReason", false), ("NoBeat", false), ("NoNumber", false), ("NoHands", false), ("NoRule", true), ("NoDeed", false), ("NoPrice", false), ("NoChain", false), ("NoRow", false), ("TooWide", false), ("Never", false), ("Taken", false), ("Broken", false), ("Unlike", false), ("NothingDone", false), ("NotYet", false), ("NoHouse", false), ("NoWalk", false), ("NoText", false), ("TooLong", false), ("TooStrong", false), ("Weak", false), ("Poor", false)]) (.cons (.isx (.loc 0) [("NoNumbers", false), ("NoStanding", false), ("NoWish", false), ("NoWishes", false), ("NoStrength", false), ("NoPlace", false), ("NoDial", false), ("NoReason", false), ("NoBeat", false), ("NoNumber", false), ("NoHands", false), ("NoRule", false), ("NoDeed", true), ("NoPrice", false), ("NoChain", false), ("NoRow", false), ("TooWide", false), ("Never", false), ("Taken", false), ("Broken", false), ("Unlike", false), ("NothingDone", false), ("NotYet", false), ("NoHouse", false), ("NoWalk", false), ("NoText", false), ("TooLong", false), ("TooStrong", false), ("Weak", false), ("Poor", false)]) .nil)))))) (.asg (.nm 1) (.bin .Add (.loc 1) (.lst (.cons (.isx (.loc 0) [("NoNumbers", false), ("NoStanding", false), ("NoWish", false), ("NoWishes", false), ("NoStrength", false), ("NoPlace", false), ("NoDial", false), ("NoReason", false), ("NoBeat", false), ("NoNumber", false), ("NoHands", false), ("NoRule", false), ("NoDeed", false), ("NoPrice", true), ("NoChain", false), ("NoRow", false), ("TooWide", false), ("Never", false), ("Taken", false), ("Broken", false), ("Unlike", false), ("NothingDone", false), ("NotYet", false), ("NoHouse", false), ("NoWalk", false), ("NoText", false), ("TooLong", false), ("TooStrong", false), ("Weak", false), ("Poor", false)]) (.cons (.isx (.loc 0) [("NoNumbers", false), ("NoStanding", false), ("NoWish", false), ("NoWishes", false), ("NoStrength", false), ("NoPlace", false), ("NoDial", false), ("NoReason", false), ("NoBeat", false), ("NoNumber", false), ("NoHands", false), ("NoRule", false), ("NoDeed", false), ("NoPrice", false), ("NoChain", true), ("NoRow", false), ("TooWide", false), ("Never", false), ("Taken", false), ("Broken", false), ("Unlike", false), ("NothingDone", false), ("NotYet", false), ("NoHouse", false), ("NoWalk", false), ("NoText", false), ("TooLong", false), ("TooStrong", false), ("Weak", false), ("Poor", false)]) (.cons (.isx (.loc 0) [("NoNumbers", false), ("NoStanding", false), ("NoWish", false), ("NoWishes", false), ("NoStrength", false), ("NoPlace", false), ("NoDial", false), ("NoReason", false), ("NoBeat", false), ("NoNumber", false), ("NoHands", false), ("NoRule", false), ("NoDeed", false), ("NoPrice", false), ("NoChain", false), ("NoRow", true), ("TooWide", false), ("Never", false), ("Taken", false), ("Broken", false), ("Unlike", false), ("NothingDone", false), ("NotYet", false), ("NoHouse", false), ("NoWalk", false), ("NoText", false), ("TooLong", false), ("TooStrong", false), ("Weak", false), ("Poor", false)]) (.cons (.isx (.loc 0) [("NoNumbers", false), ("NoStanding", false), ("NoWish", false), ("NoWishes", false), ("NoStrength", false), ("NoPlace", false), ("NoDial", false), ("NoReason", false), ("NoBeat", false), ("NoNumber", false), ("NoHands", false), ("NoRule", false), ("NoDeed", false), ("NoPrice", false), ("NoChain", false), ("NoRow", false), ("TooWide", true), ("Never", false), ("Taken", false), ("Broken", false), ("Unlike", false), ("NothingDone", false), ("NotYet", false), ("NoHouse", false), ("NoWalk", false), ("NoText", false), ("TooLong", false), ("TooStrong", false), ("Weak", false), ("Poor", false)]) .nil)))))) (.asg (.nm 1) (.bin .Add (.loc 1) (.lst (.cons (.isx (.loc 0) [("NoNumbers", false), ("NoStanding", false), ("NoWish", false), ("NoWishes", false), ("NoStrength", false), ("NoPlace", false), ("NoDial", false), ("NoReason", false), ("NoBeat", false), ("NoNumber", false), ("NoHands", false), ("NoRule", false), ("NoDeed", false), ("NoPrice", false), ("NoChain", false), ("NoRow", false), ("TooWide", false), ("Never", true), ("Taken", false), ("Broken", false), ("Unlike", false), ("NothingDone", false), ("NotYet", false), ("NoHouse", false), ("NoWalk", false), ("NoText", false), ("TooLong", false), ("TooStrong", false), ("Weak", false), ("Poor", false)]) (.cons (.isx (.loc 0) [("NoNumbers", false), ("NoStanding", false), ("NoWish", false), ("NoWishes", false), ("NoStrength", false), ("NoPlace", false), ("NoDial", false), ("NoReason", false), ("NoBeat", false), ("NoNumber", false), ("NoHands", false), ("NoRule", false), ("NoDeed", false), ("NoPrice", false), ("NoChain", false), ("NoRow", false), ("TooWide", false), ("Never", false), ("Taken", true), ("Broken", false), ("Unlike", false), ("NothingDone", false), ("NotYet", false), ("NoHouse", false), ("NoWalk", false), ("NoText", false), ("TooLong", false), ("TooStrong", false), ("Weak", false), ("Poor", false)]) (.cons (.isx (.loc 0) [("NoNumbers", false), ("NoStanding", false), ("NoWish", false), ("NoWishes", false), ("NoStrength", false), ("NoPlace", false), ("NoDial", false), ("NoReason", false), ("NoBeat", false), ("NoNumber", false), ("NoHands", false), ("NoRule", false), ("NoDeed", false), ("NoPrice", false), ("NoChain", false), ("NoRow", false), ("TooWide", false), ("Never", false), ("Taken", false), ("Broken", true), ("Unlike", false), ("NothingDone", false), ("NotYet", false), ("NoHouse", false), ("NoWalk", false), ("NoText", false), ("TooLong", false), ("TooStrong", false), ("Weak", false), ("Poor", false)]) (.cons (.isx (.loc 0) [("NoNumbers", false), ("NoStanding", false), ("NoWish", false), ("NoWishes", false), ("NoStrength", false), ("NoPlace", false), ("NoDial", false), ("NoReason", false), ("NoBeat", false), ("NoNumber", false), ("NoHands", false), ("NoRule", false), ("NoDeed", false), ("NoPrice", false), ("NoChain", false), ("NoRow", false), ("TooWide", false), ("Never", false), ("Taken", false), ("Broken", false), ("Unlike", true), ("NothingDone", false), ("NotYet", false), ("NoHouse", false), ("NoWalk", false), ("NoText", false), ("TooLong", false), ("TooStrong", false), ("Weak", false), ("Poor", false)]) .nil)))))) (.ret (.bin .Add (.loc 1) (.lst (.cons (.isx (.loc 0) [("NoNumbers", false), ("NoStanding", false), ("NoWish", false), ("NoWishes", false), ("NoStrength", false), ("NoPlace", false), ("NoDial", false), ("NoReason", false), ("NoBeat", false), ("NoNumber", false), ("NoHands", false), ("NoRule", false), ("NoDeed", false), ("NoPrice", false), ("NoChain", false), ("NoRow", false), ("TooWide", false), ("Never", false), ("Taken", false), ("Broken", false), ("Unlike", false), ("NothingDone", true), ("NotYet", false), ("NoHouse", false), ("NoWalk", false), ("NoText", false), ("TooLong", false), ("TooStrong", false), ("Weak", false), ("Poor", false)]) (.cons (.isx (.loc 0) [("NoNumbers", false), ("NoStanding", false), ("NoWish", false), ("NoWishes", false), ("NoStrength", false), ("NoPlace", false), ("NoDial", false), ("NoReason", false), ("NoBeat", false), ("NoNumber", false), ("NoHands", false), ("NoRule", false), ("NoDeed", false), ("NoPrice", false), ("NoChain", false), ("NoRow", false), ("TooWide", false), ("Never", false), ("Taken", false), ("Broken", false), ("Unlike", false), ("NothingDone", false), ("NotYet", true), ("NoHouse", false), ("NoWalk", false), ("NoText", false), ("TooLong", false), ("TooStrong", false), ("Weak", false), ("Poor", false)]) .nil))))))))))))⟩
def c5 : CF := ⟨1, 2, (.asg (.nm 1) (.lst (.cons (.isx (.loc 0) [("NoNumbers", true), ("NoStanding", true), ("NoWish", true), ("NoWishes", true), ("NoStrength", true), ("NoPlace", true), ("NoDial", true), ("NoReason", true), ("NoBeat", true), ("NoNumber", true), ("NoHands", true), ("NoRule", true), ("NoDeed", true), ("NoPrice", true), ("NoChain", true), ("NoRow", true), ("TooWide", true), ("Never", true), ("Taken", true), ("Broken", true), ("Unlike", true), ("NothingDone", false), ("NotYet", false), ("NoHouse", true), ("NoWalk", true), ("NoText", true), ("TooLong", true), ("TooStrong", true), ("Weak", true), ("Poor", true)]) (.cons (.isx (.loc 0) [("NoNumbers", true), ("NoStanding", true), ("NoWish", true), ("NoWishes", true), ("NoStrength", true), ("NoPlace", true), ("NoDial", true), ("NoReason", true), ("NoBeat", true), ("NoNumber", true), ("NoHands", true), ("NoRule", true), ("NoDeed", true), ("NoPrice", true), ("NoChain", true), ("NoRow", true), ("TooWide", true), ("Never", true), ("Taken", true), ("Broken", true), ("Unlike", true), ("NothingDone", false), ("NotYet", false), ("NoHouse", true), ("NoWalk", true), ("NoText", true), ("TooLong", true), ("TooStrong", true), ("Weak", true), ("Poor", true)]) (.cons (.isx (.loc 0) [("NoNumbers", false), ("NoStanding", false), ("NoWish", false), ("NoWishes", false), ("NoStrength", false), ("NoPlace", false), ("NoDial", false), ("NoReason", false), ("NoBeat", false), ("NoNumber", false), ("NoHands", false), ("NoRule", false), ("NoDeed", false), ("NoPrice", false), ("NoChain", false), ("NoRow", false), ("TooWide", false), ("Never", false), ("Taken", false), ("Broken", false), ("Unlike", false), ("NothingDone", true), ("NotYet", false), ("NoHouse", false), ("NoWalk", false), ("NoText", false), ("TooLong", false), ("TooStrong", false), ("Weak", false), ("Poor", false)]) .nil)))) (.asg (.nm 1) (.bin .Add (.loc 1) (.lst (.cons (.isx (.loc 0) [("NoNumbers", false), ("NoStanding", false), ("NoWish", false), ("NoWishes", false), ("NoStrength", false), ("NoPlace", false), ("NoDial", false), ("NoReason", false), ("NoBeat", false), ("NoNumber", false), ("NoHands", false), ("NoRule", false), ("NoDeed", false), ("NoPrice", false), ("NoChain", false), ("NoRow", false), ("TooWide", false), ("Never", false), ("Taken", false), ("Broken", false), ("Unlike", false), ("NothingDone", false), ("NotYet", false), ("NoHouse", false), ("NoWalk", false), ("NoText", false), ("TooLong", false), ("TooStrong", false), ("Weak", false), ("Poor", false)]) (.cons (.isx (.loc 0) [("NoNumbers", false), ("NoStanding", false), ("NoWish", false), ("NoWishes", false), ("NoStrength", false), ("NoPlace", false), ("NoDial", false), ("NoReason", false), ("NoBeat", false), ("NoNumber", false), ("NoHands", false), ("NoRule", false), ("NoDeed", false), ("NoPrice", false), ("NoChain", false), ("NoRow", false), ("TooWide", false), ("Never", false), ("Taken", false), ("Broken", false), ("Unlike", false), ("NothingDone", false), ("NotYet", true), ("NoHouse", false), ("NoWalk", false), ("NoText", false), ("TooLong", false), ("TooStrong", false), ("Weak", false), ("Poor", false)]) .nil)))) (.ret (.bin .Add (.loc 1) (.lst (.cons (.isx (.loc 0) [("NoNumbers", false), ("NoStanding", false), ("NoWish", false), ("NoWishes", false), ("NoStrength", false), ("NoPlace", false), ("NoDial", false), ("NoReason", false), ("NoBeat", false), ("NoNumber", false), ("NoHands", false), ("NoRule", false), ("NoDeed", false), ("NoPrice", false), ("NoChain", false), ("NoRow", false), ("TooWide", false), ("Never", false), ("Taken", false), ("Broken", false), ("Unlike", false), ("NothingDone", false), ("NotYet", false), ("NoHouse", false), ("NoWalk", false), ("NoText", false), ("TooLong", false), ("TooStrong", false), ("Weak", false), ("Poor", false)]) .nil))))))⟩
def c6 : CF := ⟨1, 2, (.asg (.nm 1) (.lst (.cons (.mkf "NoHouse" "fault" (.loc 0)) (.cons (.mkf "NoWalk" "nth" (.loc 0)) (.cons (.mkf "NoText" "row" (.loc 0)) (.cons (.mkf "TooLong" "most" (.loc 0)) (.cons (.mkf "TooStrong" "strength" (.loc 0)) (.cons (.mkf "Weak" "strength" (.loc 0)) (.cons (.mkf "Poor" "price" (.loc 0)) .nil)))))))) (.asg (.nm 1) (.bin .Add (.loc 1) (.lst (.cons (.mkx "NoNumbers") (.cons (.mkx "NoStanding") (.cons (.mkx "NoWish") (.cons (.mkx "NoWishes") (.cons (.mkx "NoStrength") (.cons (.mkx "NoPlace") (.cons (.mkx "NoDial") (.cons (.mkx "NoReason") .nil)))))))))) (.asg (.nm 1) (.bin .Add (.loc 1) (.lst (.cons (.mkx "NoBeat") (.cons (.mkx "NoNumber") (.cons (.mkx "NoHands") (.cons (.mkx "NoRule") (.cons (.mkx "NoDeed") (.cons (.mkx "NoPrice") (.cons (.mkx "NoChain") (.cons (.mkx "NoRow") (.cons (.mkx "TooWide") .nil))))))))))) (.ret (.bin .Add (.loc 1) (.lst (.cons (.mkx "Never") (.cons (.mkx "Taken") (.cons (.mkx "Broken") (.cons (.mkx "Unlike") (.cons (.mkx "NothingDone") (.cons (.mkx "NotYet") .nil))))))))))))⟩
def c7 : CF := ⟨1, 2, (.asg (.nm 1) (.lst (.cons (.fld (.idx (.loc 0) (.cst (.int 0))) "fault") (.cons (.fld (.idx (.loc 0) (.cst (.int 1))) "nth") (.cons (.fld (.idx (.loc 0) (.cst (.int 2))) "row") (.cons (.fld (.idx (.loc 0) (.cst (.int 3))) "most") (.cons (.fld (.idx (.loc 0) (.cst (.int 4))) "strength") (.cons (.fld (.idx (.loc 0) (.cst (.int 5))) "strength") .nil))))))) (.ret (.bin .Add (.loc 1) (.lst (.cons (.fld (.idx (.loc 0) (.cst (.int 6))) "price") .nil)))))⟩
def c8 : CF := ⟨1, 9, (.asg (.nm 1) (.call 0 (.cons (.loc 0) .nil)) (.asg (.nm 2) (.bin .Mult (.lst (.cons (.lst (.cons (.cst (.bl true)) (.cons (.cst (.bl true)) (.cons (.cst (.bl false)) (.cons (.cst (.bl false)) (.cons (.cst (.bl false)) (.cons (.cst (.bl false)) .nil))))))) .nil)) (.cst (.int 28))) (.asg (.nm 2) (.bin .Add (.loc 2) (.lst (.cons (.lst (.cons (.cst (.bl false)) (.cons (.cst (.bl false)) (.cons (.cst (.bl true)) (.cons (.cst (.bl false)) (.cons (.cst (.bl false)) (.cons (.cst (.bl false)) .nil))))))) (.cons (.lst (.cons (.cst (.bl false)) (.cons (.cst (.bl false)) (.cons (.cst (.bl false)) (.cons (.cst (.bl false)) (.cons (.cst (.bl true)) (.cons (.cst (.bl false)) .nil))))))) .nil)))) (.for_ (.nm 3) (.rng (.cons (.cst (.int 4)) .nil)) (.asg (.nm 4) (.call 2 (.cons (.loc 1) (.cons (.lst (.cons (.call 3 (.cons (.loc 1) .nil)) (.cons (.call 1 (.cons (.loc 1) (.cons (.bin .Pow (.cst (.int 10)) (.cst (.int 9))) .nil))) (.cons (.tup (.cons (.cst (.str "dial")) (.cons (.call 1 (.cons (.loc 1) (.cons (.cst (.int 12)) .nil))) .nil))) (.cons (.tup (.cons (.cst (.str "house")) .nil)) .nil))))) .nil))) (.asg (.nm 5) (.call 6 (.cons (.loc 4) .nil)) (.ifs (.cmp .NotEq (.bi .repr (.cons (.call 7 (.cons (.loc 5) .nil)) .nil)) (.bi .repr (.cons (.bin .Mult (.lst (.cons (.loc 4) .nil)) (.cst (.int 7))) .nil))) (.ret (.cst (.bl false))) .nil (.ifs (.cmp .NotEq (.lc [6] (.nm 6) (.rng (.cons (.cst (.int 30)) .nil)) (.cmp .NotEq (.call 4 (.cons (.idx (.loc 5) (.loc 6)) .nil)) (.lc [7] (.nm 7) (.rng (.cons (.cst (.int 30)) .nil)) (.cst (.bl true)) (.cmp .Eq (.loc 6) (.loc 7)))) (.loc 6)) (.lst .nil)) (.ret (.cst (.bl false))) .nil (.ifs (.cmp .NotEq (.lc [8] (.nm 8) (.val (.loc 5)) (.cst (.bl true)) (.call 5 (.cons (.loc 8) .nil))) (.loc 2)) (.ret (.cst (.bl false))) .nil .nil))))) (.ret (.cst (.bl true)))))))⟩
def ctv : List D := []
def T (i : Nat) : Option CF := [c0, c1, c2, c3, c4, c5, c6, c7, c8][i]?
def ct (i : Nat) : Option D := ctv[i]?
theorem e0 : erF nm 60 n0 (top 33) = some c0 := by kernel_rfl
theorem e1 : erF nm 60 n1 (top 34) = some c1 := by kernel_rfl
theorem e2 : erF nm 60 n2 (top 35) = some c2 := by kernel_rfl
theorem e3 : erF nm 60 n3 (top 36) = some c3 := by kernel_rfl
theorem e4 : erF nm 60 n4 (top 37) = some c4 := by kernel_rfl
theorem e5 : erF nm 60 n5 (top 38) = some c5 := by kernel_rfl
theorem e6 : erF nm 60 n6 (top 39) = some c6 := by kernel_rfl
theorem e7 : erF nm 60 n7 (top 40) = some c7 := by kernel_rfl
theorem e8 : erF nm 60 n8 (top 41) = some c8 := by kernel_rfl
end K56
namespace K56
open PySem L2 Mi
theorem sem_run {k i : Nat} {f : CF} (h : T i = some f) (ds : List D) (S : Store) : semN T ct (k + 1) i ds S = runF ⟨semN T ct k, ct⟩ f ds S := by
  show (match T i with
    | some f => runF ⟨semN T ct k, ct⟩ f ds S
    | none => .bad) = _
  rw [h]
section
variable {p c : Nat} {cs : List Int} {t r : Int} {S : Store}
theorem idx_rest (h : Pen p c cs t r S) : idxD (.ref p) (.str (Str.ofString "rest")) S = .ok (.int r) S := by
  show idxC S[p]? _ S = _
  rw [h.pen]; rfl
theorem idx_turn (h : Pen p c cs t r S) : idxD (.ref p) (.str (Str.ofString "turn")) S = .ok (.int t) S := by
  show idxC S[p]? _ S = _
  rw [h.pen]; rfl
theorem idx_cells (h : Pen p c cs t r S) : idxD (.ref p) (.str (Str.ofString "cells")) S = .ok (.ref c) S := by
  show idxC S[p]? _ S = _
  rw [h.pen]; rfl
theorem sub_rest (h : Pen p c cs t r S) {x : Int} : subD (.ref p) (.str (Str.ofString "rest")) (.int x) S = some (setPen S p c t x) := by
  rw [sub_dK (kk := .inr (Str.ofString "rest")) h.pen rfl (show 3 < sizeLine by decide)]; rfl
theorem sub_turn (h : Pen p c cs t r S) {x : Int} : subD (.ref p) (.str (Str.ofString "turn")) (.int x) S = some (setPen S p c x r) := by
  rw [sub_dK (kk := .inr (Str.ofString "turn")) h.pen rfl (show 3 < sizeLine by decide)]; rfl
end
/-- a draw below m -/
def DrawS (F : List D → Store → R D) : Prop := ∀ (p c : Nat) (cs : List Int) (t r m : Int) (S : Store), Pen p c cs t r S → 0 < m → m < 2 ^ 64 → 0 ≤ t → t < 2 ^ 60 → ∃ v t' r', F [.ref p, .int m] S = .ok (.int v) (setPen S p c t' r') ∧ 0 ≤ v ∧ v < m ∧ t ≤ t' ∧ t' ≤ t + 1
abbrev primes : List Int := [2147483647, 2147483629, 2147483587, 2147483579, 2147483563]
theorem prime_at {i : Int} (h0 : 0 ≤ i) (h1 : i < 5) : ∃ q : Int, 0 < q ∧ q < 2 ^ 31 ∧ L2.atI [D.int 2147483647, D.int 2147483629, D.int 2147483587, D.int 2147483579, D.int 2147483563] i = some (.int q) := by
  obtain ⟨q, hm, h⟩ := at_ints (cs := primes) h0 h1
  refine ⟨q, ?_, ?_, h⟩
  · simp [primes] at hm; omega
  · simp [primes] at hm; omega
theorem draw_ok {k : Nat} : DrawS (semN T ct (k + 1) 1) := by
  intro p c cs t r m S hp hm h2 h0 h1
  rw [sem_run (f := c1) rfl]
  by_cases hr : 0 < r
  · refine ⟨r % m, t, r / m, ?_, Int.emod_nonneg _ (by omega), Int.emod_lt_of_pos _ hm, by omega, by omega⟩
    simp [runF, c1, idx_rest hp, gc_same, hr, bin_mod hm, bin_div (div_ok hm h2), sub_rest hp, gc_len]
  · have hp1 := hp.set (t + 1) r
    have e2 := hp1.cells
    have hp2 := hp1.app [.lst []]
    have m1 : CMul 43 t := .inl (by omega)
    have ne : cmpD .NotEq (.ref c) (.ref S.length) (setPen S p c (t + 1) r ++ [.lst []]) = .ok (.bl (!cs.isEmpty)) (setPen S p c (t + 1) r ++ [.lst []]) := ne_nilI hp2.cells (by simp)
    have l1 := len_lst e2
    rw [List.length_map] at l1
    -- the cell
    have cell : ∃ z : Int, (cs.isEmpty = true ∧ z = 43 * t + 7) ∨ (cs.isEmpty = false ∧ 0 < (cs.length : Int) ∧ idxD (.ref c) (.int (t % (cs.length : Int))) (setPen S p c (t + 1) r) = .ok (.int z) (setPen S p c (t + 1) r)) := by
      cases hc : cs with
      | nil => exact ⟨_, .inl ⟨rfl, rfl⟩⟩
      | cons x xs =>
        have hpos : (0 : Int) < ((x :: xs).length : Int) := by simp only [List.length_cons]; omega
        obtain ⟨z, _, hz⟩ := at_ints (cs := x :: xs) (i := t % ((x :: xs).length : Int)) (Int.emod_nonneg _ (by omega)) (Int.emod_lt_of_pos _ hpos)
        exact ⟨z, .inr ⟨rfl, hpos, idx_lst (by rw [← hc]; exact e2) hz⟩⟩
    obtain ⟨z, cell⟩ := cell
    have gcb : ∀ b : Bool, Mi.gc (setPen S p c (t + 1) r) (.bl b) (setPen S p c (t + 1) r ++ [.lst []]) = .ok (.bl b) (setPen S p c (t + 1) r) := fun b => gc_app0 rfl
    -- the tail
    obtain ⟨q, q0, q1, hq⟩ := prime_at (i := t % 5) (by omega) (by omega)
    obtain ⟨u, u0, u1, hu⟩ := prime_at (i := (t + 2) % 5) (by omega) (by omega)
    have P := [D.int 2147483647, D.int 2147483629, D.int 2147483587, D.int 2147483579, D.int 2147483563]
    have iq : ∀ S' : Store, idxD (.ref S'.length) (.int (t % 5)) (S' ++ [.lst [D.int 2147483647, D.int 2147483629, D.int 2147483587, D.int 2147483579, D.int 2147483563]]) = .ok (.int q) (S' ++ [.lst [D.int 2147483647, D.int 2147483629, D.int 2147483587, D.int 2147483579, D.int 2147483563]]) := fun S' => idx_lst (by simp) hq
    have iu : ∀ S' : Store, idxD (.ref S'.length) (.int ((t + 2) % 5)) (S' ++ [.lst [D.int 2147483647, D.int 2147483629, D.int 2147483587, D.int 2147483579, D.int 2147483563]]) = .ok (.int u) (S' ++ [.lst [D.int 2147483647, D.int 2147483629, D.int 2147483587, D.int 2147483579, D.int 2147483563]]) := fun S' => idx_lst (by simp) hu
    have iq := iq (setPen S p c (t + 1) r)
    have iu := iu (setPen S p c (t + 1) r)
    rw [setPen_len] at iq iu
    have n1 := Int.emod_nonneg z (b := q) (by omega)
    have n2 := Int.emod_lt_of_pos z q0
    have m2 : CMul (z % q) 48271 := .inr (by omega)
    have m3 : CMul 69621 t := .inl (by omega)
    have m4 : CMul (69621 * t) t := .inr (by omega)
    have w1 := Int.emod_nonneg (z % q * 48271 + 69621 * t * t + 17) (b := q) (by omega)
    have w2 := Int.emod_lt_of_pos (z % q * 48271 + 69621 * t * t + 17) q0
    generalize hx : (z % q * 48271 + 69621 * t * t + 17) % q = x at w1 w2
    have m5 : CMul x (x + 40692) := .inl (by omega)
    have y1 := Int.emod_nonneg (x * (x + 40692)) (b := u) (by omega)
    have y2 := Int.emod_lt_of_pos (x * (x + 40692)) u0
    generalize hy : x * (x + 40692) % u = y at y1 y2
    have m6 : CMul y y := .inl (by omega)
    have d64 : ∀ j : Int, binD .FloorDiv (.int j) (.int 64) = fun S => .ok (.int (j / 64)) S := fun j => by funext S; exact bin_div (div_ok (by decide) (by decide))
    have gce : ∀ v t' r' : Int, Mi.gc S (.int v) (setPen S p c t' r' ++ [.lst [D.int 2147483647, D.int 2147483629, D.int 2147483587, D.int 2147483579, D.int 2147483563]]) = .ok (.int v) (setPen S p c t' r') := fun v t' r' => hp.gc rfl t' r'
    by_cases big : t < (cs.length : Int) ∧ 1000000000000000000 ≤ (if z < 0 then -z else z)
    · refine ⟨((if z < 0 then -z else z) - 1000000000000000000) % m, t + 1, ((if z < 0 then -z else z) - 1000000000000000000) / m, ?_, Int.emod_nonneg _ (by omega), Int.emod_lt_of_pos _ hm, by omega, by omega⟩
      rcases cell with ⟨cc1, rfl⟩ | ⟨cc1, cc2, cc3⟩
      · have : cs.length = 0 := by simpa using cc1
        omega
      · simp [runF, c1, idx_rest hp, idx_turn hp, gc_same, hr, sub_turn hp, bin_mul m1, idx_cells hp1, newC, ne, gcb, cc1, l1, bin_mod cc2, cc3, big.1, big.2, bin_mod hm, bin_div (div_ok hm h2), sub_rest hp1, gc_len]
    · refine ⟨y * y % 2147483549 / 64 % m, t + 1, r, ?_, Int.emod_nonneg _ (by omega), Int.emod_lt_of_pos _ hm, by omega, by omega⟩
      have nb : ∀ (S' : Store), (if t < (cs.length : Int) then (if 1000000000000000000 ≤ (if z < 0 then -z else z) then R.ok (D.bl true) S' else R.ok (D.bl false) S') else R.ok (D.bl false) S') = R.ok (D.bl false) S' := by
        intro S'
        by_cases h1 : t < (cs.length : Int)
        · rw [if_pos h1, if_neg fun h => big ⟨h1, h⟩]
        · rw [if_neg h1]
      rcases cell with ⟨cc1, rfl⟩ | ⟨cc1, cc2, cc3⟩
      · simp [runF, c1, idx_rest hp, idx_turn hp, gc_same, hr, sub_turn hp, bin_mul m1, idx_cells hp1, newC, ne, gcb, cc1, l1, nb, iq, iu, bin_mod q0, bin_mul m2, bin_mul m3, bin_mul m4, hx, bin_mul m5, bin_mod u0, hy, bin_mul m6, d64, gce, bin_mod hm, bin_mod]
      · simp [runF, c1, idx_rest hp, idx_turn hp, gc_same, hr, sub_turn hp, bin_mul m1, idx_cells hp1, newC, ne, gcb, cc1, l1, bin_mod cc2, cc3, nb, iq, iu, bin_mod q0, bin_mul m2, bin_mul m3, bin_mul m4, hx, bin_mul m5, bin_mod u0, hy, bin_mul m6, d64, gce, bin_mod hm, bin_mod]
end K56
namespace K56
open PySem L2 Mi
def PickS (F : List D → Store → R D) : Prop := ∀ (p c : Nat) (cs : List Int) (t r : Int) (S : Store) (n : Nat) (ds : List D), Pen p c cs t r S → S[n]? = some (.lst ds) → 0 < ds.length → ds.length < 2 ^ 60 → 0 ≤ t → t < 2 ^ 60 →
  ∃ d t' r', F [.ref p, .ref n] S = .ok d (setPen S p c t' r') ∧ d ∈ ds ∧ t ≤ t' ∧ t' ≤ t + 1
def PickT (F : List D → Store → R D) : Prop := ∀ (p c : Nat) (cs : List Int) (t r : Int) (S : Store) (ds : List D), Pen p c cs t r S → 0 < ds.length → ds.length < 2 ^ 60 → 0 ≤ t → t < 2 ^ 60 →
  ∃ d t' r', F [.ref p, .tup ds] S = .ok d (setPen S p c t' r') ∧ d ∈ ds ∧ t ≤ t' ∧ t' ≤ t + 1
def PickC (F : List D → Store → R D) : Prop := ∀ (p c : Nat) (cs : List Int) (t r : Int) (S : Store) (z : Str), Pen p c cs t r S → 0 < z.length → z.length ≤ 16777216 → 0 ≤ t → t < 2 ^ 60 →
  ∃ x t' r', F [.ref p, .str z] S = .ok (.str ⟨#[x]⟩) (setPen S p c t' r') ∧ x ∈ z.cps.toList ∧ t ≤ t' ∧ t' ≤ t + 1
theorem pen_ne {p c : Nat} {cs : List Int} {t r : Int} {S : Store} {n : Nat} {ds : List D} (h : Pen p c cs t r S) (e : S[n]? = some (.lst ds)) : p ≠ n := by
  rintro rfl
  rw [h.pen] at e
  cases e
theorem at_set {p c : Nat} {cs : List Int} {t r : Int} {S : Store} {n : Nat} {ds : List D} (h : Pen p c cs t r S) (e : S[n]? = some (.lst ds)) (t' r' : Int) : (setPen S p c t' r')[n]? = some (.lst ds) := by
  unfold setPen
  rw [List.getElem?_set_ne (pen_ne h e)]
  exact e
theorem pick_ok {k : Nat} : PickS (semN T ct (k + 2) 2) := by
  intro p c cs t r S n ds hp e hl hz h0 h1
  obtain ⟨v, t', r', ed, v0, v1, t0, t1⟩ := draw_ok (k := k) p c cs t r ds.length S hp (by omega) (by omega) h0 h1
  obtain ⟨d, hd, hm⟩ := atI_int v0 v1
  refine ⟨d, t', r', ?_, hm, t0, t1⟩
  rw [sem_run (f := c2) rfl]
  simp [runF, c2, len_lst e, gc_same, ed, gc_len, idx_lst (at_set hp e t' r') hd]
theorem pickT_ok {k : Nat} : PickT (semN T ct (k + 2) 2) := by
  intro p c cs t r S ds hp hl hz h0 h1
  obtain ⟨v, t', r', ed, v0, v1, t0, t1⟩ := draw_ok (k := k) p c cs t r ds.length S hp (by omega) (by omega) h0 h1
  obtain ⟨d, hd, hm⟩ := atI_int v0 v1
  refine ⟨d, t', r', ?_, hm, t0, t1⟩
  have hi : ∀ S' : Store, idxD (.tup ds) (.int v) S' = .ok d S' := fun S' => by
    show optR (L2.atI ds v) S' = _
    rw [hd]; rfl
  rw [sem_run (f := c2) rfl]
  simp [runF, c2, gc_same, ed, gc_len, hi]
theorem pickC_ok {k : Nat} : PickC (semN T ct (k + 2) 2) := by
  intro p c cs t r S z hp hl hz h0 h1
  obtain ⟨v, t', r', ed, v0, v1, t0, t1⟩ := draw_ok (k := k) p c cs t r z.length S hp (by omega) (by omega) h0 h1
  have v1' : v < (z.cps.toList.length : Int) := by
    have : z.length = z.cps.toList.length := by simp [Str.length]
    omega
  obtain ⟨x, hd, hm⟩ := atI_int v0 v1'
  refine ⟨x, t', r', ?_, hm, t0, t1⟩
  have hi : ∀ S' : Store, idxD (.str z) (.int v) S' = .ok (.str ⟨#[x]⟩) S' := fun S' => by
    show (if sizeOk z.length then optR ((L2.atI z.cps.toList v).map fun c => .str ⟨#[c]⟩) S' else .bad) = _
    rw [sizeOk_of, decide_eq_true hz, hd]; rfl
  have hn : ∀ S' : Store, biD .len [.str z] S' = .ok (.int z.length) S' := fun S' => by
    have h : lenD S' (.str z) = some z.length := by
      show (if sizeOk z.length then some z.length else none) = _
      rw [sizeOk_of, decide_eq_true hz]; rfl
    show optR ((lenD S' (.str z)).map fun n => .int n) S' = _
    rw [h]; rfl
  rw [sem_run (f := c2) rfl]
  simp [runF, c2, gc_same, ed, gc_len, hi, hn]
/-- a pick from a list that is written in place -/
theorem pick_new {k : Nat} {p c : Nat} {cs : List Int} {t0 r0 : Int} {S : Store} (hp : Pen p c cs t0 r0 S) (t r : Int) {ds : List D} (hl : 0 < ds.length) (hz : ds.length < 2 ^ 60) (h0 : 0 ≤ t) (h1 : t < 2 ^ 60) (lt : ∀ d ∈ ds, d.lt S.length = true) :
    ∃ d t' r', (semN T ct (k + 2) 2 [.ref p, .ref S.length] (setPen S p c t r ++ [.lst ds])).gc S = .ok d (setPen S p c t' r') ∧ d ∈ ds ∧ t ≤ t' ∧ t' ≤ t + 1 := by
  obtain ⟨d, t', r', e, hm, a, b⟩ := pick_ok (k := k) p c cs t r (setPen S p c t r ++ [.lst ds]) S.length ds ((hp.set t r).app _) (by simp) hl hz h0 h1
  refine ⟨d, t', r', ?_, hm, a, b⟩
  rw [e, setPen_app (by rw [setPen_len]; exact hp.plt), setPen_set]
  exact hp.gc (lt d hm) t' r'
theorem pick_new0 {k : Nat} {p c : Nat} {cs : List Int} {t r : Int} {S : Store} (hp : Pen p c cs t r S) {ds : List D} (hl : 0 < ds.length) (hz : ds.length < 2 ^ 60) (h0 : 0 ≤ t) (h1 : t < 2 ^ 60) (lt : ∀ d ∈ ds, d.lt S.length = true) :
    ∃ d t' r', (semN T ct (k + 2) 2 [.ref p, .ref S.length] (S ++ [.lst ds])).gc S = .ok d (setPen S p c t' r') ∧ d ∈ ds ∧ t ≤ t' ∧ t' ≤ t + 1 := by
  have := pick_new (k := k) hp t r hl hz h0 h1 lt
  rw [setPen_same hp] at this
  exact this
theorem for_inv {f : D → Lcs → Store → R (Fl × Lcs)} {g : Guard} (I : Nat → Lcs → Store → Prop) : ∀ (items : List D) (n : Nat) (L : Lcs) (S : Store), I n L S →
    (∀ i L S, I i L S → Gok g S) → (∀ i d L S, n ≤ i → items[i - n]? = some d → I i L S → ∃ L' S', f d L S = .ok (.nx, L') S' ∧ I (i + 1) L' S') → ∃ L' S', forLoop f g items L S = .ok (.nx, L') S' ∧ I (n + items.length) L' S'
  | [], n, L, S, h0, hg, step => ⟨L, S, by simp [forLoop, hg n L S h0], h0⟩
  | d :: ds, n, L, S, h0, hg, step => by
    obtain ⟨L1, S1, e1, i1⟩ := step n d L S (Nat.le_refl _) (by simp) h0
    obtain ⟨L2, S2, e2, i2⟩ := for_inv I ds (n + 1) L1 S1 i1 hg fun i d' L S hi hd hI => step i d' L S (by omega) (by
      have : i - n = (i - (n + 1)) + 1 := by omega
      rw [this]; exact hd) hI
    refine ⟨L2, S2, ?_, by rw [List.length_cons]; have : n + (ds.length + 1) = n + 1 + ds.length := by omega
                           rw [this]; exact i2⟩
    simp only [forLoop]
    rw [if_pos (hg n L S h0), e1, R.bind_ok]
    exact e2
theorem gok_nil {S : Store} : Gok [] S := fun _ h => by cases h
end K56
namespace K56
open PySem L2 Mi
theorem at_app {S T : Store} {a : Nat} {x : Cell} (e : S[a]? = some x) : (S ++ T)[a]? = some x := by
  rw [List.getElem?_append_left (List.getElem?_eq_some_iff.mp e).1]; exact e
theorem ltAll_of {n : Nat} : ∀ {ds : List D}, (∀ d ∈ ds, d.lt n = true) → D.ltAll n ds = true
  | [], _ => rfl
  | d :: ds, h => by
    show (d.lt n && D.ltAll n ds) = true
    rw [h d (by simp), ltAll_of fun x hx => h x (by simp [hx])]; rfl
theorem ints_lt (m : Nat) (is : List Int) : D.ltAll m (is.map .int) = true := ltAll_of fun d hd => by
  obtain ⟨i, _, rfl⟩ := List.mem_map.mp hd; rfl
theorem small_line {n : Nat} (h : n ≤ 1000000) : n < sizeLine := by rw [sizeLine_eq]; omega
theorem gc_ref_keep {S S' : Store} {m : Nat} {c : Cell} (e : S'[m]? = some c) (hc : c.lt S.length = false) (hm : S.length ≤ m) : Mi.gc S (.ref m) S' = .ok (.ref m) S' := by
  unfold Mi.gc
  rw [if_neg (by rintro ⟨h, _⟩; have : m < S.length := of_decide_eq_true h; omega)]
  simp only [e]
  rw [if_neg (by rintro ⟨_, h, _⟩; rw [hc] at h; cases h)]
theorem rng_one {j : Int} (h0 : 0 ≤ j) (h : j < 2 ^ 60) : rngD [.int j] = some ((List.range j.toNat).map fun (k : Nat) => D.int (k : Int)) := by
  show (if _ then _ else _) = _
  rw [if_pos (by omega)]
theorem rng_get {n i : Nat} {d : D} (h : ((List.range n).map fun (k : Nat) => D.int (k : Int))[i]? = some d) : d = .int (i : Int) ∧ i < n := by
  have hi : i < ((List.range n).map fun (k : Nat) => D.int (k : Int)).length := (List.getElem?_eq_some_iff.mp h).1
  rw [List.getElem?_eq_getElem hi] at h
  simp at hi h
  exact ⟨h.symm, hi⟩
theorem rng_len {n : Nat} (h : n ≤ 1000000) : rngD [.int (n : Int)] = some ((List.range n).map fun (k : Nat) => D.int (k : Int)) := by
  have h0 : (0 : Int) ≤ (n : Int) := Int.natCast_nonneg n
  have h1 : (n : Int) < 2 ^ 60 := by omega
  rw [rng_one h0 h1, Int.toNat_natCast]
theorem rng_of {G : Gv} {L : Lcs} {S : Store} {as : CA} {ds is : List D} (h : evA G as L S = .ok ds S) (e : rngD ds = some is) : evI G (.rng as) L S = .ok (is, []) S := by
  rw [ev_rng, h, R.bind_ok, e]; rfl
theorem gc_bl {S S' : Store} {b : Bool} : ∃ S2, Mi.gc S (.bl b) S' = .ok (.bl b) S2 := by
  unfold Mi.gc
  by_cases h : (D.bl b).lt S.length = true ∧ Keep S S'
  · rw [if_pos h]; exact ⟨_, rfl⟩
  · rw [if_neg h]; exact ⟨_, rfl⟩
theorem pen_made {k : Nat} {ns : List Int} : semN T ct (k + 1) 0 [.ref 0] [.frz (ns.map .int)] = .ok (.ref 1) [.frz (ns.map .int), penC 2 0 0, .lst ((ns.take 63).map .int)] := by
  rw [sem_run (f := c0) rfl, runF_fin rfl]
  have hc : cutD (ns.map D.int) none (some 63) = (ns.take 63).map .int := by
    rw [cut_to _ (by omega), List.map_take]; rfl
  have hl : ∀ m, D.ltAll m ((ns.take 63).map .int) = true := fun m => ltAll_of fun d hd => by
    obtain ⟨i, _, rfl⟩ := List.mem_map.mp hd; rfl
  generalize hY : (ns.take 63).map D.int = Y at hc hl
  generalize ns.map D.int = Z at hc
  have s1 : slcD (.ref 0) none (some 63) [.frz Z, .dK []] = .ok (.ref 2) [.frz Z, .dK [], .lst Y] := by
    rw [slc_frz (ds := Z) rfl, hc]; rfl
  have g1 : Mi.gc [.frz Z, .dK []] (.ref 2) [.frz Z, .dK [], .lst Y] = .ok (.ref 2) [.frz Z, .dK [], .lst Y] := gc_new0 (S := [.frz Z, .dK []]) (T := [.lst Y]) (by simp) rfl (hl _)
  have g2 : Mi.gc [.frz Z, .dK []] (.ref 3) [.frz Z, .dK [], .lst Y, .lst Y] = .ok (.ref 2) [.frz Z, .dK [], .lst Y] := gc_new0 (S := [.frz Z, .dK []]) (T := [.lst Y, .lst Y]) (by simp) rfl (hl _)
  have l1 : biD .list [.ref 2] [.frz Z, .dK [], .lst Y] = .ok (.ref 3) [.frz Z, .dK [], .lst Y, .lst Y] := rfl
  have e : evE ⟨semN T ct k, ct⟩ (.dct (.cons (.cst (.str (Str.ofString "cells"))) (.cons (.bi .list (.cons (.slc (.loc 0) false (.cst .non) true (.cst (.int 63))) .nil)) (.cons (.cst (.str (Str.ofString "turn"))) (.cons (.cst (.int 0)) (.cons (.cst (.str (Str.ofString "rest"))) (.cons (.cst (.int 0)) .nil))))))) [some (.ref 0)] [.frz Z] = .ok (.ref 1) [.frz Z, penC 2 0 0, .lst Y] := by
    have a : evA ⟨semN T ct k, ct⟩ (.cons (.cst (.str (Str.ofString "cells"))) (.cons (.bi .list (.cons (.slc (.loc 0) false (.cst .non) true (.cst (.int 63))) .nil)) (.cons (.cst (.str (Str.ofString "turn"))) (.cons (.cst (.int 0)) (.cons (.cst (.str (Str.ofString "rest"))) (.cons (.cst (.int 0)) .nil)))))) [some (.ref 0)] [.frz Z, .dK []] = .ok [.str (Str.ofString "cells"), .ref 2, .str (Str.ofString "turn"), .int 0, .str (Str.ofString "rest"), .int 0] [.frz Z, .dK [], .lst Y] := by
      simp [s1, g1, g2, l1]
    show (evA _ _ _ [.frz Z, .dK []]).bind _ = _
    rw [a, R.bind_ok]
    have m : mergeD [] [(.inr (Str.ofString "cells"), .ref 2), (.inr (Str.ofString "turn"), .int 0), (.inr (Str.ofString "rest"), .int 0)] = [((.inr (Str.ofString "cells") : Key), D.ref 2), (.inr (Str.ofString "turn"), .int 0), (.inr (Str.ofString "rest"), .int 0)] := by
      have n1 : (Str.ofString "cells" = Str.ofString "turn") = False := eq_false (by decide +kernel)
      have n2 : (Str.ofString "cells" = Str.ofString "rest") = False := eq_false (by decide +kernel)
      have n3 : (Str.ofString "turn" = Str.ofString "rest") = False := eq_false (by decide +kernel)
      simp [mergeD, putD, n1, n2, n3]
    show (if 3 ≤ 15 then R.ok (D.ref 1) ([Cell.frz Z, .dK [], .lst Y].set 1 (.dK (mergeD [] [(.inr (Str.ofString "cells"), .ref 2), (.inr (Str.ofString "turn"), .int 0), (.inr (Str.ofString "rest"), .int 0)]))) else R.bad) = _
    rw [m, if_pos (by omega)]; rfl
  show (fin (exS _ (.ret (.dct _)) [some (.ref 0)] [.frz Z])).gc _ = _
  rw [ex_ret, e, R.bind_ok, fin_ret, R.gc_ok]
  exact gc_ref_keep (c := penC 2 0 0) rfl rfl (Nat.le_refl _)
theorem then_nil {G : Gv} {q : R (Fl × Lcs)} : thenS G .nil q = q := by
  cases q with
  | ok v S => obtain ⟨f, L⟩ := v; cases f <;> rfl
  | exc x S => rfl
  | bad => rfl
theorem filter_tt {α : Type} (l : List α) : l.filter (fun _ => true) = l := List.filter_eq_self.mpr fun _ _ => rfl
theorem lc_pureTA {G : Gv} {t : CT} {L0 : Lcs} {S : Store} {cnd e : CE} {g : Guard} {P : D → Bool} {f : D → D} {ld : D → Lcs} (hg : ∀ X, Gok g (S ++ X)) : ∀ (items acc : List D), acc.length + items.length < sizeLine →
    (∀ d ∈ items, ∀ xs, asgT t d (S ++ [.lst xs]) L0 = some (ld d) ∧ evE G cnd (ld d) (S ++ [.lst xs]) = .ok (.bl (P d)) (S ++ [.lst xs]) ∧ (P d = true → evE G e (ld d) (S ++ [.lst xs]) = .ok (f d) (S ++ [.lst xs]))) →
    lcLoop (lcF G t cnd e L0 S.length) g items (S ++ [.lst acc]) = .ok () (S ++ [.lst (acc ++ (items.filter P).map f)])
  | [], acc, _, _ => by
    simp only [lcLoop]
    rw [if_pos (hg _)]
    simp
  | d :: r, acc, hl, h => by
    obtain ⟨h0, h1, h2⟩ := h d (by simp) acc
    rw [List.length_cons] at hl
    simp only [lcLoop]
    rw [if_pos (hg _)]
    cases hP : P d with
    | false =>
      have q : lcF G t cnd e L0 S.length d (S ++ [.lst acc]) = .ok () (S ++ [.lst acc]) := by
        simp only [lcF, h0, ofO_some, R.bind_ok, h1, hP, ifB_f]
      rw [q, R.bind_ok, lc_pureTA hg r acc (by omega) fun d hd => h d (by simp [hd])]
      simp [hP]
    | true =>
      have ha : acc.length < sizeLine := by omega
      have q : lcF G t cnd e L0 S.length d (S ++ [.lst acc]) = .ok () (S ++ [.lst (acc ++ [f d])]) := by
        simp only [lcF, h0, ofO_some, R.bind_ok, h1, hP, ifB_t, h2 hP]
        simp [ha]
      rw [q, R.bind_ok, lc_pureTA hg r (acc ++ [f d]) (by simp; omega) fun d hd => h d (by simp [hd])]
      simp [hP]
theorem ev_lcT {G : Gv} {vs : List Nat} {t : CT} {it : CI} {L : Lcs} {S : Store} {cnd e : CE} {g : Guard} {items : List D} (P : D → Bool) (f : D → D) (ld : D → Lcs) (hi : evI G it L S = .ok (items, g) S) (hz : items.length ≤ 1000000) (hg : ∀ X, Gok g (S ++ X))
    (h : ∀ d ∈ items, ∀ xs, asgT t d (S ++ [.lst xs]) (wipeL L vs) = some (ld d) ∧ evE G cnd (ld d) (S ++ [.lst xs]) = .ok (.bl (P d)) (S ++ [.lst xs]) ∧ (P d = true → evE G e (ld d) (S ++ [.lst xs]) = .ok (f d) (S ++ [.lst xs])))
    (lt : ∀ d ∈ items, P d = true → (f d).lt S.length = true) :
    evE G (.lc vs t it cnd e) L S = .ok (.ref S.length) (S ++ [.lst ((items.filter P).map f)]) := by
  have q := lc_pureTA (f := f) hg items [] (by have := small_line hz; simpa using this) h
  rw [List.nil_append] at q
  rw [ev_lcE, hi, R.bind_ok, q, R.bind_ok, R.gc_ok]
  exact gc_new0 (Nat.le_refl _) (by simp) (ltAll_of fun y hy => by
    obtain ⟨d, hd, rfl⟩ := List.mem_map.mp hy
    exact lt d (List.mem_filter.mp hd).1 (List.mem_filter.mp hd).2)
theorem toPy_flat {j : Nat} {S S' : Store} {d : D} (h1 : ∀ ds, d ≠ .tup ds) (h2 : ∀ n, d ≠ .ref n) : toPy j S d = toPy j S' d := by
  cases d with
  | tup ds => exact absurd rfl (h1 ds)
  | ref n => exact absurd rfl (h2 n)
  | _ => cases j <;> rfl
theorem py_app {X : Store} : ∀ {k : Nat} {S : Store} {A : Nat → Prop} {d : D} {w : Nat}, Th k S A d w → ∀ j, toPy (j + k) (S ++ X) d = toPy (j + k) S d := by
  intro k
  induction k with
  | zero =>
    intro S A d w h j
    cases d with
    | tup ds => exact h.elim
    | ref n => exact h.elim
    | _ => exact toPy_flat (by intro _ h; cases h) (by intro _ h; cases h)
  | succ k ih =>
    intro S A d w h j
    have hm : ∀ dws : List (D × Nat), (∀ q ∈ dws, Th k S A q.1 q.2) → ((dws.map (·.1)).map (toPy (j + k) (S ++ X))) = (dws.map (·.1)).map (toPy (j + k) S) := by
      intro dws hq
      apply List.map_congr_left
      intro d hd
      obtain ⟨q, hqm, rfl⟩ := List.mem_map.mp hd
      exact ih (hq q hqm) j
    cases d with
    | tup ds =>
      obtain ⟨dws, rfl, h1, h2⟩ := Th.tup.mp h
      show (allSome ((dws.map (·.1)).map (toPy (j + k) (S ++ X)))).map PyData.tuple = (allSome ((dws.map (·.1)).map (toPy (j + k) S))).map PyData.tuple
      rw [hm dws h1]
    | ref n =>
      obtain ⟨_, h⟩ := Th.ref.mp h
      rcases h with ⟨dws, e, h1, h2⟩ | ⟨e, h2⟩ | ⟨e, h2⟩
      · have e' : (S ++ X)[n]? = some (.lst (dws.map (·.1))) := at_app e
        show toPy (j + k + 1) (S ++ X) (.ref n) = toPy (j + k + 1) S (.ref n)
        simp only [toPy, e, e', hm dws h1]
      · have e' : (S ++ X)[n]? = some (.dK []) := at_app e
        show toPy (j + k + 1) (S ++ X) (.ref n) = toPy (j + k + 1) S (.ref n)
        simp only [toPy, e, e']; rfl
      · have e' := at_app (T := X) e
        show toPy (j + k + 1) (S ++ X) (.ref n) = toPy (j + k + 1) S (.ref n)
        have t0 : ∀ V : Store, toPy (j + k) V (.int 0) = some (.int 0) := fun V => by cases (j + k) <;> rfl
        simp only [toPy, e, e', List.map_cons, List.map_nil, t0]
    | _ => exact toPy_flat (by intro _ h; cases h) (by intro _ h; cases h)
theorem repr_of {S : Store} {d : D} {q : PyData} (e : Mi.py S d = some q) (s : q.showable = true) (l : q.shown.length ≤ 16777216) : biD .repr [d] S = .ok (.str q.shown) S := by
  have hz : Mi.sizeOk q.shown.length = true := by rw [sizeOk_of]; exact decide_eq_true l
  simp only [biD, e, s, hz, and_self, if_true]
end K56
namespace K56
open PySem L2 Mi
theorem pow59 {S : Store} : binD .Pow (.int 10) (.int 59) S = .ok (.int 100000000000000000000000000000000000000000000000000000000000) S := by rw [bin_pow (by decide)] <;> rfl
theorem ev_dct0 {G : Gv} {L : Lcs} {S : Store} : evE G (.dct .nil) L S = .ok (.ref S.length) (S ++ [.dK []]) := by
  have e : (S ++ [Cell.dK []])[S.length]? = some (.dK []) := by simp
  show (match dctD [], (S ++ [Cell.dK []])[S.length]? with
    | some kvs, some (.dK []) => if kvs.length ≤ 15 then R.ok (D.ref S.length) ((S ++ [Cell.dK []]).set S.length (.dK (mergeD [] kvs))) else R.bad
    | _, _ => R.bad) = _
  rw [e]
  simp [dctD, mergeD]
theorem ev_dctA {G : Gv} {L : Lcs} {S : Store} : evE G (.dct (.cons (.cst (.str (Str.ofString "a"))) (.cons (.cst (.int 0)) .nil))) L S = .ok (.ref S.length) (S ++ [.dK [(.inr (Str.ofString "a"), .int 0)]]) := by
  have e : (S ++ [Cell.dK []])[S.length]? = some (.dK []) := by simp
  show (match dctD [.str (Str.ofString "a"), .int 0], (S ++ [Cell.dK []])[S.length]? with
    | some kvs, some (.dK []) => if kvs.length ≤ 15 then R.ok (D.ref S.length) ((S ++ [Cell.dK []]).set S.length (.dK (mergeD [] kvs))) else R.bad
    | _, _ => R.bad) = _
  rw [e]
  simp [dctD, keyOf, mergeD, putD]
abbrev sayA (w : String) : D := .tup [.str (Str.ofString "a"), .str (Str.ofString w), .int 0]
abbrev odd1 (N : Nat) : List D := [.non, .bl true, .bl false, .int 0, .int 1, .int (-1), .int 1000000000000000000, .int 100000000000000000000, .int (-100000000000000000000000000000000000000000000000000000000000), .str (Str.ofString ""), .str (Str.ofString "0"), .str (Str.ofString "a"), .str (Str.ofString "least"), .tup [], .tup [.int 0], .ref N, .ref (N + 1), .ref (N + 2)]
abbrev odd2 (N : Nat) : List D := [.tup [.non], .tup [.str (Str.ofString "a"), .int 0], sayA "least", .tup [sayA "least"], .ref (N + 4), .ref (N + 5), .tup [.tup []]]
abbrev odd3 : List D := [.tup [.tup [], .tup []], .tup [.str (Str.ofString "one"), sayA "least", sayA "most"], .tup [.str (Str.ofString "off"), .str (Str.ofString "a"), .str (Str.ofString "b"), .int 0]]
abbrev oddX (N : Nat) : List Cell := [.lst [], .lst [.int 0], .dK [], .lst (odd1 N), .lst [sayA "least"], .dK [(.inr (Str.ofString "a"), .int 0)], .lst (odd2 N), .lst (odd1 N ++ odd2 N)]
def OddS (F : List D → Store → R D) : Prop := ∀ (p c : Nat) (cs : List Int) (t r : Int) (S : Store), Pen p c cs t r S → Wf S → 0 ≤ t → t < 2 ^ 50 →
  ∃ d t' r' X, F [.ref p] S = .ok d (setPen S p c t' r' ++ X) ∧ Wf (setPen S p c t' r' ++ X) ∧ Th 4 (setPen S p c t' r' ++ X) (fun n => S.length ≤ n) d 3000 ∧ t ≤ t' ∧ t' ≤ t + 1
theorem odd_ok {k : Nat} : OddS (semN T ct (k + 3) 3) := by
  intro p c cs t r S hp wf h0 h1
  obtain ⟨d, t', r', e, hm, a, b⟩ := pick_ok (k := k) p c cs t r (S ++ oddX S.length ++ [.lst odd3, .lst (odd1 S.length ++ odd2 S.length ++ odd3)]) (S.length + 9) (odd1 S.length ++ odd2 S.length ++ odd3) (by rw [List.append_assoc]; exact hp.app _) (by simp) (by simp) (by simp) h0 (by omega)
  rw [List.append_assoc, setPen_app hp.plt] at e
  have a1 : binD .Add (.ref (S.length + 3)) (.ref (S.length + 6)) (S ++ [.lst [], .lst [.int 0], .dK [], .lst (odd1 S.length), .lst [sayA "least"], .dK [(.inr (Str.ofString "a"), .int 0)], .lst (odd2 S.length)]) = .ok (.ref (S.length + 7)) (S ++ oddX S.length) := by
    rw [add_lst (xs := odd1 S.length) (ys := odd2 S.length) (by simp) (by simp) (by simp)]; simp
  have a2 : binD .Add (.ref (S.length + 7)) (.ref (S.length + 8)) (S ++ (oddX S.length ++ [.lst odd3])) = .ok (.ref (S.length + 9)) (S ++ (oddX S.length ++ [.lst odd3, .lst (odd1 S.length ++ odd2 S.length ++ odd3)])) := by
    rw [add_lst (xs := odd1 S.length ++ odd2 S.length) (ys := odd3) (by simp) (by simp) (by simp)]; simp
  have hd : d.lt (S ++ oddX S.length).length = true := by
    refine ltAll_iff.mp ?_ d hm
    simp [D.lt, D.ltAll]
  have g1 : Mi.gc (S ++ oddX S.length) d (setPen S p c t' r' ++ (oddX S.length ++ [.lst odd3, .lst (odd1 S.length ++ odd2 S.length ++ odd3)])) = .ok d (setPen S p c t' r' ++ oddX S.length) := by
    have := (hp.app (oddX S.length)).gc (T := [.lst odd3, .lst (odd1 S.length ++ odd2 S.length ++ odd3)]) hd t' r'
    rw [setPen_app hp.plt, List.append_assoc] at this
    exact this
  have wf' : Wf (setPen S p c t' r' ++ oddX S.length) := Wf.app (wf.pen hp t' r') (by
    intro x hx
    simp at hx
    rcases hx with rfl | rfl | rfl | rfl | rfl | rfl | rfl | rfl <;> simp [Cell.lt, D.lt, D.ltAll])
  obtain ⟨d', X', eg, wf2, th⟩ := gc_thing hp wf t' r' (oddX S.length) wf' d
  refine ⟨d', t', r', X', ?_, wf2, ?_, a, b⟩
  · rw [sem_run (f := c3) rfl, runF_fin rfl]
    have q : ∃ L', exS ⟨semN T ct (k + 2), ct⟩ c3.body [some (.ref p), none] S = .ok (.ret d, L') (setPen S p c t' r' ++ oddX S.length) := by
      refine ⟨[some (.ref p), some (.ref (S.length + 7))], ?_⟩
      simp only [odd1, odd2, odd3, oddX, sayA, List.cons_append, List.nil_append] at a1 a2 g1 e
      simp [c3, newC, pow59, ev_dct0, ev_dctA, Nat.add_assoc, a1, a2, e, g1]
    obtain ⟨L', q⟩ := q
    show (fin (exS _ c3.body [some (.ref p), none] S)).gc S = _
    rw [q, fin_ret, R.gc_ok, eg]
  · have h := th 4 (fun _ => False) 3000 ?_
    · exact h.mono (Nat.le_refl _) (Nat.le_refl _) (fun n h => h.resolve_left id) fun _ _ _ h => h
    · simp only [odd1, odd2, odd3, List.cons_append, List.nil_append, List.mem_cons, List.not_mem_nil, or_false] at hm
      have cc0 : (setPen S p c t' r' ++ oddX S.length)[S.length]? = some (.lst []) := by simp
      have cc1 : (setPen S p c t' r' ++ oddX S.length)[S.length + 1]? = some (.lst [.int 0]) := by simp
      have cc2 : (setPen S p c t' r' ++ oddX S.length)[S.length + 2]? = some (.dK []) := by simp
      have cc4 : (setPen S p c t' r' ++ oddX S.length)[S.length + 4]? = some (.lst [sayA "least"]) := by
        rw [List.getElem?_append_right (by simp)]; simp
      have cc5 : (setPen S p c t' r' ++ oddX S.length)[S.length + 5]? = some (.dK [(.inr (Str.ofString "a"), .int 0)]) := by
        rw [List.getElem?_append_right (by simp)]; simp
      rcases hm with rfl | rfl | rfl | rfl | rfl | rfl | rfl | rfl | rfl | rfl | rfl | rfl | rfl | rfl | rfl | rfl | rfl | rfl | rfl | rfl | rfl | rfl | rfl | rfl | rfl | rfl | rfl | rfl
      all_goals first
        | exact chk_le (by decide +kernel)
        | exact Th.ref.mpr ⟨.inr (by omega), .inl ⟨[], cc0, by simp, by simp⟩⟩
        | exact Th.ref.mpr ⟨.inr (by omega), .inl ⟨[(.int 0, 250)], cc1, by intro q hq; simp at hq; subst hq; exact chk_le (by decide +kernel), by simp⟩⟩
        | exact Th.ref.mpr ⟨.inr (by omega), .inr (.inl ⟨cc2, by omega⟩)⟩
        | exact Th.ref.mpr ⟨.inr (by omega), .inl ⟨[(sayA "least", 1000)], cc4, by intro q hq; simp at hq; subst hq; exact chk_le (by decide +kernel), by simp⟩⟩
        | exact Th.ref.mpr ⟨.inr (by omega), .inr (.inr ⟨cc5, by omega⟩)⟩
end K56
namespace K56
open PySem L2 Mi
theorem ev_mkx {G : Gv} {L : Lcs} {S : Store} {x : Str} : evE G (.mkx x) L S = newC (.exc x) S := rfl
theorem ev_mkf {G : Gv} {L : Lcs} {S : Store} {x f : Str} {e : CE} : evE G (.mkf x f e) L S = (evE G e L S).bind fun d S1 => newC (.exv x f d) S1 := rfl
theorem ev_fld {G : Gv} {L : Lcs} {S : Store} {f : Str} {e : CE} : evE G (.fld e f) L S = (evE G e L S).bind fun d S1 => fldD d f S1 := rfl
theorem ev_isx {G : Gv} {L : Lcs} {S : Store} {e : CE} {t : List (Str × Bool)} : evE G (.isx e t) L S = (evE G e L S).bind fun d S1 => isxD d t S1 := rfl
abbrev refs (N : Nat) : List D := [.ref N, .ref (N + 1), .ref (N + 2), .ref (N + 3), .ref (N + 4), .ref (N + 5), .ref (N + 6), .ref (N + 8), .ref (N + 9), .ref (N + 10), .ref (N + 11), .ref (N + 12), .ref (N + 13), .ref (N + 14), .ref (N + 15), .ref (N + 18), .ref (N + 19), .ref (N + 20), .ref (N + 21), .ref (N + 22), .ref (N + 23), .ref (N + 24), .ref (N + 25), .ref (N + 26), .ref (N + 29), .ref (N + 30), .ref (N + 31), .ref (N + 32), .ref (N + 33), .ref (N + 34)]
abbrev madeX (N : Nat) (d : D) : List Cell := [.exv (Str.ofString "NoHouse") (Str.ofString "fault") d, .exv (Str.ofString "NoWalk") (Str.ofString "nth") d, .exv (Str.ofString "NoText") (Str.ofString "row") d, .exv (Str.ofString "TooLong") (Str.ofString "most") d, .exv (Str.ofString "TooStrong") (Str.ofString "strength") d, .exv (Str.ofString "Weak") (Str.ofString "strength") d, .exv (Str.ofString "Poor") (Str.ofString "price") d, .lst [.ref N, .ref (N + 1), .ref (N + 2), .ref (N + 3), .ref (N + 4), .ref (N + 5), .ref (N + 6)], .exc (Str.ofString "NoNumbers"), .exc (Str.ofString "NoStanding"), .exc (Str.ofString "NoWish"), .exc (Str.ofString "NoWishes"), .exc (Str.ofString "NoStrength"), .exc (Str.ofString "NoPlace"), .exc (Str.ofString "NoDial"), .exc (Str.ofString "NoReason"), .lst [.ref (N + 8), .ref (N + 9), .ref (N + 10), .ref (N + 11), .ref (N + 12), .ref (N + 13), .ref (N + 14), .ref (N + 15)], .lst [.ref N, .ref (N + 1), .ref (N + 2), .ref (N + 3), .ref (N + 4), .ref (N + 5), .ref (N + 6), .ref (N + 8), .ref (N + 9), .ref (N + 10), .ref (N + 11), .ref (N + 12), .ref (N + 13), .ref (N + 14), .ref (N + 15)], .exc (Str.ofString "NoBeat"), .exc (Str.ofString "NoNumber"), .exc (Str.ofString "NoHands"), .exc (Str.ofString "NoRule"), .exc (Str.ofString "NoDeed"), .exc (Str.ofString "NoPrice"), .exc (Str.ofString "NoChain"), .exc (Str.ofString "NoRow"), .exc (Str.ofString "TooWide"), .lst [.ref (N + 18), .ref (N + 19), .ref (N + 20), .ref (N + 21), .ref (N + 22), .ref (N + 23), .ref (N + 24), .ref (N + 25), .ref (N + 26)], .lst [.ref N, .ref (N + 1), .ref (N + 2), .ref (N + 3), .ref (N + 4), .ref (N + 5), .ref (N + 6), .ref (N + 8), .ref (N + 9), .ref (N + 10), .ref (N + 11), .ref (N + 12), .ref (N + 13), .ref (N + 14), .ref (N + 15), .ref (N + 18), .ref (N + 19), .ref (N + 20), .ref (N + 21), .ref (N + 22), .ref (N + 23), .ref (N + 24), .ref (N + 25), .ref (N + 26)], .exc (Str.ofString "Never"), .exc (Str.ofString "Taken"), .exc (Str.ofString "Broken"), .exc (Str.ofString "Unlike"), .exc (Str.ofString "NothingDone"), .exc (Str.ofString "NotYet"), .lst [.ref (N + 29), .ref (N + 30), .ref (N + 31), .ref (N + 32), .ref (N + 33), .ref (N + 34)], .lst [.ref N, .ref (N + 1), .ref (N + 2), .ref (N + 3), .ref (N + 4), .ref (N + 5), .ref (N + 6), .ref (N + 8), .ref (N + 9), .ref (N + 10), .ref (N + 11), .ref (N + 12), .ref (N + 13), .ref (N + 14), .ref (N + 15), .ref (N + 18), .ref (N + 19), .ref (N + 20), .ref (N + 21), .ref (N + 22), .ref (N + 23), .ref (N + 24), .ref (N + 25), .ref (N + 26), .ref (N + 29), .ref (N + 30), .ref (N + 31), .ref (N + 32), .ref (N + 33), .ref (N + 34)]]
theorem made_ok {k : Nat} {S : Store} {d : D} : semN T ct (k + 1) 6 [d] S = .ok (.ref (S.length + 36)) (S ++ madeX S.length d) := by
  have a1 : binD .Add (.ref (S.length + 7)) (.ref (S.length + 16)) (S ++ [.exv (Str.ofString "NoHouse") (Str.ofString "fault") d, .exv (Str.ofString "NoWalk") (Str.ofString "nth") d, .exv (Str.ofString "NoText") (Str.ofString "row") d, .exv (Str.ofString "TooLong") (Str.ofString "most") d, .exv (Str.ofString "TooStrong") (Str.ofString "strength") d, .exv (Str.ofString "Weak") (Str.ofString "strength") d, .exv (Str.ofString "Poor") (Str.ofString "price") d, .lst [.ref S.length, .ref (S.length + 1), .ref (S.length + 2), .ref (S.length + 3), .ref (S.length + 4), .ref (S.length + 5), .ref (S.length + 6)], .exc (Str.ofString "NoNumbers"), .exc (Str.ofString "NoStanding"), .exc (Str.ofString "NoWish"), .exc (Str.ofString "NoWishes"), .exc (Str.ofString "NoStrength"), .exc (Str.ofString "NoPlace"), .exc (Str.ofString "NoDial"), .exc (Str.ofString "NoReason"), .lst [.ref (S.length + 8), .ref (S.length + 9), .ref (S.length + 10), .ref (S.length + 11), .ref (S.length + 12), .ref (S.length + 13), .ref (S.length + 14), .ref (S.length + 15)]]) = .ok (.ref (S.length + 17)) (S ++ [.exv (Str.ofString "NoHouse") (Str.ofString "fault") d, .exv (Str.ofString "NoWalk") (Str.ofString "nth") d, .exv (Str.ofString "NoText") (Str.ofString "row") d, .exv (Str.ofString "TooLong") (Str.ofString "most") d, .exv (Str.ofString "TooStrong") (Str.ofString "strength") d, .exv (Str.ofString "Weak") (Str.ofString "strength") d, .exv (Str.ofString "Poor") (Str.ofString "price") d, .lst [.ref S.length, .ref (S.length + 1), .ref (S.length + 2), .ref (S.length + 3), .ref (S.length + 4), .ref (S.length + 5), .ref (S.length + 6)], .exc (Str.ofString "NoNumbers"), .exc (Str.ofString "NoStanding"), .exc (Str.ofString "NoWish"), .exc (Str.ofString "NoWishes"), .exc (Str.ofString "NoStrength"), .exc (Str.ofString "NoPlace"), .exc (Str.ofString "NoDial"), .exc (Str.ofString "NoReason"), .lst [.ref (S.length + 8), .ref (S.length + 9), .ref (S.length + 10), .ref (S.length + 11), .ref (S.length + 12), .ref (S.length + 13), .ref (S.length + 14), .ref (S.length + 15)], .lst [.ref S.length, .ref (S.length + 1), .ref (S.length + 2), .ref (S.length + 3), .ref (S.length + 4), .ref (S.length + 5), .ref (S.length + 6), .ref (S.length + 8), .ref (S.length + 9), .ref (S.length + 10), .ref (S.length + 11), .ref (S.length + 12), .ref (S.length + 13), .ref (S.length + 14), .ref (S.length + 15)]]) := by
    rw [add_lst (xs := [.ref S.length, .ref (S.length + 1), .ref (S.length + 2), .ref (S.length + 3), .ref (S.length + 4), .ref (S.length + 5), .ref (S.length + 6)]) (ys := [.ref (S.length + 8), .ref (S.length + 9), .ref (S.length + 10), .ref (S.length + 11), .ref (S.length + 12), .ref (S.length + 13), .ref (S.length + 14), .ref (S.length + 15)]) (by simp) (by simp) (by simp)]; simp
  have a2 : binD .Add (.ref (S.length + 17)) (.ref (S.length + 27)) (S ++ [.exv (Str.ofString "NoHouse") (Str.ofString "fault") d, .exv (Str.ofString "NoWalk") (Str.ofString "nth") d, .exv (Str.ofString "NoText") (Str.ofString "row") d, .exv (Str.ofString "TooLong") (Str.ofString "most") d, .exv (Str.ofString "TooStrong") (Str.ofString "strength") d, .exv (Str.ofString "Weak") (Str.ofString "strength") d, .exv (Str.ofString "Poor") (Str.ofString "price") d, .lst [.ref S.length, .ref (S.length + 1), .ref (S.length + 2), .ref (S.length + 3), .ref (S.length + 4), .ref (S.length + 5), .ref (S.length + 6)], .exc (Str.ofString "NoNumbers"), .exc (Str.ofString "NoStanding"), .exc (Str.ofString "NoWish"), .exc (Str.ofString "NoWishes"), .exc (Str.ofString "NoStrength"), .exc (Str.ofString "NoPlace"), .exc (Str.ofString "NoDial"), .exc (Str.ofString "NoReason"), .lst [.ref (S.length + 8), .ref (S.length + 9), .ref (S.length + 10), .ref (S.length + 11), .ref (S.length + 12), .ref (S.length + 13), .ref (S.length + 14), .ref (S.length + 15)], .lst [.ref S.length, .ref (S.length + 1), .ref (S.length + 2), .ref (S.length + 3), .ref (S.length + 4), .ref (S.length + 5), .ref (S.length + 6), .ref (S.length + 8), .ref (S.length + 9), .ref (S.length + 10), .ref (S.length + 11), .ref (S.length + 12), .ref (S.length + 13), .ref (S.length + 14), .ref (S.length + 15)], .exc (Str.ofString "NoBeat"), .exc (Str.ofString "NoNumber"), .exc (Str.ofString "NoHands"), .exc (Str.ofString "NoRule"), .exc (Str.ofString "NoDeed"), .exc (Str.ofString "NoPrice"), .exc (Str.ofString "NoChain"), .exc (Str.ofString "NoRow"), .exc (Str.ofString "TooWide"), .lst [.ref (S.length + 18), .ref (S.length + 19), .ref (S.length + 20), .ref (S.length + 21), .ref (S.length + 22), .ref (S.length + 23), .ref (S.length + 24), .ref (S.length + 25), .ref (S.length + 26)]]) = .ok (.ref (S.length + 28)) (S ++ [.exv (Str.ofString "NoHouse") (Str.ofString "fault") d, .exv (Str.ofString "NoWalk") (Str.ofString "nth") d, .exv (Str.ofString "NoText") (Str.ofString "row") d, .exv (Str.ofString "TooLong") (Str.ofString "most") d, .exv (Str.ofString "TooStrong") (Str.ofString "strength") d, .exv (Str.ofString "Weak") (Str.ofString "strength") d, .exv (Str.ofString "Poor") (Str.ofString "price") d, .lst [.ref S.length, .ref (S.length + 1), .ref (S.length + 2), .ref (S.length + 3), .ref (S.length + 4), .ref (S.length + 5), .ref (S.length + 6)], .exc (Str.ofString "NoNumbers"), .exc (Str.ofString "NoStanding"), .exc (Str.ofString "NoWish"), .exc (Str.ofString "NoWishes"), .exc (Str.ofString "NoStrength"), .exc (Str.ofString "NoPlace"), .exc (Str.ofString "NoDial"), .exc (Str.ofString "NoReason"), .lst [.ref (S.length + 8), .ref (S.length + 9), .ref (S.length + 10), .ref (S.length + 11), .ref (S.length + 12), .ref (S.length + 13), .ref (S.length + 14), .ref (S.length + 15)], .lst [.ref S.length, .ref (S.length + 1), .ref (S.length + 2), .ref (S.length + 3), .ref (S.length + 4), .ref (S.length + 5), .ref (S.length + 6), .ref (S.length + 8), .ref (S.length + 9), .ref (S.length + 10), .ref (S.length + 11), .ref (S.length + 12), .ref (S.length + 13), .ref (S.length + 14), .ref (S.length + 15)], .exc (Str.ofString "NoBeat"), .exc (Str.ofString "NoNumber"), .exc (Str.ofString "NoHands"), .exc (Str.ofString "NoRule"), .exc (Str.ofString "NoDeed"), .exc (Str.ofString "NoPrice"), .exc (Str.ofString "NoChain"), .exc (Str.ofString "NoRow"), .exc (Str.ofString "TooWide"), .lst [.ref (S.length + 18), .ref (S.length + 19), .ref (S.length + 20), .ref (S.length + 21), .ref (S.length + 22), .ref (S.length + 23), .ref (S.length + 24), .ref (S.length + 25), .ref (S.length + 26)], .lst [.ref S.length, .ref (S.length + 1), .ref (S.length + 2), .ref (S.length + 3), .ref (S.length + 4), .ref (S.length + 5), .ref (S.length + 6), .ref (S.length + 8), .ref (S.length + 9), .ref (S.length + 10), .ref (S.length + 11), .ref (S.length + 12), .ref (S.length + 13), .ref (S.length + 14), .ref (S.length + 15), .ref (S.length + 18), .ref (S.length + 19), .ref (S.length + 20), .ref (S.length + 21), .ref (S.length + 22), .ref (S.length + 23), .ref (S.length + 24), .ref (S.length + 25), .ref (S.length + 26)]]) := by
    rw [add_lst (xs := [.ref S.length, .ref (S.length + 1), .ref (S.length + 2), .ref (S.length + 3), .ref (S.length + 4), .ref (S.length + 5), .ref (S.length + 6), .ref (S.length + 8), .ref (S.length + 9), .ref (S.length + 10), .ref (S.length + 11), .ref (S.length + 12), .ref (S.length + 13), .ref (S.length + 14), .ref (S.length + 15)]) (ys := [.ref (S.length + 18), .ref (S.length + 19), .ref (S.length + 20), .ref (S.length + 21), .ref (S.length + 22), .ref (S.length + 23), .ref (S.length + 24), .ref (S.length + 25), .ref (S.length + 26)]) (by simp) (by simp) (by simp)]; simp
  have a3 : binD .Add (.ref (S.length + 28)) (.ref (S.length + 35)) (S ++ [.exv (Str.ofString "NoHouse") (Str.ofString "fault") d, .exv (Str.ofString "NoWalk") (Str.ofString "nth") d, .exv (Str.ofString "NoText") (Str.ofString "row") d, .exv (Str.ofString "TooLong") (Str.ofString "most") d, .exv (Str.ofString "TooStrong") (Str.ofString "strength") d, .exv (Str.ofString "Weak") (Str.ofString "strength") d, .exv (Str.ofString "Poor") (Str.ofString "price") d, .lst [.ref S.length, .ref (S.length + 1), .ref (S.length + 2), .ref (S.length + 3), .ref (S.length + 4), .ref (S.length + 5), .ref (S.length + 6)], .exc (Str.ofString "NoNumbers"), .exc (Str.ofString "NoStanding"), .exc (Str.ofString "NoWish"), .exc (Str.ofString "NoWishes"), .exc (Str.ofString "NoStrength"), .exc (Str.ofString "NoPlace"), .exc (Str.ofString "NoDial"), .exc (Str.ofString "NoReason"), .lst [.ref (S.length + 8), .ref (S.length + 9), .ref (S.length + 10), .ref (S.length + 11), .ref (S.length + 12), .ref (S.length + 13), .ref (S.length + 14), .ref (S.length + 15)], .lst [.ref S.length, .ref (S.length + 1), .ref (S.length + 2), .ref (S.length + 3), .ref (S.length + 4), .ref (S.length + 5), .ref (S.length + 6), .ref (S.length + 8), .ref (S.length + 9), .ref (S.length + 10), .ref (S.length + 11), .ref (S.length + 12), .ref (S.length + 13), .ref (S.length + 14), .ref (S.length + 15)], .exc (Str.ofString "NoBeat"), .exc (Str.ofString "NoNumber"), .exc (Str.ofString "NoHands"), .exc (Str.ofString "NoRule"), .exc (Str.ofString "NoDeed"), .exc (Str.ofString "NoPrice"), .exc (Str.ofString "NoChain"), .exc (Str.ofString "NoRow"), .exc (Str.ofString "TooWide"), .lst [.ref (S.length + 18), .ref (S.length + 19), .ref (S.length + 20), .ref (S.length + 21), .ref (S.length + 22), .ref (S.length + 23), .ref (S.length + 24), .ref (S.length + 25), .ref (S.length + 26)], .lst [.ref S.length, .ref (S.length + 1), .ref (S.length + 2), .ref (S.length + 3), .ref (S.length + 4), .ref (S.length + 5), .ref (S.length + 6), .ref (S.length + 8), .ref (S.length + 9), .ref (S.length + 10), .ref (S.length + 11), .ref (S.length + 12), .ref (S.length + 13), .ref (S.length + 14), .ref (S.length + 15), .ref (S.length + 18), .ref (S.length + 19), .ref (S.length + 20), .ref (S.length + 21), .ref (S.length + 22), .ref (S.length + 23), .ref (S.length + 24), .ref (S.length + 25), .ref (S.length + 26)], .exc (Str.ofString "Never"), .exc (Str.ofString "Taken"), .exc (Str.ofString "Broken"), .exc (Str.ofString "Unlike"), .exc (Str.ofString "NothingDone"), .exc (Str.ofString "NotYet"), .lst [.ref (S.length + 29), .ref (S.length + 30), .ref (S.length + 31), .ref (S.length + 32), .ref (S.length + 33), .ref (S.length + 34)]]) = .ok (.ref (S.length + 36)) (S ++ [.exv (Str.ofString "NoHouse") (Str.ofString "fault") d, .exv (Str.ofString "NoWalk") (Str.ofString "nth") d, .exv (Str.ofString "NoText") (Str.ofString "row") d, .exv (Str.ofString "TooLong") (Str.ofString "most") d, .exv (Str.ofString "TooStrong") (Str.ofString "strength") d, .exv (Str.ofString "Weak") (Str.ofString "strength") d, .exv (Str.ofString "Poor") (Str.ofString "price") d, .lst [.ref S.length, .ref (S.length + 1), .ref (S.length + 2), .ref (S.length + 3), .ref (S.length + 4), .ref (S.length + 5), .ref (S.length + 6)], .exc (Str.ofString "NoNumbers"), .exc (Str.ofString "NoStanding"), .exc (Str.ofString "NoWish"), .exc (Str.ofString "NoWishes"), .exc (Str.ofString "NoStrength"), .exc (Str.ofString "NoPlace"), .exc (Str.ofString "NoDial"), .exc (Str.ofString "NoReason"), .lst [.ref (S.length + 8), .ref (S.length + 9), .ref (S.length + 10), .ref (S.length + 11), .ref (S.length + 12), .ref (S.length + 13), .ref (S.length + 14), .ref (S.length + 15)], .lst [.ref S.length, .ref (S.length + 1), .ref (S.length + 2), .ref (S.length + 3), .ref (S.length + 4), .ref (S.length + 5), .ref (S.length + 6), .ref (S.length + 8), .ref (S.length + 9), .ref (S.length + 10), .ref (S.length + 11), .ref (S.length + 12), .ref (S.length + 13), .ref (S.length + 14), .ref (S.length + 15)], .exc (Str.ofString "NoBeat"), .exc (Str.ofString "NoNumber"), .exc (Str.ofString "NoHands"), .exc (Str.ofString "NoRule"), .exc (Str.ofString "NoDeed"), .exc (Str.ofString "NoPrice"), .exc (Str.ofString "NoChain"), .exc (Str.ofString "NoRow"), .exc (Str.ofString "TooWide"), .lst [.ref (S.length + 18), .ref (S.length + 19), .ref (S.length + 20), .ref (S.length + 21), .ref (S.length + 22), .ref (S.length + 23), .ref (S.length + 24), .ref (S.length + 25), .ref (S.length + 26)], .lst [.ref S.length, .ref (S.length + 1), .ref (S.length + 2), .ref (S.length + 3), .ref (S.length + 4), .ref (S.length + 5), .ref (S.length + 6), .ref (S.length + 8), .ref (S.length + 9), .ref (S.length + 10), .ref (S.length + 11), .ref (S.length + 12), .ref (S.length + 13), .ref (S.length + 14), .ref (S.length + 15), .ref (S.length + 18), .ref (S.length + 19), .ref (S.length + 20), .ref (S.length + 21), .ref (S.length + 22), .ref (S.length + 23), .ref (S.length + 24), .ref (S.length + 25), .ref (S.length + 26)], .exc (Str.ofString "Never"), .exc (Str.ofString "Taken"), .exc (Str.ofString "Broken"), .exc (Str.ofString "Unlike"), .exc (Str.ofString "NothingDone"), .exc (Str.ofString "NotYet"), .lst [.ref (S.length + 29), .ref (S.length + 30), .ref (S.length + 31), .ref (S.length + 32), .ref (S.length + 33), .ref (S.length + 34)], .lst [.ref S.length, .ref (S.length + 1), .ref (S.length + 2), .ref (S.length + 3), .ref (S.length + 4), .ref (S.length + 5), .ref (S.length + 6), .ref (S.length + 8), .ref (S.length + 9), .ref (S.length + 10), .ref (S.length + 11), .ref (S.length + 12), .ref (S.length + 13), .ref (S.length + 14), .ref (S.length + 15), .ref (S.length + 18), .ref (S.length + 19), .ref (S.length + 20), .ref (S.length + 21), .ref (S.length + 22), .ref (S.length + 23), .ref (S.length + 24), .ref (S.length + 25), .ref (S.length + 26), .ref (S.length + 29), .ref (S.length + 30), .ref (S.length + 31), .ref (S.length + 32), .ref (S.length + 33), .ref (S.length + 34)]]) := by
    rw [add_lst (xs := [.ref S.length, .ref (S.length + 1), .ref (S.length + 2), .ref (S.length + 3), .ref (S.length + 4), .ref (S.length + 5), .ref (S.length + 6), .ref (S.length + 8), .ref (S.length + 9), .ref (S.length + 10), .ref (S.length + 11), .ref (S.length + 12), .ref (S.length + 13), .ref (S.length + 14), .ref (S.length + 15), .ref (S.length + 18), .ref (S.length + 19), .ref (S.length + 20), .ref (S.length + 21), .ref (S.length + 22), .ref (S.length + 23), .ref (S.length + 24), .ref (S.length + 25), .ref (S.length + 26)]) (ys := [.ref (S.length + 29), .ref (S.length + 30), .ref (S.length + 31), .ref (S.length + 32), .ref (S.length + 33), .ref (S.length + 34)]) (by simp) (by simp) (by simp)]; simp
  rw [sem_run (f := c6) rfl, runF_fin rfl]
  have q : ∃ L', exS ⟨semN T ct k, ct⟩ c6.body [some d, none] S = .ok (.ret (.ref (S.length + 36)), L') (S ++ madeX S.length d) := by
    refine ⟨[some d, some (.ref (S.length + 28))], ?_⟩
    simp [c6, newC, ev_mkx, ev_mkf, Nat.add_assoc, a1, a2, a3]
  obtain ⟨L', q⟩ := q
  show (fin (exS _ c6.body [some d, none] S)).gc S = _
  rw [q, fin_ret, R.gc_ok]
  exact gc_ref_keep (c := .lst (refs S.length)) (by simp) (by simp [Cell.lt, D.ltAll, D.lt]) (by omega)
theorem fields_ok {k : Nat} {S : Store} {m N : Nat} {d : D} (hm : S[m]? = some (.lst (refs N))) (hd : d.lt S.length = true) (h0 : S[N]? = some (.exv (Str.ofString "NoHouse") (Str.ofString "fault") d)) (h1 : S[N + 1]? = some (.exv (Str.ofString "NoWalk") (Str.ofString "nth") d)) (h2 : S[N + 2]? = some (.exv (Str.ofString "NoText") (Str.ofString "row") d)) (h3 : S[N + 3]? = some (.exv (Str.ofString "TooLong") (Str.ofString "most") d)) (h4 : S[N + 4]? = some (.exv (Str.ofString "TooStrong") (Str.ofString "strength") d)) (h5 : S[N + 5]? = some (.exv (Str.ofString "Weak") (Str.ofString "strength") d)) (h6 : S[N + 6]? = some (.exv (Str.ofString "Poor") (Str.ofString "price") d)) :
    semN T ct (k + 1) 7 [.ref m] S = .ok (.ref S.length) (S ++ [.lst [d, d, d, d, d, d, d]]) := by
  have i0 : idxD (.ref m) (.int 0) S = .ok (.ref (N)) S := idx_lst hm rfl
  have f0 : fldD (.ref (N)) (Str.ofString "fault") S = .ok d S := by simp [fldD, h0]
  have i1 : idxD (.ref m) (.int 1) S = .ok (.ref (N + 1)) S := idx_lst hm rfl
  have f1 : fldD (.ref (N + 1)) (Str.ofString "nth") S = .ok d S := by simp [fldD, h1]
  have i2 : idxD (.ref m) (.int 2) S = .ok (.ref (N + 2)) S := idx_lst hm rfl
  have f2 : fldD (.ref (N + 2)) (Str.ofString "row") S = .ok d S := by simp [fldD, h2]
  have i3 : idxD (.ref m) (.int 3) S = .ok (.ref (N + 3)) S := idx_lst hm rfl
  have f3 : fldD (.ref (N + 3)) (Str.ofString "most") S = .ok d S := by simp [fldD, h3]
  have i4 : idxD (.ref m) (.int 4) S = .ok (.ref (N + 4)) S := idx_lst hm rfl
  have f4 : fldD (.ref (N + 4)) (Str.ofString "strength") S = .ok d S := by simp [fldD, h4]
  have i5 : idxD (.ref m) (.int 5) S = .ok (.ref (N + 5)) S := idx_lst hm rfl
  have f5 : fldD (.ref (N + 5)) (Str.ofString "strength") S = .ok d S := by simp [fldD, h5]
  have i6 : idxD (.ref m) (.int 6) S = .ok (.ref (N + 6)) S := idx_lst hm rfl
  have f6 : fldD (.ref (N + 6)) (Str.ofString "price") S = .ok d S := by simp [fldD, h6]
  have j6 : idxD (.ref m) (.int 6) (S ++ [.lst [d, d, d, d, d, d]]) = .ok (.ref (N + 6)) (S ++ [.lst [d, d, d, d, d, d]]) := idx_lst (at_app hm) rfl
  have g6 : fldD (.ref (N + 6)) (Str.ofString "price") (S ++ [.lst [d, d, d, d, d, d]]) = .ok d (S ++ [.lst [d, d, d, d, d, d]]) := by simp only [fldD, at_app (T := [.lst [d, d, d, d, d, d]]) h6, if_true]
  have a1 : binD .Add (.ref S.length) (.ref (S.length + 1)) (S ++ [.lst [d, d, d, d, d, d], .lst [d]]) = .ok (.ref (S.length + 2)) (S ++ [.lst [d, d, d, d, d, d], .lst [d], .lst [d, d, d, d, d, d, d]]) := by
    rw [add_lst (xs := [d, d, d, d, d, d]) (ys := [d]) (by simp) (by simp) (by simp)]; simp
  rw [sem_run (f := c7) rfl, runF_fin rfl]
  have q : ∃ L', exS ⟨semN T ct k, ct⟩ c7.body [some (.ref m), none] S = .ok (.ret (.ref (S.length + 2)), L') (S ++ [.lst [d, d, d, d, d, d], .lst [d], .lst [d, d, d, d, d, d, d]]) := by
    refine ⟨[some (.ref m), some (.ref S.length)], ?_⟩
    simp [c7, newC, ev_fld, i0, i1, i2, i3, i4, i5, f0, f1, f2, f3, f4, f5, j6, g6, gc_same, a1]
  obtain ⟨L', q⟩ := q
  show (fin (exS _ c7.body [some (.ref m), none] S)).gc S = _
  rw [q, fin_ret, R.gc_ok]
  exact gc_new0 (by omega) (by simp) (ltAll_of fun y hy => by
    simp at hy
    rw [hy]; exact hd)
end K56
namespace K56
open PySem L2 Mi
/-- an exception of class x is held at n -/
def Held (n : Nat) (x : Str) (S : Store) : Prop := ∀ X tab b, tab.lookup x = some b → isxD (.ref n) tab (S ++ X) = .ok (.bl b) (S ++ X)
theorem Held.app {n : Nat} {x : Str} {S : Store} (h : Held n x S) (X : Store) : Held n x (S ++ X) := fun Y tab b e => by rw [List.append_assoc]; exact h _ tab b e
theorem held_c {n : Nat} {x : Str} {S : Store} (h : S[n]? = some (.exc x)) : Held n x S := fun X tab b e => by simp only [isxD, at_app (T := X) h, e]
theorem held_v {n : Nat} {x f : Str} {d : D} {S : Store} (h : S[n]? = some (.exv x f d)) : Held n x S := fun X tab b e => by simp only [isxD, at_app (T := X) h, e]
abbrev marksB (t0 t1 t2 t3 t4 t5 t6 t7 t8 t9 t10 t11 t12 t13 t14 t15 t16 t17 t18 t19 t20 t21 t22 t23 t24 t25 t26 t27 t28 t29 : List (Str × Bool)) : CSs := (.asg (.nm 1) (.lst (.cons (.isx (.loc 0) t0) (.cons (.isx (.loc 0) t1) (.cons (.isx (.loc 0) t2) (.cons (.isx (.loc 0) t3) .nil))))) (.asg (.nm 1) (.bin .Add (.loc 1) (.lst (.cons (.isx (.loc 0) t4) (.cons (.isx (.loc 0) t5) (.cons (.isx (.loc 0) t6) (.cons (.isx (.loc 0) t7) .nil)))))) (.asg (.nm 1) (.bin .Add (.loc 1) (.lst (.cons (.isx (.loc 0) t8) (.cons (.isx (.loc 0) t9) (.cons (.isx (.loc 0) t10) (.cons (.isx (.loc 0) t11) .nil)))))) (.asg (.nm 1) (.bin .Add (.loc 1) (.lst (.cons (.isx (.loc 0) t12) (.cons (.isx (.loc 0) t13) (.cons (.isx (.loc 0) t14) (.cons (.isx (.loc 0) t15) .nil)))))) (.asg (.nm 1) (.bin .Add (.loc 1) (.lst (.cons (.isx (.loc 0) t16) (.cons (.isx (.loc 0) t17) (.cons (.isx (.loc 0) t18) (.cons (.isx (.loc 0) t19) .nil)))))) (.asg (.nm 1) (.bin .Add (.loc 1) (.lst (.cons (.isx (.loc 0) t20) (.cons (.isx (.loc 0) t21) (.cons (.isx (.loc 0) t22) (.cons (.isx (.loc 0) t23) .nil)))))) (.asg (.nm 1) (.bin .Add (.loc 1) (.lst (.cons (.isx (.loc 0) t24) (.cons (.isx (.loc 0) t25) (.cons (.isx (.loc 0) t26) (.cons (.isx (.loc 0) t27) .nil)))))) (.ret (.bin .Add (.loc 1) (.lst (.cons (.isx (.loc 0) t28) (.cons (.isx (.loc 0) t29) .nil))))))))))))
theorem marks_run {G : Gv} {S : Store} {n : Nat} {x : Str} (hh : Held n x S) (t0 t1 t2 t3 t4 t5 t6 t7 t8 t9 t10 t11 t12 t13 t14 t15 t16 t17 t18 t19 t20 t21 t22 t23 t24 t25 t26 t27 t28 t29 : List (Str × Bool)) (b0 b1 b2 b3 b4 b5 b6 b7 b8 b9 b10 b11 b12 b13 b14 b15 b16 b17 b18 b19 b20 b21 b22 b23 b24 b25 b26 b27 b28 b29 : Bool) (h0 : t0.lookup x = some b0) (h1 : t1.lookup x = some b1) (h2 : t2.lookup x = some b2) (h3 : t3.lookup x = some b3) (h4 : t4.lookup x = some b4) (h5 : t5.lookup x = some b5) (h6 : t6.lookup x = some b6) (h7 : t7.lookup x = some b7) (h8 : t8.lookup x = some b8) (h9 : t9.lookup x = some b9) (h10 : t10.lookup x = some b10) (h11 : t11.lookup x = some b11) (h12 : t12.lookup x = some b12) (h13 : t13.lookup x = some b13) (h14 : t14.lookup x = some b14) (h15 : t15.lookup x = some b15) (h16 : t16.lookup x = some b16) (h17 : t17.lookup x = some b17) (h18 : t18.lookup x = some b18) (h19 : t19.lookup x = some b19) (h20 : t20.lookup x = some b20) (h21 : t21.lookup x = some b21) (h22 : t22.lookup x = some b22) (h23 : t23.lookup x = some b23) (h24 : t24.lookup x = some b24) (h25 : t25.lookup x = some b25) (h26 : t26.lookup x = some b26) (h27 : t27.lookup x = some b27) (h28 : t28.lookup x = some b28) (h29 : t29.lookup x = some b29) :
    (fin (exS G (marksB t0 t1 t2 t3 t4 t5 t6 t7 t8 t9 t10 t11 t12 t13 t14 t15 t16 t17 t18 t19 t20 t21 t22 t23 t24 t25 t26 t27 t28 t29) [some (.ref n), none] S)).gc S = .ok (.ref S.length) (S ++ [.lst [.bl b0, .bl b1, .bl b2, .bl b3, .bl b4, .bl b5, .bl b6, .bl b7, .bl b8, .bl b9, .bl b10, .bl b11, .bl b12, .bl b13, .bl b14, .bl b15, .bl b16, .bl b17, .bl b18, .bl b19, .bl b20, .bl b21, .bl b22, .bl b23, .bl b24, .bl b25, .bl b26, .bl b27, .bl b28, .bl b29]]) := by
  have e0 : ∀ tab b, tab.lookup x = some b → isxD (.ref n) tab S = .ok (.bl b) S := fun tab b e => by have := hh [] tab b e; rwa [List.append_nil] at this
  have a0 : binD .Add (.ref S.length) (.ref (S.length + 1)) (S ++ [.lst [.bl b0, .bl b1, .bl b2, .bl b3], .lst [.bl b4, .bl b5, .bl b6, .bl b7]]) = .ok (.ref (S.length + 2)) (S ++ [.lst [.bl b0, .bl b1, .bl b2, .bl b3], .lst [.bl b4, .bl b5, .bl b6, .bl b7], .lst [.bl b0, .bl b1, .bl b2, .bl b3, .bl b4, .bl b5, .bl b6, .bl b7]]) := by
    rw [add_lst (xs := [.bl b0, .bl b1, .bl b2, .bl b3]) (ys := [.bl b4, .bl b5, .bl b6, .bl b7]) (by simp) (by simp) (by simp)]; simp
  have e1 : ∀ tab b, tab.lookup x = some b → isxD (.ref n) tab (S ++ [.lst [.bl b0, .bl b1, .bl b2, .bl b3]]) = .ok (.bl b) (S ++ [.lst [.bl b0, .bl b1, .bl b2, .bl b3]]) := hh _
  have a1 : binD .Add (.ref (S.length + 2)) (.ref (S.length + 3)) (S ++ [.lst [.bl b0, .bl b1, .bl b2, .bl b3], .lst [.bl b4, .bl b5, .bl b6, .bl b7], .lst [.bl b0, .bl b1, .bl b2, .bl b3, .bl b4, .bl b5, .bl b6, .bl b7], .lst [.bl b8, .bl b9, .bl b10, .bl b11]]) = .ok (.ref (S.length + 4)) (S ++ [.lst [.bl b0, .bl b1, .bl b2, .bl b3], .lst [.bl b4, .bl b5, .bl b6, .bl b7], .lst [.bl b0, .bl b1, .bl b2, .bl b3, .bl b4, .bl b5, .bl b6, .bl b7], .lst [.bl b8, .bl b9, .bl b10, .bl b11], .lst [.bl b0, .bl b1, .bl b2, .bl b3, .bl b4, .bl b5, .bl b6, .bl b7, .bl b8, .bl b9, .bl b10, .bl b11]]) := by
    rw [add_lst (xs := [.bl b0, .bl b1, .bl b2, .bl b3, .bl b4, .bl b5, .bl b6, .bl b7]) (ys := [.bl b8, .bl b9, .bl b10, .bl b11]) (by simp) (by simp) (by simp)]; simp
  have e2 : ∀ tab b, tab.lookup x = some b → isxD (.ref n) tab (S ++ [.lst [.bl b0, .bl b1, .bl b2, .bl b3], .lst [.bl b4, .bl b5, .bl b6, .bl b7], .lst [.bl b0, .bl b1, .bl b2, .bl b3, .bl b4, .bl b5, .bl b6, .bl b7]]) = .ok (.bl b) (S ++ [.lst [.bl b0, .bl b1, .bl b2, .bl b3], .lst [.bl b4, .bl b5, .bl b6, .bl b7], .lst [.bl b0, .bl b1, .bl b2, .bl b3, .bl b4, .bl b5, .bl b6, .bl b7]]) := hh _
  have a2 : binD .Add (.ref (S.length + 4)) (.ref (S.length + 5)) (S ++ [.lst [.bl b0, .bl b1, .bl b2, .bl b3], .lst [.bl b4, .bl b5, .bl b6, .bl b7], .lst [.bl b0, .bl b1, .bl b2, .bl b3, .bl b4, .bl b5, .bl b6, .bl b7], .lst [.bl b8, .bl b9, .bl b10, .bl b11], .lst [.bl b0, .bl b1, .bl b2, .bl b3, .bl b4, .bl b5, .bl b6, .bl b7, .bl b8, .bl b9, .bl b10, .bl b11], .lst [.bl b12, .bl b13, .bl b14, .bl b15]]) = .ok (.ref (S.length + 6)) (S ++ [.lst [.bl b0, .bl b1, .bl b2, .bl b3], .lst [.bl b4, .bl b5, .bl b6, .bl b7], .lst [.bl b0, .bl b1, .bl b2, .bl b3, .bl b4, .bl b5, .bl b6, .bl b7], .lst [.bl b8, .bl b9, .bl b10, .bl b11], .lst [.bl b0, .bl b1, .bl b2, .bl b3, .bl b4, .bl b5, .bl b6, .bl b7, .bl b8, .bl b9, .bl b10, .bl b11], .lst [.bl b12, .bl b13, .bl b14, .bl b15], .lst [.bl b0, .bl b1, .bl b2, .bl b3, .bl b4, .bl b5, .bl b6, .bl b7, .bl b8, .bl b9, .bl b10, .bl b11, .bl b12, .bl b13, .bl b14, .bl b15]]) := by
    rw [add_lst (xs := [.bl b0, .bl b1, .bl b2, .bl b3, .bl b4, .bl b5, .bl b6, .bl b7, .bl b8, .bl b9, .bl b10, .bl b11]) (ys := [.bl b12, .bl b13, .bl b14, .bl b15]) (by simp) (by simp) (by simp)]; simp
  have e3 : ∀ tab b, tab.lookup x = some b → isxD (.ref n) tab (S ++ [.lst [.bl b0, .bl b1, .bl b2, .bl b3], .lst [.bl b4, .bl b5, .bl b6, .bl b7], .lst [.bl b0, .bl b1, .bl b2, .bl b3, .bl b4, .bl b5, .bl b6, .bl b7], .lst [.bl b8, .bl b9, .bl b10, .bl b11], .lst [.bl b0, .bl b1, .bl b2, .bl b3, .bl b4, .bl b5, .bl b6, .bl b7, .bl b8, .bl b9, .bl b10, .bl b11]]) = .ok (.bl b) (S ++ [.lst [.bl b0, .bl b1, .bl b2, .bl b3], .lst [.bl b4, .bl b5, .bl b6, .bl b7], .lst [.bl b0, .bl b1, .bl b2, .bl b3, .bl b4, .bl b5, .bl b6, .bl b7], .lst [.bl b8, .bl b9, .bl b10, .bl b11], .lst [.bl b0, .bl b1, .bl b2, .bl b3, .bl b4, .bl b5, .bl b6, .bl b7, .bl b8, .bl b9, .bl b10, .bl b11]]) := hh _
  have a3 : binD .Add (.ref (S.length + 6)) (.ref (S.length + 7)) (S ++ [.lst [.bl b0, .bl b1, .bl b2, .bl b3], .lst [.bl b4, .bl b5, .bl b6, .bl b7], .lst [.bl b0, .bl b1, .bl b2, .bl b3, .bl b4, .bl b5, .bl b6, .bl b7], .lst [.bl b8, .bl b9, .bl b10, .bl b11], .lst [.bl b0, .bl b1, .bl b2, .bl b3, .bl b4, .bl b5, .bl b6, .bl b7, .bl b8, .bl b9, .bl b10, .bl b11], .lst [.bl b12, .bl b13, .bl b14, .bl b15], .lst [.bl b0, .bl b1, .bl b2, .bl b3, .bl b4, .bl b5, .bl b6, .bl b7, .bl b8, .bl b9, .bl b10, .bl b11, .bl b12, .bl b13, .bl b14, .bl b15], .lst [.bl b16, .bl b17, .bl b18, .bl b19]]) = .ok (.ref (S.length + 8)) (S ++ [.lst [.bl b0, .bl b1, .bl b2, .bl b3], .lst [.bl b4, .bl b5, .bl b6, .bl b7], .lst [.bl b0, .bl b1, .bl b2, .bl b3, .bl b4, .bl b5, .bl b6, .bl b7], .lst [.bl b8, .bl b9, .bl b10, .bl b11], .lst [.bl b0, .bl b1, .bl b2, .bl b3, .bl b4, .bl b5, .bl b6, .bl b7, .bl b8, .bl b9, .bl b10, .bl b11], .lst [.bl b12, .bl b13, .bl b14, .bl b15], .lst [.bl b0, .bl b1, .bl b2, .bl b3, .bl b4, .bl b5, .bl b6, .bl b7, .bl b8, .bl b9, .bl b10, .bl b11, .bl b12, .bl b13, .bl b14, .bl b15], .lst [.bl b16, .bl b17, .bl b18, .bl b19], .lst [.bl b0, .bl b1, .bl b2, .bl b3, .bl b4, .bl b5, .bl b6, .bl b7, .bl b8, .bl b9, .bl b10, .bl b11, .bl b12, .bl b13, .bl b14, .bl b15, .bl b16, .bl b17, .bl b18, .bl b19]]) := by
    rw [add_lst (xs := [.bl b0, .bl b1, .bl b2, .bl b3, .bl b4, .bl b5, .bl b6, .bl b7, .bl b8, .bl b9, .bl b10, .bl b11, .bl b12, .bl b13, .bl b14, .bl b15]) (ys := [.bl b16, .bl b17, .bl b18, .bl b19]) (by simp) (by simp) (by simp)]; simp
  have e4 : ∀ tab b, tab.lookup x = some b → isxD (.ref n) tab (S ++ [.lst [.bl b0, .bl b1, .bl b2, .bl b3], .lst [.bl b4, .bl b5, .bl b6, .bl b7], .lst [.bl b0, .bl b1, .bl b2, .bl b3, .bl b4, .bl b5, .bl b6, .bl b7], .lst [.bl b8, .bl b9, .bl b10, .bl b11], .lst [.bl b0, .bl b1, .bl b2, .bl b3, .bl b4, .bl b5, .bl b6, .bl b7, .bl b8, .bl b9, .bl b10, .bl b11], .lst [.bl b12, .bl b13, .bl b14, .bl b15], .lst [.bl b0, .bl b1, .bl b2, .bl b3, .bl b4, .bl b5, .bl b6, .bl b7, .bl b8, .bl b9, .bl b10, .bl b11, .bl b12, .bl b13, .bl b14, .bl b15]]) = .ok (.bl b) (S ++ [.lst [.bl b0, .bl b1, .bl b2, .bl b3], .lst [.bl b4, .bl b5, .bl b6, .bl b7], .lst [.bl b0, .bl b1, .bl b2, .bl b3, .bl b4, .bl b5, .bl b6, .bl b7], .lst [.bl b8, .bl b9, .bl b10, .bl b11], .lst [.bl b0, .bl b1, .bl b2, .bl b3, .bl b4, .bl b5, .bl b6, .bl b7, .bl b8, .bl b9, .bl b10, .bl b11], .lst [.bl b12, .bl b13, .bl b14, .bl b15], .lst [.bl b0, .bl b1, .bl b2, .bl b3, .bl b4, .bl b5, .bl b6, .bl b7, .bl b8, .bl b9, .bl b10, .bl b11, .bl b12, .bl b13, .bl b14, .bl b15]]) := hh _
  have a4 : binD .Add (.ref (S.length + 8)) (.ref (S.length + 9)) (S ++ [.lst [.bl b0, .bl b1, .bl b2, .bl b3], .lst [.bl b4, .bl b5, .bl b6, .bl b7], .lst [.bl b0, .bl b1, .bl b2, .bl b3, .bl b4, .bl b5, .bl b6, .bl b7], .lst [.bl b8, .bl b9, .bl b10, .bl b11], .lst [.bl b0, .bl b1, .bl b2, .bl b3, .bl b4, .bl b5, .bl b6, .bl b7, .bl b8, .bl b9, .bl b10, .bl b11], .lst [.bl b12, .bl b13, .bl b14, .bl b15], .lst [.bl b0, .bl b1, .bl b2, .bl b3, .bl b4, .bl b5, .bl b6, .bl b7, .bl b8, .bl b9, .bl b10, .bl b11, .bl b12, .bl b13, .bl b14, .bl b15], .lst [.bl b16, .bl b17, .bl b18, .bl b19], .lst [.bl b0, .bl b1, .bl b2, .bl b3, .bl b4, .bl b5, .bl b6, .bl b7, .bl b8, .bl b9, .bl b10, .bl b11, .bl b12, .bl b13, .bl b14, .bl b15, .bl b16, .bl b17, .bl b18, .bl b19], .lst [.bl b20, .bl b21, .bl b22, .bl b23]]) = .ok (.ref (S.length + 10)) (S ++ [.lst [.bl b0, .bl b1, .bl b2, .bl b3], .lst [.bl b4, .bl b5, .bl b6, .bl b7], .lst [.bl b0, .bl b1, .bl b2, .bl b3, .bl b4, .bl b5, .bl b6, .bl b7], .lst [.bl b8, .bl b9, .bl b10, .bl b11], .lst [.bl b0, .bl b1, .bl b2, .bl b3, .bl b4, .bl b5, .bl b6, .bl b7, .bl b8, .bl b9, .bl b10, .bl b11], .lst [.bl b12, .bl b13, .bl b14, .bl b15], .lst [.bl b0, .bl b1, .bl b2, .bl b3, .bl b4, .bl b5, .bl b6, .bl b7, .bl b8, .bl b9, .bl b10, .bl b11, .bl b12, .bl b13, .bl b14, .bl b15], .lst [.bl b16, .bl b17, .bl b18, .bl b19], .lst [.bl b0, .bl b1, .bl b2, .bl b3, .bl b4, .bl b5, .bl b6, .bl b7, .bl b8, .bl b9, .bl b10, .bl b11, .bl b12, .bl b13, .bl b14, .bl b15, .bl b16, .bl b17, .bl b18, .bl b19], .lst [.bl b20, .bl b21, .bl b22, .bl b23], .lst [.bl b0, .bl b1, .bl b2, .bl b3, .bl b4, .bl b5, .bl b6, .bl b7, .bl b8, .bl b9, .bl b10, .bl b11, .bl b12, .bl b13, .bl b14, .bl b15, .bl b16, .bl b17, .bl b18, .bl b19, .bl b20, .bl b21, .bl b22, .bl b23]]) := by
    rw [add_lst (xs := [.bl b0, .bl b1, .bl b2, .bl b3, .bl b4, .bl b5, .bl b6, .bl b7, .bl b8, .bl b9, .bl b10, .bl b11, .bl b12, .bl b13, .bl b14, .bl b15, .bl b16, .bl b17, .bl b18, .bl b19]) (ys := [.bl b20, .bl b21, .bl b22, .bl b23]) (by simp) (by simp) (by simp)]; simp
  have e5 : ∀ tab b, tab.lookup x = some b → isxD (.ref n) tab (S ++ [.lst [.bl b0, .bl b1, .bl b2, .bl b3], .lst [.bl b4, .bl b5, .bl b6, .bl b7], .lst [.bl b0, .bl b1, .bl b2, .bl b3, .bl b4, .bl b5, .bl b6, .bl b7], .lst [.bl b8, .bl b9, .bl b10, .bl b11], .lst [.bl b0, .bl b1, .bl b2, .bl b3, .bl b4, .bl b5, .bl b6, .bl b7, .bl b8, .bl b9, .bl b10, .bl b11], .lst [.bl b12, .bl b13, .bl b14, .bl b15], .lst [.bl b0, .bl b1, .bl b2, .bl b3, .bl b4, .bl b5, .bl b6, .bl b7, .bl b8, .bl b9, .bl b10, .bl b11, .bl b12, .bl b13, .bl b14, .bl b15], .lst [.bl b16, .bl b17, .bl b18, .bl b19], .lst [.bl b0, .bl b1, .bl b2, .bl b3, .bl b4, .bl b5, .bl b6, .bl b7, .bl b8, .bl b9, .bl b10, .bl b11, .bl b12, .bl b13, .bl b14, .bl b15, .bl b16, .bl b17, .bl b18, .bl b19]]) = .ok (.bl b) (S ++ [.lst [.bl b0, .bl b1, .bl b2, .bl b3], .lst [.bl b4, .bl b5, .bl b6, .bl b7], .lst [.bl b0, .bl b1, .bl b2, .bl b3, .bl b4, .bl b5, .bl b6, .bl b7], .lst [.bl b8, .bl b9, .bl b10, .bl b11], .lst [.bl b0, .bl b1, .bl b2, .bl b3, .bl b4, .bl b5, .bl b6, .bl b7, .bl b8, .bl b9, .bl b10, .bl b11], .lst [.bl b12, .bl b13, .bl b14, .bl b15], .lst [.bl b0, .bl b1, .bl b2, .bl b3, .bl b4, .bl b5, .bl b6, .bl b7, .bl b8, .bl b9, .bl b10, .bl b11, .bl b12, .bl b13, .bl b14, .bl b15], .lst [.bl b16, .bl b17, .bl b18, .bl b19], .lst [.bl b0, .bl b1, .bl b2, .bl b3, .bl b4, .bl b5, .bl b6, .bl b7, .bl b8, .bl b9, .bl b10, .bl b11, .bl b12, .bl b13, .bl b14, .bl b15, .bl b16, .bl b17, .bl b18, .bl b19]]) := hh _
  have a5 : binD .Add (.ref (S.length + 10)) (.ref (S.length + 11)) (S ++ [.lst [.bl b0, .bl b1, .bl b2, .bl b3], .lst [.bl b4, .bl b5, .bl b6, .bl b7], .lst [.bl b0, .bl b1, .bl b2, .bl b3, .bl b4, .bl b5, .bl b6, .bl b7], .lst [.bl b8, .bl b9, .bl b10, .bl b11], .lst [.bl b0, .bl b1, .bl b2, .bl b3, .bl b4, .bl b5, .bl b6, .bl b7, .bl b8, .bl b9, .bl b10, .bl b11], .lst [.bl b12, .bl b13, .bl b14, .bl b15], .lst [.bl b0, .bl b1, .bl b2, .bl b3, .bl b4, .bl b5, .bl b6, .bl b7, .bl b8, .bl b9, .bl b10, .bl b11, .bl b12, .bl b13, .bl b14, .bl b15], .lst [.bl b16, .bl b17, .bl b18, .bl b19], .lst [.bl b0, .bl b1, .bl b2, .bl b3, .bl b4, .bl b5, .bl b6, .bl b7, .bl b8, .bl b9, .bl b10, .bl b11, .bl b12, .bl b13, .bl b14, .bl b15, .bl b16, .bl b17, .bl b18, .bl b19], .lst [.bl b20, .bl b21, .bl b22, .bl b23], .lst [.bl b0, .bl b1, .bl b2, .bl b3, .bl b4, .bl b5, .bl b6, .bl b7, .bl b8, .bl b9, .bl b10, .bl b11, .bl b12, .bl b13, .bl b14, .bl b15, .bl b16, .bl b17, .bl b18, .bl b19, .bl b20, .bl b21, .bl b22, .bl b23], .lst [.bl b24, .bl b25, .bl b26, .bl b27]]) = .ok (.ref (S.length + 12)) (S ++ [.lst [.bl b0, .bl b1, .bl b2, .bl b3], .lst [.bl b4, .bl b5, .bl b6, .bl b7], .lst [.bl b0, .bl b1, .bl b2, .bl b3, .bl b4, .bl b5, .bl b6, .bl b7], .lst [.bl b8, .bl b9, .bl b10, .bl b11], .lst [.bl b0, .bl b1, .bl b2, .bl b3, .bl b4, .bl b5, .bl b6, .bl b7, .bl b8, .bl b9, .bl b10, .bl b11], .lst [.bl b12, .bl b13, .bl b14, .bl b15], .lst [.bl b0, .bl b1, .bl b2, .bl b3, .bl b4, .bl b5, .bl b6, .bl b7, .bl b8, .bl b9, .bl b10, .bl b11, .bl b12, .bl b13, .bl b14, .bl b15], .lst [.bl b16, .bl b17, .bl b18, .bl b19], .lst [.bl b0, .bl b1, .bl b2, .bl b3, .bl b4, .bl b5, .bl b6, .bl b7, .bl b8, .bl b9, .bl b10, .bl b11, .bl b12, .bl b13, .bl b14, .bl b15, .bl b16, .bl b17, .bl b18, .bl b19], .lst [.bl b20, .bl b21, .bl b22, .bl b23], .lst [.bl b0, .bl b1, .bl b2, .bl b3, .bl b4, .bl b5, .bl b6, .bl b7, .bl b8, .bl b9, .bl b10, .bl b11, .bl b12, .bl b13, .bl b14, .bl b15, .bl b16, .bl b17, .bl b18, .bl b19, .bl b20, .bl b21, .bl b22, .bl b23], .lst [.bl b24, .bl b25, .bl b26, .bl b27], .lst [.bl b0, .bl b1, .bl b2, .bl b3, .bl b4, .bl b5, .bl b6, .bl b7, .bl b8, .bl b9, .bl b10, .bl b11, .bl b12, .bl b13, .bl b14, .bl b15, .bl b16, .bl b17, .bl b18, .bl b19, .bl b20, .bl b21, .bl b22, .bl b23, .bl b24, .bl b25, .bl b26, .bl b27]]) := by
    rw [add_lst (xs := [.bl b0, .bl b1, .bl b2, .bl b3, .bl b4, .bl b5, .bl b6, .bl b7, .bl b8, .bl b9, .bl b10, .bl b11, .bl b12, .bl b13, .bl b14, .bl b15, .bl b16, .bl b17, .bl b18, .bl b19, .bl b20, .bl b21, .bl b22, .bl b23]) (ys := [.bl b24, .bl b25, .bl b26, .bl b27]) (by simp) (by simp) (by simp)]; simp
  have e6 : ∀ tab b, tab.lookup x = some b → isxD (.ref n) tab (S ++ [.lst [.bl b0, .bl b1, .bl b2, .bl b3], .lst [.bl b4, .bl b5, .bl b6, .bl b7], .lst [.bl b0, .bl b1, .bl b2, .bl b3, .bl b4, .bl b5, .bl b6, .bl b7], .lst [.bl b8, .bl b9, .bl b10, .bl b11], .lst [.bl b0, .bl b1, .bl b2, .bl b3, .bl b4, .bl b5, .bl b6, .bl b7, .bl b8, .bl b9, .bl b10, .bl b11], .lst [.bl b12, .bl b13, .bl b14, .bl b15], .lst [.bl b0, .bl b1, .bl b2, .bl b3, .bl b4, .bl b5, .bl b6, .bl b7, .bl b8, .bl b9, .bl b10, .bl b11, .bl b12, .bl b13, .bl b14, .bl b15], .lst [.bl b16, .bl b17, .bl b18, .bl b19], .lst [.bl b0, .bl b1, .bl b2, .bl b3, .bl b4, .bl b5, .bl b6, .bl b7, .bl b8, .bl b9, .bl b10, .bl b11, .bl b12, .bl b13, .bl b14, .bl b15, .bl b16, .bl b17, .bl b18, .bl b19], .lst [.bl b20, .bl b21, .bl b22, .bl b23], .lst [.bl b0, .bl b1, .bl b2, .bl b3, .bl b4, .bl b5, .bl b6, .bl b7, .bl b8, .bl b9, .bl b10, .bl b11, .bl b12, .bl b13, .bl b14, .bl b15, .bl b16, .bl b17, .bl b18, .bl b19, .bl b20, .bl b21, .bl b22, .bl b23]]) = .ok (.bl b) (S ++ [.lst [.bl b0, .bl b1, .bl b2, .bl b3], .lst [.bl b4, .bl b5, .bl b6, .bl b7], .lst [.bl b0, .bl b1, .bl b2, .bl b3, .bl b4, .bl b5, .bl b6, .bl b7], .lst [.bl b8, .bl b9, .bl b10, .bl b11], .lst [.bl b0, .bl b1, .bl b2, .bl b3, .bl b4, .bl b5, .bl b6, .bl b7, .bl b8, .bl b9, .bl b10, .bl b11], .lst [.bl b12, .bl b13, .bl b14, .bl b15], .lst [.bl b0, .bl b1, .bl b2, .bl b3, .bl b4, .bl b5, .bl b6, .bl b7, .bl b8, .bl b9, .bl b10, .bl b11, .bl b12, .bl b13, .bl b14, .bl b15], .lst [.bl b16, .bl b17, .bl b18, .bl b19], .lst [.bl b0, .bl b1, .bl b2, .bl b3, .bl b4, .bl b5, .bl b6, .bl b7, .bl b8, .bl b9, .bl b10, .bl b11, .bl b12, .bl b13, .bl b14, .bl b15, .bl b16, .bl b17, .bl b18, .bl b19], .lst [.bl b20, .bl b21, .bl b22, .bl b23], .lst [.bl b0, .bl b1, .bl b2, .bl b3, .bl b4, .bl b5, .bl b6, .bl b7, .bl b8, .bl b9, .bl b10, .bl b11, .bl b12, .bl b13, .bl b14, .bl b15, .bl b16, .bl b17, .bl b18, .bl b19, .bl b20, .bl b21, .bl b22, .bl b23]]) := hh _
  have a6 : binD .Add (.ref (S.length + 12)) (.ref (S.length + 13)) (S ++ [.lst [.bl b0, .bl b1, .bl b2, .bl b3], .lst [.bl b4, .bl b5, .bl b6, .bl b7], .lst [.bl b0, .bl b1, .bl b2, .bl b3, .bl b4, .bl b5, .bl b6, .bl b7], .lst [.bl b8, .bl b9, .bl b10, .bl b11], .lst [.bl b0, .bl b1, .bl b2, .bl b3, .bl b4, .bl b5, .bl b6, .bl b7, .bl b8, .bl b9, .bl b10, .bl b11], .lst [.bl b12, .bl b13, .bl b14, .bl b15], .lst [.bl b0, .bl b1, .bl b2, .bl b3, .bl b4, .bl b5, .bl b6, .bl b7, .bl b8, .bl b9, .bl b10, .bl b11, .bl b12, .bl b13, .bl b14, .bl b15], .lst [.bl b16, .bl b17, .bl b18, .bl b19], .lst [.bl b0, .bl b1, .bl b2, .bl b3, .bl b4, .bl b5, .bl b6, .bl b7, .bl b8, .bl b9, .bl b10, .bl b11, .bl b12, .bl b13, .bl b14, .bl b15, .bl b16, .bl b17, .bl b18, .bl b19], .lst [.bl b20, .bl b21, .bl b22, .bl b23], .lst [.bl b0, .bl b1, .bl b2, .bl b3, .bl b4, .bl b5, .bl b6, .bl b7, .bl b8, .bl b9, .bl b10, .bl b11, .bl b12, .bl b13, .bl b14, .bl b15, .bl b16, .bl b17, .bl b18, .bl b19, .bl b20, .bl b21, .bl b22, .bl b23], .lst [.bl b24, .bl b25, .bl b26, .bl b27], .lst [.bl b0, .bl b1, .bl b2, .bl b3, .bl b4, .bl b5, .bl b6, .bl b7, .bl b8, .bl b9, .bl b10, .bl b11, .bl b12, .bl b13, .bl b14, .bl b15, .bl b16, .bl b17, .bl b18, .bl b19, .bl b20, .bl b21, .bl b22, .bl b23, .bl b24, .bl b25, .bl b26, .bl b27], .lst [.bl b28, .bl b29]]) = .ok (.ref (S.length + 14)) (S ++ [.lst [.bl b0, .bl b1, .bl b2, .bl b3], .lst [.bl b4, .bl b5, .bl b6, .bl b7], .lst [.bl b0, .bl b1, .bl b2, .bl b3, .bl b4, .bl b5, .bl b6, .bl b7], .lst [.bl b8, .bl b9, .bl b10, .bl b11], .lst [.bl b0, .bl b1, .bl b2, .bl b3, .bl b4, .bl b5, .bl b6, .bl b7, .bl b8, .bl b9, .bl b10, .bl b11], .lst [.bl b12, .bl b13, .bl b14, .bl b15], .lst [.bl b0, .bl b1, .bl b2, .bl b3, .bl b4, .bl b5, .bl b6, .bl b7, .bl b8, .bl b9, .bl b10, .bl b11, .bl b12, .bl b13, .bl b14, .bl b15], .lst [.bl b16, .bl b17, .bl b18, .bl b19], .lst [.bl b0, .bl b1, .bl b2, .bl b3, .bl b4, .bl b5, .bl b6, .bl b7, .bl b8, .bl b9, .bl b10, .bl b11, .bl b12, .bl b13, .bl b14, .bl b15, .bl b16, .bl b17, .bl b18, .bl b19], .lst [.bl b20, .bl b21, .bl b22, .bl b23], .lst [.bl b0, .bl b1, .bl b2, .bl b3, .bl b4, .bl b5, .bl b6, .bl b7, .bl b8, .bl b9, .bl b10, .bl b11, .bl b12, .bl b13, .bl b14, .bl b15, .bl b16, .bl b17, .bl b18, .bl b19, .bl b20, .bl b21, .bl b22, .bl b23], .lst [.bl b24, .bl b25, .bl b26, .bl b27], .lst [.bl b0, .bl b1, .bl b2, .bl b3, .bl b4, .bl b5, .bl b6, .bl b7, .bl b8, .bl b9, .bl b10, .bl b11, .bl b12, .bl b13, .bl b14, .bl b15, .bl b16, .bl b17, .bl b18, .bl b19, .bl b20, .bl b21, .bl b22, .bl b23, .bl b24, .bl b25, .bl b26, .bl b27], .lst [.bl b28, .bl b29], .lst [.bl b0, .bl b1, .bl b2, .bl b3, .bl b4, .bl b5, .bl b6, .bl b7, .bl b8, .bl b9, .bl b10, .bl b11, .bl b12, .bl b13, .bl b14, .bl b15, .bl b16, .bl b17, .bl b18, .bl b19, .bl b20, .bl b21, .bl b22, .bl b23, .bl b24, .bl b25, .bl b26, .bl b27, .bl b28, .bl b29]]) := by
    rw [add_lst (xs := [.bl b0, .bl b1, .bl b2, .bl b3, .bl b4, .bl b5, .bl b6, .bl b7, .bl b8, .bl b9, .bl b10, .bl b11, .bl b12, .bl b13, .bl b14, .bl b15, .bl b16, .bl b17, .bl b18, .bl b19, .bl b20, .bl b21, .bl b22, .bl b23, .bl b24, .bl b25, .bl b26, .bl b27]) (ys := [.bl b28, .bl b29]) (by simp) (by simp) (by simp)]; simp
  have e7 : ∀ tab b, tab.lookup x = some b → isxD (.ref n) tab (S ++ [.lst [.bl b0, .bl b1, .bl b2, .bl b3], .lst [.bl b4, .bl b5, .bl b6, .bl b7], .lst [.bl b0, .bl b1, .bl b2, .bl b3, .bl b4, .bl b5, .bl b6, .bl b7], .lst [.bl b8, .bl b9, .bl b10, .bl b11], .lst [.bl b0, .bl b1, .bl b2, .bl b3, .bl b4, .bl b5, .bl b6, .bl b7, .bl b8, .bl b9, .bl b10, .bl b11], .lst [.bl b12, .bl b13, .bl b14, .bl b15], .lst [.bl b0, .bl b1, .bl b2, .bl b3, .bl b4, .bl b5, .bl b6, .bl b7, .bl b8, .bl b9, .bl b10, .bl b11, .bl b12, .bl b13, .bl b14, .bl b15], .lst [.bl b16, .bl b17, .bl b18, .bl b19], .lst [.bl b0, .bl b1, .bl b2, .bl b3, .bl b4, .bl b5, .bl b6, .bl b7, .bl b8, .bl b9, .bl b10, .bl b11, .bl b12, .bl b13, .bl b14, .bl b15, .bl b16, .bl b17, .bl b18, .bl b19], .lst [.bl b20, .bl b21, .bl b22, .bl b23], .lst [.bl b0, .bl b1, .bl b2, .bl b3, .bl b4, .bl b5, .bl b6, .bl b7, .bl b8, .bl b9, .bl b10, .bl b11, .bl b12, .bl b13, .bl b14, .bl b15, .bl b16, .bl b17, .bl b18, .bl b19, .bl b20, .bl b21, .bl b22, .bl b23], .lst [.bl b24, .bl b25, .bl b26, .bl b27], .lst [.bl b0, .bl b1, .bl b2, .bl b3, .bl b4, .bl b5, .bl b6, .bl b7, .bl b8, .bl b9, .bl b10, .bl b11, .bl b12, .bl b13, .bl b14, .bl b15, .bl b16, .bl b17, .bl b18, .bl b19, .bl b20, .bl b21, .bl b22, .bl b23, .bl b24, .bl b25, .bl b26, .bl b27]]) = .ok (.bl b) (S ++ [.lst [.bl b0, .bl b1, .bl b2, .bl b3], .lst [.bl b4, .bl b5, .bl b6, .bl b7], .lst [.bl b0, .bl b1, .bl b2, .bl b3, .bl b4, .bl b5, .bl b6, .bl b7], .lst [.bl b8, .bl b9, .bl b10, .bl b11], .lst [.bl b0, .bl b1, .bl b2, .bl b3, .bl b4, .bl b5, .bl b6, .bl b7, .bl b8, .bl b9, .bl b10, .bl b11], .lst [.bl b12, .bl b13, .bl b14, .bl b15], .lst [.bl b0, .bl b1, .bl b2, .bl b3, .bl b4, .bl b5, .bl b6, .bl b7, .bl b8, .bl b9, .bl b10, .bl b11, .bl b12, .bl b13, .bl b14, .bl b15], .lst [.bl b16, .bl b17, .bl b18, .bl b19], .lst [.bl b0, .bl b1, .bl b2, .bl b3, .bl b4, .bl b5, .bl b6, .bl b7, .bl b8, .bl b9, .bl b10, .bl b11, .bl b12, .bl b13, .bl b14, .bl b15, .bl b16, .bl b17, .bl b18, .bl b19], .lst [.bl b20, .bl b21, .bl b22, .bl b23], .lst [.bl b0, .bl b1, .bl b2, .bl b3, .bl b4, .bl b5, .bl b6, .bl b7, .bl b8, .bl b9, .bl b10, .bl b11, .bl b12, .bl b13, .bl b14, .bl b15, .bl b16, .bl b17, .bl b18, .bl b19, .bl b20, .bl b21, .bl b22, .bl b23], .lst [.bl b24, .bl b25, .bl b26, .bl b27], .lst [.bl b0, .bl b1, .bl b2, .bl b3, .bl b4, .bl b5, .bl b6, .bl b7, .bl b8, .bl b9, .bl b10, .bl b11, .bl b12, .bl b13, .bl b14, .bl b15, .bl b16, .bl b17, .bl b18, .bl b19, .bl b20, .bl b21, .bl b22, .bl b23, .bl b24, .bl b25, .bl b26, .bl b27]]) := hh _
  have q : ∃ L', exS G (marksB t0 t1 t2 t3 t4 t5 t6 t7 t8 t9 t10 t11 t12 t13 t14 t15 t16 t17 t18 t19 t20 t21 t22 t23 t24 t25 t26 t27 t28 t29) [some (.ref n), none] S = .ok (.ret (.ref (S.length + 14)), L') (S ++ [.lst [.bl b0, .bl b1, .bl b2, .bl b3], .lst [.bl b4, .bl b5, .bl b6, .bl b7], .lst [.bl b0, .bl b1, .bl b2, .bl b3, .bl b4, .bl b5, .bl b6, .bl b7], .lst [.bl b8, .bl b9, .bl b10, .bl b11], .lst [.bl b0, .bl b1, .bl b2, .bl b3, .bl b4, .bl b5, .bl b6, .bl b7, .bl b8, .bl b9, .bl b10, .bl b11], .lst [.bl b12, .bl b13, .bl b14, .bl b15], .lst [.bl b0, .bl b1, .bl b2, .bl b3, .bl b4, .bl b5, .bl b6, .bl b7, .bl b8, .bl b9, .bl b10, .bl b11, .bl b12, .bl b13, .bl b14, .bl b15], .lst [.bl b16, .bl b17, .bl b18, .bl b19], .lst [.bl b0, .bl b1, .bl b2, .bl b3, .bl b4, .bl b5, .bl b6, .bl b7, .bl b8, .bl b9, .bl b10, .bl b11, .bl b12, .bl b13, .bl b14, .bl b15, .bl b16, .bl b17, .bl b18, .bl b19], .lst [.bl b20, .bl b21, .bl b22, .bl b23], .lst [.bl b0, .bl b1, .bl b2, .bl b3, .bl b4, .bl b5, .bl b6, .bl b7, .bl b8, .bl b9, .bl b10, .bl b11, .bl b12, .bl b13, .bl b14, .bl b15, .bl b16, .bl b17, .bl b18, .bl b19, .bl b20, .bl b21, .bl b22, .bl b23], .lst [.bl b24, .bl b25, .bl b26, .bl b27], .lst [.bl b0, .bl b1, .bl b2, .bl b3, .bl b4, .bl b5, .bl b6, .bl b7, .bl b8, .bl b9, .bl b10, .bl b11, .bl b12, .bl b13, .bl b14, .bl b15, .bl b16, .bl b17, .bl b18, .bl b19, .bl b20, .bl b21, .bl b22, .bl b23, .bl b24, .bl b25, .bl b26, .bl b27], .lst [.bl b28, .bl b29], .lst [.bl b0, .bl b1, .bl b2, .bl b3, .bl b4, .bl b5, .bl b6, .bl b7, .bl b8, .bl b9, .bl b10, .bl b11, .bl b12, .bl b13, .bl b14, .bl b15, .bl b16, .bl b17, .bl b18, .bl b19, .bl b20, .bl b21, .bl b22, .bl b23, .bl b24, .bl b25, .bl b26, .bl b27, .bl b28, .bl b29]]) := by
    refine ⟨[some (.ref n), some (.ref (S.length + 12))], ?_⟩
    simp [newC, ev_isx, e0 _ _ h0, e0 _ _ h1, e0 _ _ h2, e0 _ _ h3, e1 _ _ h4, e1 _ _ h5, e1 _ _ h6, e1 _ _ h7, e2 _ _ h8, e2 _ _ h9, e2 _ _ h10, e2 _ _ h11, e3 _ _ h12, e3 _ _ h13, e3 _ _ h14, e3 _ _ h15, e4 _ _ h16, e4 _ _ h17, e4 _ _ h18, e4 _ _ h19, e5 _ _ h20, e5 _ _ h21, e5 _ _ h22, e5 _ _ h23, e6 _ _ h24, e6 _ _ h25, e6 _ _ h26, e6 _ _ h27, e7 _ _ h28, e7 _ _ h29, a0, a1, a2, a3, a4, a5, a6]
  obtain ⟨L', q⟩ := q
  rw [q, fin_ret, R.gc_ok]
  exact gc_new0 (by omega) (by simp) rfl
abbrev underB (t0 t1 t2 t3 t4 t5 : List (Str × Bool)) : CSs := (.asg (.nm 1) (.lst (.cons (.isx (.loc 0) t0) (.cons (.isx (.loc 0) t1) (.cons (.isx (.loc 0) t2) .nil)))) (.asg (.nm 1) (.bin .Add (.loc 1) (.lst (.cons (.isx (.loc 0) t3) (.cons (.isx (.loc 0) t4) .nil)))) (.ret (.bin .Add (.loc 1) (.lst (.cons (.isx (.loc 0) t5) .nil))))))
theorem under_run {G : Gv} {S : Store} {n : Nat} {x : Str} (hh : Held n x S) (t0 t1 t2 t3 t4 t5 : List (Str × Bool)) (b0 b1 b2 b3 b4 b5 : Bool) (h0 : t0.lookup x = some b0) (h1 : t1.lookup x = some b1) (h2 : t2.lookup x = some b2) (h3 : t3.lookup x = some b3) (h4 : t4.lookup x = some b4) (h5 : t5.lookup x = some b5) :
    (fin (exS G (underB t0 t1 t2 t3 t4 t5) [some (.ref n), none] S)).gc S = .ok (.ref S.length) (S ++ [.lst [.bl b0, .bl b1, .bl b2, .bl b3, .bl b4, .bl b5]]) := by
  have e0 : ∀ tab b, tab.lookup x = some b → isxD (.ref n) tab S = .ok (.bl b) S := fun tab b e => by have := hh [] tab b e; rwa [List.append_nil] at this
  have a0 : binD .Add (.ref S.length) (.ref (S.length + 1)) (S ++ [.lst [.bl b0, .bl b1, .bl b2], .lst [.bl b3, .bl b4]]) = .ok (.ref (S.length + 2)) (S ++ [.lst [.bl b0, .bl b1, .bl b2], .lst [.bl b3, .bl b4], .lst [.bl b0, .bl b1, .bl b2, .bl b3, .bl b4]]) := by
    rw [add_lst (xs := [.bl b0, .bl b1, .bl b2]) (ys := [.bl b3, .bl b4]) (by simp) (by simp) (by simp)]; simp
  have e1 : ∀ tab b, tab.lookup x = some b → isxD (.ref n) tab (S ++ [.lst [.bl b0, .bl b1, .bl b2]]) = .ok (.bl b) (S ++ [.lst [.bl b0, .bl b1, .bl b2]]) := hh _
  have a1 : binD .Add (.ref (S.length + 2)) (.ref (S.length + 3)) (S ++ [.lst [.bl b0, .bl b1, .bl b2], .lst [.bl b3, .bl b4], .lst [.bl b0, .bl b1, .bl b2, .bl b3, .bl b4], .lst [.bl b5]]) = .ok (.ref (S.length + 4)) (S ++ [.lst [.bl b0, .bl b1, .bl b2], .lst [.bl b3, .bl b4], .lst [.bl b0, .bl b1, .bl b2, .bl b3, .bl b4], .lst [.bl b5], .lst [.bl b0, .bl b1, .bl b2, .bl b3, .bl b4, .bl b5]]) := by
    rw [add_lst (xs := [.bl b0, .bl b1, .bl b2, .bl b3, .bl b4]) (ys := [.bl b5]) (by simp) (by simp) (by simp)]; simp
  have e2 : ∀ tab b, tab.lookup x = some b → isxD (.ref n) tab (S ++ [.lst [.bl b0, .bl b1, .bl b2], .lst [.bl b3, .bl b4], .lst [.bl b0, .bl b1, .bl b2, .bl b3, .bl b4]]) = .ok (.bl b) (S ++ [.lst [.bl b0, .bl b1, .bl b2], .lst [.bl b3, .bl b4], .lst [.bl b0, .bl b1, .bl b2, .bl b3, .bl b4]]) := hh _
  have q : ∃ L', exS G (underB t0 t1 t2 t3 t4 t5) [some (.ref n), none] S = .ok (.ret (.ref (S.length + 4)), L') (S ++ [.lst [.bl b0, .bl b1, .bl b2], .lst [.bl b3, .bl b4], .lst [.bl b0, .bl b1, .bl b2, .bl b3, .bl b4], .lst [.bl b5], .lst [.bl b0, .bl b1, .bl b2, .bl b3, .bl b4, .bl b5]]) := by
    refine ⟨[some (.ref n), some (.ref (S.length + 2))], ?_⟩
    simp [newC, ev_isx, e0 _ _ h0, e0 _ _ h1, e0 _ _ h2, e1 _ _ h3, e1 _ _ h4, e2 _ _ h5, a0, a1]
  obtain ⟨L', q⟩ := q
  rw [q, fin_ret, R.gc_ok]
  exact gc_new0 (by omega) (by simp) rfl
def tabL : CE → List (List (Str × Bool))
  | .isx _ t => [t]
  | _ => []
def tabA : CA → List (List (Str × Bool))
  | .cons e r => tabL e ++ tabA r
  | .nil => []
def tabE : CE → List (List (Str × Bool))
  | .lst as => tabA as
  | .bin _ _ (.lst as) => tabA as
  | _ => []
def tabS : CSs → List (List (Str × Bool))
  | .asg _ e r => tabE e ++ tabS r
  | .ret e => tabE e
  | _ => []
abbrev names : List Str := [(Str.ofString "NoHouse"), (Str.ofString "NoWalk"), (Str.ofString "NoText"), (Str.ofString "TooLong"), (Str.ofString "TooStrong"), (Str.ofString "Weak"), (Str.ofString "Poor"), (Str.ofString "NoNumbers"), (Str.ofString "NoStanding"), (Str.ofString "NoWish"), (Str.ofString "NoWishes"), (Str.ofString "NoStrength"), (Str.ofString "NoPlace"), (Str.ofString "NoDial"), (Str.ofString "NoReason"), (Str.ofString "NoBeat"), (Str.ofString "NoNumber"), (Str.ofString "NoHands"), (Str.ofString "NoRule"), (Str.ofString "NoDeed"), (Str.ofString "NoPrice"), (Str.ofString "NoChain"), (Str.ofString "NoRow"), (Str.ofString "TooWide"), (Str.ofString "Never"), (Str.ofString "Taken"), (Str.ofString "Broken"), (Str.ofString "Unlike"), (Str.ofString "NothingDone"), (Str.ofString "NotYet")]
def marksT : List (List (Str × Bool)) := tabS c4.body
theorem marks_body : c4.body = marksB (marksT.getD 0 []) (marksT.getD 1 []) (marksT.getD 2 []) (marksT.getD 3 []) (marksT.getD 4 []) (marksT.getD 5 []) (marksT.getD 6 []) (marksT.getD 7 []) (marksT.getD 8 []) (marksT.getD 9 []) (marksT.getD 10 []) (marksT.getD 11 []) (marksT.getD 12 []) (marksT.getD 13 []) (marksT.getD 14 []) (marksT.getD 15 []) (marksT.getD 16 []) (marksT.getD 17 []) (marksT.getD 18 []) (marksT.getD 19 []) (marksT.getD 20 []) (marksT.getD 21 []) (marksT.getD 22 []) (marksT.getD 23 []) (marksT.getD 24 []) (marksT.getD 25 []) (marksT.getD 26 []) (marksT.getD 27 []) (marksT.getD 28 []) (marksT.getD 29 []) := by rfl
def underT : List (List (Str × Bool)) := tabS c5.body
theorem under_body : c5.body = underB (underT.getD 0 []) (underT.getD 1 []) (underT.getD 2 []) (underT.getD 3 []) (underT.getD 4 []) (underT.getD 5 []) := by rfl
def undR (i : Nat) : List Bool := [decide (i < 28), decide (i < 28), decide (i = 28), false, decide (i = 29), false]
theorem marks_tab : (List.range 30).all (fun i => (List.range 30).all fun j => decide ((marksT.getD j []).lookup (names.getD i (Str.ofString "")) = some (decide (i = j)))) = true := by decide +kernel
theorem under_tab : (List.range 30).all (fun i => (List.range 6).all fun j => decide ((underT.getD j []).lookup (names.getD i (Str.ofString "")) = some ((undR i).getD j false))) = true := by decide +kernel
theorem tab_at {n m : Nat} {p : Nat → Nat → Bool} (h : (List.range n).all (fun i => (List.range m).all fun j => p i j) = true) {i j : Nat} (hi : i < n) (hj : j < m) : p i j = true := by
  rw [List.all_eq_true] at h
  have := h i (List.mem_range.mpr hi)
  rw [List.all_eq_true] at this
  exact this j (List.mem_range.mpr hj)
theorem marks_ok {k n i : Nat} {S : Store} (hi : i < 30) (hh : Held n (names.getD i (Str.ofString "")) S) : semN T ct (k + 1) 4 [.ref n] S = .ok (.ref S.length) (S ++ [.lst ((List.range 30).map fun j => D.bl (decide (i = j)))]) := by
  rw [sem_run (f := c4) rfl, runF_fin rfl]
  have h := fun j (hj : j < 30) => of_decide_eq_true (tab_at (p := fun i j => decide ((marksT.getD j []).lookup (names.getD i (Str.ofString "")) = some (decide (i = j)))) marks_tab hi hj)
  show (fin (exS _ c4.body [some (.ref n), none] S)).gc S = _
  rw [marks_body]
  exact marks_run hh _ _ _ _ _ _ _ _ _ _ _ _ _ _ _ _ _ _ _ _ _ _ _ _ _ _ _ _ _ _ (decide (i = 0)) (decide (i = 1)) (decide (i = 2)) (decide (i = 3)) (decide (i = 4)) (decide (i = 5)) (decide (i = 6)) (decide (i = 7)) (decide (i = 8)) (decide (i = 9)) (decide (i = 10)) (decide (i = 11)) (decide (i = 12)) (decide (i = 13)) (decide (i = 14)) (decide (i = 15)) (decide (i = 16)) (decide (i = 17)) (decide (i = 18)) (decide (i = 19)) (decide (i = 20)) (decide (i = 21)) (decide (i = 22)) (decide (i = 23)) (decide (i = 24)) (decide (i = 25)) (decide (i = 26)) (decide (i = 27)) (decide (i = 28)) (decide (i = 29)) (h 0 (by decide)) (h 1 (by decide)) (h 2 (by decide)) (h 3 (by decide)) (h 4 (by decide)) (h 5 (by decide)) (h 6 (by decide)) (h 7 (by decide)) (h 8 (by decide)) (h 9 (by decide)) (h 10 (by decide)) (h 11 (by decide)) (h 12 (by decide)) (h 13 (by decide)) (h 14 (by decide)) (h 15 (by decide)) (h 16 (by decide)) (h 17 (by decide)) (h 18 (by decide)) (h 19 (by decide)) (h 20 (by decide)) (h 21 (by decide)) (h 22 (by decide)) (h 23 (by decide)) (h 24 (by decide)) (h 25 (by decide)) (h 26 (by decide)) (h 27 (by decide)) (h 28 (by decide)) (h 29 (by decide))
theorem under_ok {k n i : Nat} {S : Store} (hi : i < 30) (hh : Held n (names.getD i (Str.ofString "")) S) : semN T ct (k + 1) 5 [.ref n] S = .ok (.ref S.length) (S ++ [.lst ((undR i).map D.bl)]) := by
  rw [sem_run (f := c5) rfl, runF_fin rfl]
  have h := fun j (hj : j < 6) => of_decide_eq_true (tab_at (p := fun i j => decide ((underT.getD j []).lookup (names.getD i (Str.ofString "")) = some ((undR i).getD j false))) under_tab hi hj)
  show (fin (exS _ c5.body [some (.ref n), none] S)).gc S = _
  rw [under_body]
  exact under_run hh _ _ _ _ _ _ ((undR i).getD 0 false) ((undR i).getD 1 false) ((undR i).getD 2 false) ((undR i).getD 3 false) ((undR i).getD 4 false) ((undR i).getD 5 false) (h 0 (by decide)) (h 1 (by decide)) (h 2 (by decide)) (h 3 (by decide)) (h 4 (by decide)) (h 5 (by decide))
end K56
namespace K56
open PySem L2 Mi
theorem pow9 {S : Store} : binD .Pow (.int 10) (.int 9) S = .ok (.int 1000000000) S := by rw [bin_pow (by decide)] <;> rfl
/-- seven times one thing, as a text -/
theorem rep7 {k : Nat} {S : Store} {A : Nat → Prop} {d : D} {w : Nat} (hk : k ≤ 40) (hw : w ≤ 100000) (h : Th k S A d w) : ∃ z : Str, PyData.strOk z = true ∧ ∀ X n, (S ++ X)[n]? = some (.lst [d, d, d, d, d, d, d]) → biD .repr [.ref n] (S ++ X) = .ok (.str z) (S ++ X) := by
  have th : Th (k + 1) (S ++ [.lst [d, d, d, d, d, d, d]]) (fun n => A n ∨ n = S.length) (.ref S.length) (7 * w + 20) := by
    refine Th.ref.mpr ⟨.inr rfl, .inl ⟨[(d, w), (d, w), (d, w), (d, w), (d, w), (d, w), (d, w)], by simp, ?_, by simp; omega⟩⟩
    intro q hq
    simp at hq
    subst hq
    exact h.mono (Nat.le_refl _) (Nat.le_refl _) (fun n h => .inl h) fun n c _ e => at_app e
  obtain ⟨q, e, s, l, o⟩ := Th.py (by omega) th
  refine ⟨q.shown, o, fun X n hn => repr_of ?_ s (by omega)⟩
  have a1 := fun X => py_app (X := X) h
  have key : ∀ X n j, (S ++ X)[n]? = some (.lst [d, d, d, d, d, d, d]) → toPy (j + k + 1) (S ++ X) (.ref n) = (allSome ([d, d, d, d, d, d, d].map (toPy (j + k) S))).map .list := by
    intro X n j hn
    have e2 : toPy (j + k + 1) (S ++ X) (.ref n) = (allSome ([d, d, d, d, d, d, d].map (toPy (j + k) (S ++ X)))).map .list := by
      simp only [toPy, hn]
    rw [e2]
    simp only [List.map_cons, List.map_nil, a1 X j]
  have e1 := e (49 - k)
  have e2 := key [.lst [d, d, d, d, d, d, d]] S.length (49 - k) (by simp)
  rw [show 49 - k + (k + 1) = 49 - k + k + 1 by omega, e2] at e1
  have e3 := key X n (49 - k) hn
  rw [e1, show 49 - k + k + 1 = 50 by omega] at e3
  exact e3
theorem ne_str {S : Store} {z : Str} (h : PyData.strOk z = true) : cmpD .NotEq (.str z) (.str z) S = .ok (.bl false) S := by
  show ofB ((eqD S (.str z) (.str z)).map (!·)) S = _
  unfold eqD
  simp [py, toPy, SeqAt.shaped, PyData.canLay0, PyData.depth, PyData.eqv, h]
abbrev thingE : CE := .call 2 (.cons (.loc 1) (.cons (.lst (.cons (.call 3 (.cons (.loc 1) .nil)) (.cons (.call 1 (.cons (.loc 1) (.cons (.bin .Pow (.cst (.int 10)) (.cst (.int 9))) .nil))) (.cons (.tup (.cons (.cst (.str (Str.ofString "dial"))) (.cons (.call 1 (.cons (.loc 1) (.cons (.cst (.int 12)) .nil))) .nil))) (.cons (.tup (.cons (.cst (.str (Str.ofString "house"))) .nil)) .nil))))) .nil))
theorem thing_ok {p c : Nat} {cs : List Int} {t r : Int} {S : Store} (hp : Pen p c cs t r S) (wf : Wf S) (h0 : 0 ≤ t) (h1 : t < 2 ^ 40) {x0 x2 x3 x4 x5 x6 x7 x8 : Option D} :
    ∃ d t' r' X, evE ⟨semN T ct 40, ct⟩ thingE [x0, some (.ref p), x2, x3, x4, x5, x6, x7, x8] S = .ok d (setPen S p c t' r' ++ X) ∧ Wf (setPen S p c t' r' ++ X) ∧ Th 5 (setPen S p c t' r' ++ X) (fun n => S.length ≤ n) d 4000 ∧ t ≤ t' ∧ t' ≤ t + 4 := by
  obtain ⟨d0, t0, r0, X0, e0, wf0, th0, c0', g0⟩ := odd_ok (k := 37) p c cs t r S hp wf h0 (by omega)
  have br0 : BR S p c t 1 4 (fun _ => False) 3000 (semN T ct 40 3 [.ref p] S) := ⟨d0, t0, r0, X0, e0, wf0, th0.mono (Nat.le_refl _) (Nat.le_refl _) (fun n h => .inr h) fun _ _ _ h => h, c0', g0⟩
  obtain ⟨d1, t1, r1, X1, e1, wf1, th1, a1, b1⟩ := BR.gc br0 hp wf
  have pen1 := (hp.set t1 r1).app X1
  have hS : ∀ t' r', setPen (setPen S p c t1 r1 ++ X1) p c t' r' = setPen S p c t' r' ++ X1 := fun t' r' => by rw [setPen_app (by rw [setPen_len]; exact hp.plt), setPen_set]
  have hl : S.length ≤ (setPen S p c t1 r1 ++ X1).length := by simp
  have hpl := hp.plt
  generalize hS1 : setPen S p c t1 r1 ++ X1 = S1 at *
  obtain ⟨v, t2, r2, e2, v0, v1, a2, b2⟩ := draw_ok (k := 39) p c cs t1 r1 1000000000 S1 pen1 (by omega) (by omega) (by omega) (by omega)
  obtain ⟨u, t3, r3, e3, u0, u1, a3, b3⟩ := draw_ok (k := 39) p c cs t2 r2 12 _ (pen1.set t2 r2) (by omega) (by omega) (by omega) (by omega)
  rw [setPen_set] at e3
  have lt1 := th1.lt
  obtain ⟨d, t4, r4, e4, hm, a4, b4⟩ := pick_ok (k := 38) p c cs t3 r3 (setPen S1 p c t3 r3 ++ [.lst [d1, .int v, .tup [.str (Str.ofString "dial"), .int u], .tup [.str (Str.ofString "house")]]]) S1.length [d1, .int v, .tup [.str (Str.ofString "dial"), .int u], .tup [.str (Str.ofString "house")]] ((pen1.set t3 r3).app _) (by
    rw [List.getElem?_append_right (by simp)]; simp) (by simp) (by simp) (by omega) (by omega)
  rw [setPen_app (by rw [setPen_len]; exact pen1.plt), setPen_set] at e4
  have wfF : Wf (setPen S1 p c t4 r4 ++ [.lst [d1, .int v, .tup [.str (Str.ofString "dial"), .int u], .tup [.str (Str.ofString "house")]]]) := (wf1.pen pen1 t4 r4).app (by
    intro x hx
    simp at hx
    subst hx
    refine ltAll_of fun y hy => ?_
    simp at hy
    rcases hy with rfl | rfl | rfl | rfl
    · exact lt_mono (by simp) lt1
    · rfl
    · rfl
    · rfl)
  have thF : Th 5 (setPen S1 p c t4 r4 ++ [.lst [d1, .int v, .tup [.str (Str.ofString "dial"), .int u], .tup [.str (Str.ofString "house")]]]) (fun n => False ∨ S.length ≤ n) d 4000 := by
    have iT : ∀ i : Int, 0 ≤ i → i < 1000000000 → ∀ V A, Th 0 V A (.int i) 250 := fun i h0 h1 V A => Th.int.mpr ⟨by omega, by omega, Nat.le_refl _⟩
    simp only [List.mem_cons, List.not_mem_nil, or_false] at hm
    rcases hm with rfl | rfl | rfl | rfl
    · refine th1.mono (by omega) (by omega) (fun n h => h) fun n x h e => at_app ?_
      have : p ≠ n := by
        rcases h with h | h
        · exact h.elim
        · omega
      unfold setPen
      rw [List.getElem?_set_ne this]
      exact e
    · exact (iT v v0 v1 _ _).mono (by omega) (by omega) (fun _ h => h) fun _ _ _ e => e
    · refine Th.tup.mpr ⟨[(.str (Str.ofString "dial"), 100), (.int u, 250)], rfl, ?_, by simp⟩
      intro q hq
      simp at hq
      rcases hq with rfl | rfl
      · exact chk_le (by decide +kernel)
      · exact (iT u u0 (by omega) _ _).mono (by omega) (by omega) (fun _ h => h) fun _ _ _ e => e
    · exact chk_le (by decide +kernel)
  rw [hS, List.append_assoc] at wfF thF
  obtain ⟨d', X', eg, wf2, th⟩ := gc_thing hp wf t4 r4 (X1 ++ [.lst [d1, .int v, .tup [.str (Str.ofString "dial"), .int u], .tup [.str (Str.ofString "house")]]]) wfF d
  refine ⟨d', t4, r4, X', ?_, wf2, ?_, by omega, by omega⟩
  · have eg' : Mi.gc S d (setPen S1 p c t4 r4 ++ [.lst [d1, .int v, .tup [.str (Str.ofString "dial"), .int u], .tup [.str (Str.ofString "house")]]]) = .ok d' (setPen S p c t4 r4 ++ X') := by rw [hS, List.append_assoc]; exact eg
    simp [e1, pow9, e2, e3, gc_len, newC, e4, eg']
  · exact (th 5 (fun _ => False) 4000 thF).mono (Nat.le_refl _) (Nat.le_refl _) (fun n h => h.resolve_left id) fun _ _ _ h => h
end K56
namespace K56
open PySem L2 Mi
abbrev offs : List Nat := [0, 1, 2, 3, 4, 5, 6, 8, 9, 10, 11, 12, 13, 14, 15, 18, 19, 20, 21, 22, 23, 24, 25, 26, 29, 30, 31, 32, 33, 34]
def off (i : Nat) : Nat := offs.getD i 0
theorem made_at {W : Store} {d : D} (j : Nat) : (W ++ madeX W.length d)[W.length + j]? = (madeX W.length d)[j]? := by
  rw [List.getElem?_append_right (by omega)]
  congr 1
  omega
theorem refs_at {N : Nat} : ∀ {i : Nat}, i < 30 → L2.atI (refs N) (i : Int) = some (.ref (N + off i))
  | 0, _ => rfl
  | 1, _ => rfl
  | 2, _ => rfl
  | 3, _ => rfl
  | 4, _ => rfl
  | 5, _ => rfl
  | 6, _ => rfl
  | 7, _ => rfl
  | 8, _ => rfl
  | 9, _ => rfl
  | 10, _ => rfl
  | 11, _ => rfl
  | 12, _ => rfl
  | 13, _ => rfl
  | 14, _ => rfl
  | 15, _ => rfl
  | 16, _ => rfl
  | 17, _ => rfl
  | 18, _ => rfl
  | 19, _ => rfl
  | 20, _ => rfl
  | 21, _ => rfl
  | 22, _ => rfl
  | 23, _ => rfl
  | 24, _ => rfl
  | 25, _ => rfl
  | 26, _ => rfl
  | 27, _ => rfl
  | 28, _ => rfl
  | 29, _ => rfl
  | n + 30, h => absurd h (by omega)
theorem held_at {W : Store} {d : D} : ∀ {i : Nat}, i < 30 → Held (W.length + off i) (names.getD i (Str.ofString "")) (W ++ madeX W.length d)
  | 0, _ => held_v ((made_at 0).trans rfl)
  | 1, _ => held_v ((made_at 1).trans rfl)
  | 2, _ => held_v ((made_at 2).trans rfl)
  | 3, _ => held_v ((made_at 3).trans rfl)
  | 4, _ => held_v ((made_at 4).trans rfl)
  | 5, _ => held_v ((made_at 5).trans rfl)
  | 6, _ => held_v ((made_at 6).trans rfl)
  | 7, _ => held_c ((made_at 8).trans rfl)
  | 8, _ => held_c ((made_at 9).trans rfl)
  | 9, _ => held_c ((made_at 10).trans rfl)
  | 10, _ => held_c ((made_at 11).trans rfl)
  | 11, _ => held_c ((made_at 12).trans rfl)
  | 12, _ => held_c ((made_at 13).trans rfl)
  | 13, _ => held_c ((made_at 14).trans rfl)
  | 14, _ => held_c ((made_at 15).trans rfl)
  | 15, _ => held_c ((made_at 18).trans rfl)
  | 16, _ => held_c ((made_at 19).trans rfl)
  | 17, _ => held_c ((made_at 20).trans rfl)
  | 18, _ => held_c ((made_at 21).trans rfl)
  | 19, _ => held_c ((made_at 22).trans rfl)
  | 20, _ => held_c ((made_at 23).trans rfl)
  | 21, _ => held_c ((made_at 24).trans rfl)
  | 22, _ => held_c ((made_at 25).trans rfl)
  | 23, _ => held_c ((made_at 26).trans rfl)
  | 24, _ => held_c ((made_at 29).trans rfl)
  | 25, _ => held_c ((made_at 30).trans rfl)
  | 26, _ => held_c ((made_at 31).trans rfl)
  | 27, _ => held_c ((made_at 32).trans rfl)
  | 28, _ => held_c ((made_at 33).trans rfl)
  | 29, _ => held_c ((made_at 34).trans rfl)
  | n + 30, h => absurd h (by omega)
theorem made_top {W : Store} {d : D} : (W ++ madeX W.length d)[W.length + 36]? = some (.lst (refs W.length)) := (made_at 36).trans rfl
theorem made_len {W : Store} {d : D} : (W ++ madeX W.length d).length = W.length + 37 := by simp
abbrev reprC : CE := .cmp .NotEq (.bi .repr (.cons (.call 7 (.cons (.loc 5) .nil)) .nil)) (.bi .repr (.cons (.bin .Mult (.lst (.cons (.loc 4) .nil)) (.cst (.int 7))) .nil))
theorem repr_same {k w : Nat} {A : Nat → Prop} {W : Store} {d : D} (hk : k ≤ 40) (hw : w ≤ 100000) (th : Th k W A d w) {x0 x1 x2 x3 x6 x7 x8 : Option D} :
    evE ⟨semN T ct 40, ct⟩ reprC [x0, x1, x2, x3, some d, some (.ref (W.length + 36)), x6, x7, x8] (W ++ madeX W.length d) = .ok (.bl false) (W ++ madeX W.length d) := by
  obtain ⟨z, hz, hr⟩ := rep7 hk hw th
  have ld := th.lt
  have hf := fields_ok (k := 39) (S := W ++ madeX W.length d) (m := W.length + 36) (N := W.length) (d := d) made_top (by rw [made_len]; exact lt_mono (by omega) ld) ((made_at 0).trans rfl) ((made_at 1).trans rfl) ((made_at 2).trans rfl) ((made_at 3).trans rfl) ((made_at 4).trans rfl) ((made_at 5).trans rfl) ((made_at 6).trans rfl)
  have hr1 := hr (madeX W.length d ++ [.lst [d, d, d, d, d, d, d]]) (W ++ madeX W.length d).length (by rw [← List.append_assoc]; simp)
  have hr2 := hr (madeX W.length d ++ [.lst [d], .lst [d, d, d, d, d, d, d]]) ((W ++ madeX W.length d).length + 1) (by
    rw [← List.append_assoc, List.getElem?_append_right (by omega)]
    simp)
  rw [← List.append_assoc] at hr1 hr2
  have lv : d.lt (W ++ madeX W.length d).length = true := by rw [made_len]; exact lt_mono (by omega) ld
  generalize W ++ madeX W.length d = V at hf hr1 hr2 lv
  have g1 : Mi.gc V (.ref V.length) (V ++ [.lst [d, d, d, d, d, d, d]]) = .ok (.ref V.length) (V ++ [.lst [d, d, d, d, d, d, d]]) := gc_new0 (Nat.le_refl _) (by simp) (ltAll_of fun y hy => by
    simp at hy
    rw [hy]; exact lv)
  have g2 : ∀ T, Mi.gc V (.str z) (V ++ T) = .ok (.str z) V := fun T => gc_app0 rfl
  have m7 : binD .Mult (.ref V.length) (.int 7) (V ++ [.lst [d]]) = .ok (.ref (V.length + 1)) (V ++ [.lst [d], .lst [d, d, d, d, d, d, d]]) := by
    have e : (V ++ [Cell.lst [d]])[V.length]? = some (.lst [d]) := by simp
    simp only [binD, e]
    simp [newC, Mi.sizeOk, sizeLine_eq, List.replicate]
  simp [hf, g1, hr1, g2, newC, m7, hr2, ne_str hz, gc_same]
def blL (i : Nat) : List D := (List.range 30).map fun j => .bl (decide (i = j))
theorem rng30 {G : Gv} {L : Lcs} {S : Store} : evI G (.rng (.cons (.cst (.int 30)) .nil)) L S = .ok ((List.range 30).map fun (k : Nat) => D.int (k : Int), []) S := rng_of rfl (rng_len (n := 30) (by omega))
theorem bls_lt {i m : Nat} : D.ltAll m (blL i) = true := ltAll_of fun y hy => by
  obtain ⟨j, _, rfl⟩ := List.mem_map.mp hy
  rfl
theorem py_bls {S : Store} {n i : Nat} (e : S[n]? = some (.lst (blL i))) : py S (.ref n) = some (.list ((List.range 30).map fun j => .bool (decide (i = j)))) := by
  refine py_lst e ?_
  have : ∀ l : List Nat, allSome ((l.map fun j => D.bl (decide (i = j))).map (toPy 49 S)) = some (l.map fun j => .bool (decide (i = j))) := by
    intro l
    induction l with
    | nil => rfl
    | cons a l ih =>
      show (allSome ((l.map fun j => D.bl (decide (i = j))).map (toPy 49 S))).map (PyData.bool (decide (i = a)) :: ·) = _
      rw [ih]
      rfl
  exact this _
theorem bls_ne {S : Store} {n m i : Nat} (hi : i < 30) (e : S[n]? = some (.lst (blL i))) (e2 : S[m]? = some (.lst (blL i))) : cmpD .NotEq (.ref n) (.ref m) S = .ok (.bl false) S := by
  have h : eqD S (.ref n) (.ref m) = some true := by
    unfold eqD
    rw [py_bls e, py_bls e2]
    have h1 : (List.range 30).all (fun i => SeqAt.shaped (.list ((List.range 30).map fun j => .bool (decide (i = j)))) && PyData.eqv (.list ((List.range 30).map fun j => .bool (decide (i = j)))) (.list ((List.range 30).map fun j => .bool (decide (i = j))))) = true := by decide +kernel
    rw [List.all_eq_true] at h1
    have h2 := h1 i (List.mem_range.mpr hi)
    rw [Bool.and_eq_true] at h2
    simp only [h2.1, h2.2, Bool.and_self, if_true]
  show ofB ((eqD S (.ref n) (.ref m)).map (!·)) S = _
  rw [h]; rfl
abbrev marksC : CE := .cmp .NotEq (.call 4 (.cons (.idx (.loc 5) (.loc 6)) .nil)) (.lc [7] (.nm 7) (.rng (.cons (.cst (.int 30)) .nil)) (.cst (.bl true)) (.cmp .Eq (.loc 6) (.loc 7)))
abbrev noneC : CE := .cmp .NotEq (.lc [6] (.nm 6) (.rng (.cons (.cst (.int 30)) .nil)) marksC (.loc 6)) (.lst .nil)
theorem marks_at {W : Store} {d : D} {i : Nat} (hi : i < 30) {x0 x1 x2 x3 x4 x7 x8 : Option D} (xs : List D) :
    evE ⟨semN T ct 40, ct⟩ marksC [x0, x1, x2, x3, x4, some (.ref (W.length + 36)), some (.int i), x7, x8] (W ++ madeX W.length d ++ [.lst xs]) = .ok (.bl false) (W ++ madeX W.length d ++ [.lst xs]) := by
  have top := at_app (T := [.lst xs]) (made_top (W := W) (d := d))
  have hh := (held_at (W := W) (d := d) hi).app [.lst xs]
  generalize W ++ madeX W.length d ++ [.lst xs] = V at top hh
  have ix : idxD (.ref (W.length + 36)) (.int i) V = .ok (.ref (W.length + off i)) V := idx_lst top (refs_at hi)
  have mk : semN T ct 40 4 [.ref (W.length + off i)] V = .ok (.ref V.length) (V ++ [.lst (blL i)]) := marks_ok (k := 39) hi hh
  have g1 : Mi.gc V (.ref V.length) (V ++ [.lst (blL i)]) = .ok (.ref V.length) (V ++ [.lst (blL i)]) := gc_new0 (Nat.le_refl _) (by simp) bls_lt
  have lc : evE ⟨semN T ct 40, ct⟩ (.lc [7] (.nm 7) (.rng (.cons (.cst (.int 30)) .nil)) (.cst (.bl true)) (.cmp .Eq (.loc 6) (.loc 7))) [x0, x1, x2, x3, x4, some (.ref (W.length + 36)), some (.int i), x7, x8] (V ++ [.lst (blL i)]) = .ok (.ref (V ++ [Cell.lst (blL i)]).length) (V ++ [Cell.lst (blL i)] ++ [Cell.lst (blL i)]) := by
    have q := ev_lcT (G := ⟨semN T ct 40, ct⟩) (vs := [7]) (t := .nm 7) (L := [x0, x1, x2, x3, x4, some (.ref (W.length + 36)), some (.int i), x7, x8]) (S := V ++ [Cell.lst (blL i)]) (cnd := .cst (.bl true)) (e := .cmp .Eq (.loc 6) (.loc 7)) (fun _ => true) (fun (y : D) => match y with | .int j => D.bl (decide ((i : Int) = j)) | _ => D.non) (fun (y : D) => [x0, x1, x2, x3, x4, some (.ref (W.length + 36)), some (.int i), some y, x8]) rng30 (by simp) (fun _ => gok_nil) (by
      intro y hy ys
      obtain ⟨j, _, rfl⟩ := List.mem_map.mp hy
      refine ⟨rfl, rfl, fun _ => ?_⟩
      simp [gc_same]
      rfl) (by
      intro y hy _
      obtain ⟨j, _, rfl⟩ := List.mem_map.mp hy
      rfl)
    rw [q, filter_tt, List.map_map]
    have : ((List.range 30).map ((fun (y : D) => match y with | .int j => D.bl (decide ((i : Int) = j)) | _ => D.non) ∘ fun (k : Nat) => D.int (k : Int))) = blL i := by
      apply List.map_congr_left
      intro j _
      show D.bl (decide ((i : Int) = (j : Int))) = D.bl (decide (i = j))
      congr 1
      exact decide_eq_decide.mpr (by omega)
    rw [this]
  have ne := bls_ne (S := V ++ [.lst (blL i)] ++ [.lst (blL i)]) (n := V.length) (m := (V ++ [Cell.lst (blL i)]).length) hi (by simp) (by simp)
  have g2 : Mi.gc V (.bl false) (V ++ [.lst (blL i)] ++ [.lst (blL i)]) = .ok (.bl false) V := by rw [List.append_assoc]; exact gc_app0 rfl
  have c1' : evE ⟨semN T ct 40, ct⟩ (.call 4 (.cons (.idx (.loc 5) (.loc 6)) .nil)) [x0, x1, x2, x3, x4, some (.ref (W.length + 36)), some (.int i), x7, x8] V = .ok (.ref V.length) (V ++ [.lst (blL i)]) := by
    simp [ix, gc_same, mk, g1]
  rw [ev_cmp, c1', R.bind_ok, lc, R.bind_ok, ne, R.gc_ok, g2]
theorem none_wrong {W : Store} {d : D} {x0 x1 x2 x3 x4 x6 x7 x8 : Option D} :
    evE ⟨semN T ct 40, ct⟩ noneC [x0, x1, x2, x3, x4, some (.ref (W.length + 36)), x6, x7, x8] (W ++ madeX W.length d) = .ok (.bl false) (W ++ madeX W.length d) := by
  have q := ev_lcT (G := ⟨semN T ct 40, ct⟩) (vs := [6]) (t := .nm 6) (L := [x0, x1, x2, x3, x4, some (.ref (W.length + 36)), x6, x7, x8]) (S := W ++ madeX W.length d) (cnd := marksC) (e := .loc 6) (fun _ => false) (fun y => y) (fun y => [x0, x1, x2, x3, x4, some (.ref (W.length + 36)), some y, x7, x8]) rng30 (by simp) (fun _ => gok_nil) (by
    intro y hy xs
    obtain ⟨j, hj, rfl⟩ := List.mem_map.mp hy
    exact ⟨rfl, marks_at (List.mem_range.mp hj) xs, fun h => by cases h⟩) (fun y hy h => by cases h)
  have ef : ((List.range 30).map fun (k : Nat) => D.int (k : Int)).filter (fun _ => false) = [] := List.filter_eq_nil_iff.mpr fun _ _ h => by cases h
  rw [ef, List.map_nil] at q
  generalize W ++ madeX W.length d = V at q
  have ne : cmpD .NotEq (.ref V.length) (.ref (V ++ [Cell.lst []]).length) (V ++ [.lst []] ++ [.lst []]) = .ok (.bl false) (V ++ [.lst []] ++ [.lst []]) := ne_nilI (cs := []) (by simp) (by simp)
  have g2 : Mi.gc V (.bl false) (V ++ [.lst []] ++ [.lst []]) = .ok (.bl false) V := by rw [List.append_assoc]; exact gc_app0 rfl
  have l2 : evE ⟨semN T ct 40, ct⟩ (.lst .nil) [x0, x1, x2, x3, x4, some (.ref (W.length + 36)), x6, x7, x8] (V ++ [.lst []]) = .ok (.ref (V ++ [Cell.lst []]).length) (V ++ [.lst []] ++ [.lst []]) := rfl
  rw [ev_cmp, q, R.bind_ok, l2, R.bind_ok, ne, R.gc_ok, g2]
def undD (i : Nat) : List D := (undR i).map D.bl
def dueP : PyData := .list ((List.range 30).map fun i => .list ((undR i).map .bool))
structure DueOk (S : Store) : Prop where
  top : S[9]? = some (.lst (List.replicate 28 (.ref 3) ++ [.ref 6, .ref 7]))
  a : S[3]? = some (.lst (undD 0))
  b : S[6]? = some (.lst (undD 28))
  c : S[7]? = some (.lst (undD 29))
theorem DueOk.app {S : Store} (h : DueOk S) (X : Store) : DueOk (S ++ X) := ⟨at_app h.top, at_app h.a, at_app h.b, at_app h.c⟩
theorem DueOk.pen {S : Store} (h : DueOk S) {c : Nat} {t r : Int} : DueOk (setPen S 1 c t r) := by
  have key : ∀ n, n ≠ 1 → (setPen S 1 c t r)[n]? = S[n]? := fun n hn => by unfold setPen; rw [List.getElem?_set_ne (Ne.symm hn)]
  exact ⟨by rw [key _ (by decide)]; exact h.top, by rw [key _ (by decide)]; exact h.a, by rw [key _ (by decide)]; exact h.b, by rw [key _ (by decide)]; exact h.c⟩
theorem py_und {S : Store} {n i k : Nat} (e : S[n]? = some (.lst (undD i))) : toPy (k + 2) S (.ref n) = some (.list ((undR i).map .bool)) := by
  simp only [toPy, e]
  have : ∀ l : List Bool, allSome ((l.map D.bl).map (toPy (k + 1) S)) = some (l.map PyData.bool) := by
    intro l
    induction l with
    | nil => rfl
    | cons a l ih =>
      show (allSome ((l.map D.bl).map (toPy (k + 1) S))).map (PyData.bool a :: ·) = _
      rw [ih]
      rfl
  rw [undD, this]; rfl
theorem DueOk.py {S : Store} (h : DueOk S) : Mi.py S (.ref 9) = some dueP := by
  refine py_lst h.top ?_
  have a := py_und (k := 47) h.a
  have b := py_und (k := 47) h.b
  have c := py_und (k := 47) h.c
  simp only [List.map_append, List.map_replicate, List.map_cons, List.map_nil, a, b, c]
  rfl
abbrev undC : CE := .cmp .NotEq (.lc [8] (.nm 8) (.val (.loc 5)) (.cst (.bl true)) (.call 5 (.cons (.loc 8) .nil))) (.loc 2)
def undX (N i : Nat) : List Cell := .lst ((List.range i).map fun j => D.ref (N + 1 + j)) :: (List.range i).map fun j => .lst (undD j)
theorem undX_len (N i : Nat) : (undX N i).length = i + 1 := by simp [undX]
theorem und_all {W : Store} {d : D} (due : DueOk (W ++ madeX W.length d)) {x0 x1 x3 x4 x6 x7 x8 : Option D} :
    evE ⟨semN T ct 40, ct⟩ undC [x0, x1, some (.ref 9), x3, x4, some (.ref (W.length + 36)), x6, x7, x8] (W ++ madeX W.length d) = .ok (.bl false) (W ++ madeX W.length d) := by
  have top := made_top (W := W) (d := d)
  have hh := fun {i : Nat} (hi : i < 30) => held_at (W := W) (d := d) hi
  generalize W ++ madeX W.length d = V at top hh due
  have hw : walkD V (.ref (W.length + 36)) = some (refs W.length, [(W.length + 36, .lst (refs W.length))]) := by
    simp only [walkD, lstG, top]
  have it : evI ⟨semN T ct 40, ct⟩ (.val (.loc 5)) [x0, x1, some (.ref 9), x3, x4, some (.ref (W.length + 36)), x6, x7, x8] V = .ok (refs W.length, [(W.length + 36, .lst (refs W.length))]) V := by
    simp [hw]
  obtain ⟨S', e, hS⟩ := lc_inv (f := lcF ⟨semN T ct 40, ct⟩ (.nm 8) (.cst (.bl true)) (.call 5 (.cons (.loc 8) .nil)) (wipeL [x0, x1, some (.ref 9), x3, x4, some (.ref (W.length + 36)), x6, x7, x8] [8]) V.length) (g := [(W.length + 36, .lst (refs W.length))])
    (fun i S' => i ≤ 30 ∧ S' = V ++ undX V.length i) (refs W.length) 0 (V ++ [.lst []]) ⟨by omega, rfl⟩ (by
      rintro i S' ⟨_, rfl⟩ q hq
      simp at hq
      subst hq
      exact at_app top) (by
      rintro i y S' _ hy ⟨hi, rfl⟩
      have hi : i < 30 := by have := (List.getElem?_eq_some_iff.mp hy).1; simpa using this
      have ey : y = .ref (W.length + off i) := by
        have r := refs_at (N := W.length) hi
        rw [Mi.atI_nat (by simpa using hy)] at r
        exact Option.some.inj r
      subst ey
      have hu : semN T ct 40 5 [.ref (W.length + off i)] (V ++ undX V.length i) = .ok (.ref (V ++ undX V.length i).length) (V ++ undX V.length i ++ [.lst (undD i)]) := under_ok (k := 39) hi ((hh hi).app _)
      have g1 : Mi.gc (V ++ undX V.length i) (.ref (V ++ undX V.length i).length) (V ++ undX V.length i ++ [.lst (undD i)]) = .ok (.ref (V ++ undX V.length i).length) (V ++ undX V.length i ++ [.lst (undD i)]) := gc_new0 (Nat.le_refl _) (by simp) (ltAll_of fun y hy => by
        obtain ⟨b, _, rfl⟩ := List.mem_map.mp hy
        rfl)
      have la : (V ++ undX V.length i).length = V.length + 1 + i := by rw [List.length_append, undX_len]; omega
      have ec : (V ++ undX V.length i ++ [.lst (undD i)])[V.length]? = some (.lst ((List.range i).map fun j => D.ref (V.length + 1 + j))) := by
        rw [List.append_assoc, List.getElem?_append_right (Nat.le_refl _)]
        simp [undX]
      refine ⟨V ++ undX V.length (i + 1), ?_, by omega, rfl⟩
      have ev1 : evE ⟨semN T ct 40, ct⟩ (.call 5 (.cons (.loc 8) .nil)) [x0, x1, some (.ref 9), x3, x4, some (.ref (W.length + 36)), x6, x7, some (.ref (W.length + off i))] (V ++ undX V.length i) = .ok (.ref (V ++ undX V.length i).length) (V ++ undX V.length i ++ [.lst (undD i)]) := by
        have l8 : evE ⟨semN T ct 40, ct⟩ (.loc 8) [x0, x1, some (.ref 9), x3, x4, some (.ref (W.length + 36)), x6, x7, some (.ref (W.length + off i))] (V ++ undX V.length i) = .ok (.ref (W.length + off i)) (V ++ undX V.length i) := rfl
        rw [ev_call, ev_acons, l8, R.bind_ok, ev_anil, R.bind_ok, R.bind_ok]
        show (semN T ct 40 5 [.ref (W.length + off i)] (V ++ undX V.length i)).gc _ = _
        rw [hu, R.gc_ok, g1]
      have ha : ((List.range i).map fun j => D.ref (V.length + 1 + j)).length < sizeLine := by rw [List.length_map, List.length_range, sizeLine_eq]; omega
      show (ofO (asgT (.nm 8) (.ref (W.length + off i)) _ [x0, x1, some (.ref 9), x3, x4, some (.ref (W.length + 36)), x6, x7, none]) _).bind _ = _
      have aa : asgT (.nm 8) (.ref (W.length + off i)) (V ++ undX V.length i) [x0, x1, some (.ref 9), x3, x4, some (.ref (W.length + 36)), x6, x7, none] = some [x0, x1, some (.ref 9), x3, x4, some (.ref (W.length + 36)), x6, x7, some (.ref (W.length + off i))] := rfl
      rw [aa, ofO_some, R.bind_ok, ev_cst, R.bind_ok, ifB_t, ev1, R.bind_ok]
      simp only [ec, if_pos ha]
      congr 1
      rw [List.append_assoc, List.set_append_right _ _ (Nat.le_refl _), Nat.sub_self, la]
      simp [undX, List.range_succ])
  obtain ⟨_, rfl⟩ := hS
  rw [show 0 + (refs W.length).length = 30 from rfl] at e
  have lc : evE ⟨semN T ct 40, ct⟩ (.lc [8] (.nm 8) (.val (.loc 5)) (.cst (.bl true)) (.call 5 (.cons (.loc 8) .nil))) [x0, x1, some (.ref 9), x3, x4, some (.ref (W.length + 36)), x6, x7, x8] V = .ok (.ref V.length) (V ++ undX V.length 30) := by
    rw [ev_lcE, it, R.bind_ok]
    rw [e, R.bind_ok, R.gc_ok]
    exact gc_ref_keep (c := .lst ((List.range 30).map fun j => D.ref (V.length + 1 + j))) (by rw [List.getElem?_append_right (Nat.le_refl _)]; simp [undX]) (by
      show D.ltAll V.length _ = false
      rw [List.range_succ_eq_map]
      simp [D.ltAll, D.lt]
      intro h
      omega) (Nat.le_refl _)
  have hp : py (V ++ undX V.length 30) (.ref V.length) = some dueP := by
    refine py_lst (ds := (List.range 30).map fun j => D.ref (V.length + 1 + j)) (by rw [List.getElem?_append_right (Nat.le_refl _)]; simp [undX]) ?_
    have key : ∀ l : List Nat, (∀ j ∈ l, j < 30) → allSome ((l.map fun j => D.ref (V.length + 1 + j)).map (toPy 49 (V ++ undX V.length 30))) = some (l.map fun i => .list ((undR i).map .bool)) := by
      intro l
      induction l with
      | nil => intro _; rfl
      | cons a l ih =>
        intro hl
        have ha := hl a (by simp)
        have e1 : (V ++ undX V.length 30)[V.length + 1 + a]? = some (.lst (undD a)) := by
          rw [List.getElem?_append_right (by omega), show V.length + 1 + a - V.length = a + 1 by omega]
          show ((List.range 30).map fun j => Cell.lst (undD j))[a]? = _
          rw [List.getElem?_map, List.getElem?_range ha]; rfl
        have e2 := py_und (k := 47) e1
        simp only [List.map_cons, allSome, e2]
        rw [ih fun j hj => hl j (by simp [hj])]
        rfl
    exact key _ fun j hj => List.mem_range.mp hj
  have hp2 := (due.app (undX V.length 30)).py
  have eq : eqD (V ++ undX V.length 30) (.ref V.length) (.ref 9) = some true := by
    unfold eqD
    rw [hp, hp2]
    decide +kernel
  have l2 : evE ⟨semN T ct 40, ct⟩ (.loc 2) [x0, x1, some (.ref 9), x3, x4, some (.ref (W.length + 36)), x6, x7, x8] (V ++ undX V.length 30) = .ok (.ref 9) (V ++ undX V.length 30) := rfl
  have cm : cmpD .NotEq (.ref V.length) (.ref 9) (V ++ undX V.length 30) = .ok (.bl false) (V ++ undX V.length 30) := by
    show ofB ((eqD _ _ _).map (!·)) _ = _
    rw [eq]; rfl
  rw [ev_cmp, lc, R.bind_ok, l2, R.bind_ok, cm, R.gc_ok]
  exact gc_app0 rfl
end K56
namespace K56
open PySem L2 Mi
theorem gv_fn {F : Nat → List D → Store → R D} {c : Nat → Option D} : (Gv.mk F c).fn = F := rfl
theorem call1 {G : Gv} {f : Nat} {L : Lcs} {S : Store} {e : CE} {d : D} (he : evE G e L S = .ok d S) : evE G (.call f (.cons e .nil)) L S = (G.fn f [d] S).gc S := by
  rw [ev_call, ev_acons, he, R.bind_ok, ev_anil, R.bind_ok, R.bind_ok]
abbrev turnB : CSs := .asg (.nm 4) thingE (.asg (.nm 5) (.call 6 (.cons (.loc 4) .nil)) (.ifs reprC (.ret (.cst (.bl false))) .nil (.ifs noneC (.ret (.cst (.bl false))) .nil (.ifs undC (.ret (.cst (.bl false))) .nil .nil))))
set_option maxHeartbeats 1000000 in
theorem turn_ok {cs : List Int} {t r : Int} {S : Store} (hp : Pen 1 2 cs t r S) (wf : Wf S) (due : DueOk S) (h0 : 0 ≤ t) (h1 : t < 2 ^ 40) {i : D} {x0 x3 x4 x5 x6 x7 x8 : Option D} :
    ∃ y4 y5 t' r' S', body2 ⟨semN T ct 40, ct⟩ (.nm 3) turnB i [x0, some (.ref 1), some (.ref 9), x3, x4, x5, x6, x7, x8] S = .ok (.nx, [x0, some (.ref 1), some (.ref 9), some i, y4, y5, x6, x7, x8]) S' ∧ Pen 1 2 cs t' r' S' ∧ Wf S' ∧ DueOk S' ∧ t ≤ t' ∧ t' ≤ t + 4 := by
  obtain ⟨d, t', r', X, e, wf', th, a, b⟩ := thing_ok hp wf h0 h1 (x0 := x0) (x2 := some (.ref 9)) (x3 := some i) (x4 := x4) (x5 := x5) (x6 := x6) (x7 := x7) (x8 := x8)
  have pen' := (hp.set t' r').app X
  have due' : DueOk (setPen S 1 2 t' r' ++ X) := due.pen.app X
  generalize setPen S 1 2 t' r' ++ X = W at e wf' th pen' due'
  have ld := th.lt
  have mk : semN T ct 40 6 [d] W = .ok (.ref (W.length + 36)) (W ++ madeX W.length d) := made_ok (k := 39)
  have gk : Mi.gc W (.ref (W.length + 36)) (W ++ madeX W.length d) = .ok (.ref (W.length + 36)) (W ++ madeX W.length d) := gc_ref_keep (c := .lst (refs W.length)) made_top (by simp [Cell.lt, D.ltAll, D.lt]) (by omega)
  have due2 := due'.app (madeX W.length d)
  refine ⟨some d, some (.ref (W.length + 36)), t', r', W ++ madeX W.length d, ?_, pen'.app _, wf'.app ?_, due2, a, b⟩
  · have e1 := repr_same (W := W) (d := d) (by omega) (by omega) th (x0 := x0) (x1 := some (.ref 1)) (x2 := some (.ref 9)) (x3 := some i) (x6 := x6) (x7 := x7) (x8 := x8)
    have e2 := none_wrong (W := W) (d := d) (x0 := x0) (x1 := some (.ref 1)) (x2 := some (.ref 9)) (x3 := some i) (x4 := some d) (x6 := x6) (x7 := x7) (x8 := x8)
    have e3 := und_all (W := W) (d := d) due2 (x0 := x0) (x1 := some (.ref 1)) (x3 := some i) (x4 := some d) (x6 := x6) (x7 := x7) (x8 := x8)
    have a1 : ∀ V, asgT (.nm 3) i V [x0, some (.ref 1), some (.ref 9), x3, x4, x5, x6, x7, x8] = some [x0, some (.ref 1), some (.ref 9), some i, x4, x5, x6, x7, x8] := fun _ => rfl
    have a2 : ∀ V, asgT (.nm 4) d V [x0, some (.ref 1), some (.ref 9), some i, x4, x5, x6, x7, x8] = some [x0, some (.ref 1), some (.ref 9), some i, some d, x5, x6, x7, x8] := fun _ => rfl
    have a3 : ∀ V, asgT (.nm 5) (.ref (W.length + 36)) V [x0, some (.ref 1), some (.ref 9), some i, some d, x5, x6, x7, x8] = some [x0, some (.ref 1), some (.ref 9), some i, some d, some (.ref (W.length + 36)), x6, x7, x8] := fun _ => rfl
    have c5 : evE ⟨semN T ct 40, ct⟩ (.call 6 (.cons (.loc 4) .nil)) [x0, some (.ref 1), some (.ref 9), some i, some d, x5, x6, x7, x8] W = .ok (.ref (W.length + 36)) (W ++ madeX W.length d) := by
      have l4 : evE ⟨semN T ct 40, ct⟩ (.loc 4) [x0, some (.ref 1), some (.ref 9), some i, some d, x5, x6, x7, x8] W = .ok d W := rfl
      rw [call1 l4, gv_fn, mk, R.gc_ok, gk]
    clear mk gk due2 ld th pen' wf' due'
    generalize W ++ madeX W.length d = V at e1 e2 e3 c5
    show (ofO (asgT (.nm 3) i S [x0, some (.ref 1), some (.ref 9), x3, x4, x5, x6, x7, x8]) S).bind (fun L2 S3 => exS ⟨semN T ct 40, ct⟩ turnB L2 S3) = _
    rw [a1, ofO_some, R.bind_ok, ex_asg, e, R.bind_ok, a2, ofO_some, R.bind_ok, ex_asg, c5, R.bind_ok, a3, ofO_some, R.bind_ok]
    rw [ex_ifs, e1, R.bind_ok, ifB_f, ex_nil, then_nx, ex_ifs, e2, R.bind_ok, ifB_f, ex_nil, then_nx, ex_ifs, e3, R.bind_ok, ifB_f, ex_nil, then_nx, ex_nil]
  · intro x hx
    have l37 : (madeX W.length d).length = 37 := rfl
    rw [l37]
    have ld' : d.lt (W.length + 37) = true := lt_mono (by omega) ld
    simp only [madeX, List.mem_cons, List.not_mem_nil, or_false] at hx
    rcases hx with rfl | rfl | rfl | rfl | rfl | rfl | rfl | rfl | rfl | rfl | rfl | rfl | rfl | rfl | rfl | rfl | rfl | rfl | rfl | rfl | rfl | rfl | rfl | rfl | rfl | rfl | rfl | rfl | rfl | rfl | rfl | rfl | rfl | rfl | rfl | rfl | rfl
    all_goals first
      | exact ld'
      | rfl
      | (simp [Cell.lt, D.ltAll, D.lt])
theorem law_ok (ns : List Int) (hl : ns.length ≤ 63) (hb : ∀ z ∈ ns, Builtin.Int.intBits z ≤ 1048576) : ∃ S', semN T ct 41 8 [.ref 0] [.frz (ns.map .int)] = .ok (.bl true) S' := by
  rw [sem_run (f := c8) rfl, runF_fin rfl]
  have pm : semN T ct 40 0 [.ref 0] [.frz (ns.map .int)] = .ok (.ref 1) [.frz (ns.map .int), penC 2 0 0, .lst ((ns.take 63).map .int)] := pen_made (k := 39)
  have z1 : evE ⟨semN T ct 40, ct⟩ (.call 0 (.cons (.loc 0) .nil)) [some (.ref 0), none, none, none, none, none, none, none, none] [.frz (ns.map .int)] = .ok (.ref 1) [.frz (ns.map .int), penC 2 0 0, .lst ((ns.take 63).map .int)] := by
    show (semN T ct 40 0 [.ref 0] [.frz (ns.map .int)]).gc [.frz (ns.map .int)] = _
    rw [pm, R.gc_ok]
    exact gc_ref_keep (c := penC 2 0 0) rfl rfl (Nat.le_refl _)
  have hl : ∀ (l : List Int) m, D.ltAll m (l.map .int) = true := fun l m => ints_lt m l
  have z2 : evE ⟨semN T ct 40, ct⟩ (.bin .Mult (.lst (.cons (.lst (.cons (.cst (.bl true)) (.cons (.cst (.bl true)) (.cons (.cst (.bl false)) (.cons (.cst (.bl false)) (.cons (.cst (.bl false)) (.cons (.cst (.bl false)) .nil))))))) .nil)) (.cst (.int 28))) [some (.ref 0), some (.ref 1), none, none, none, none, none, none, none] [.frz (ns.map .int), penC 2 0 0, .lst ((ns.take 63).map .int)] = .ok (.ref 5) [.frz (ns.map .int), penC 2 0 0, .lst ((ns.take 63).map .int), .lst (undD 0), .lst [.ref 3], .lst (List.replicate 28 (.ref 3))] := by
    rfl
  have z3 : evE ⟨semN T ct 40, ct⟩ (.bin .Add (.loc 2) (.lst (.cons (.lst (.cons (.cst (.bl false)) (.cons (.cst (.bl false)) (.cons (.cst (.bl true)) (.cons (.cst (.bl false)) (.cons (.cst (.bl false)) (.cons (.cst (.bl false)) .nil))))))) (.cons (.lst (.cons (.cst (.bl false)) (.cons (.cst (.bl false)) (.cons (.cst (.bl false)) (.cons (.cst (.bl false)) (.cons (.cst (.bl true)) (.cons (.cst (.bl false)) .nil))))))) .nil)))) [some (.ref 0), some (.ref 1), some (.ref 5), none, none, none, none, none, none] [.frz (ns.map .int), penC 2 0 0, .lst ((ns.take 63).map .int), .lst (undD 0), .lst [.ref 3], .lst (List.replicate 28 (.ref 3))] = .ok (.ref 9) [.frz (ns.map .int), penC 2 0 0, .lst ((ns.take 63).map .int), .lst (undD 0), .lst [.ref 3], .lst (List.replicate 28 (.ref 3)), .lst (undD 28), .lst (undD 29), .lst [.ref 6, .ref 7], .lst (List.replicate 28 (.ref 3) ++ [.ref 6, .ref 7])] := by
    rfl
  have hp : Pen 1 2 (ns.take 63) 0 0 [.frz (ns.map .int), penC 2 0 0, .lst ((ns.take 63).map .int), .lst (undD 0), .lst [.ref 3], .lst (List.replicate 28 (.ref 3)), .lst (undD 28), .lst (undD 29), .lst [.ref 6, .ref 7], .lst (List.replicate 28 (.ref 3) ++ [.ref 6, .ref 7])] := ⟨rfl, rfl⟩
  have due : DueOk [.frz (ns.map .int), penC 2 0 0, .lst ((ns.take 63).map .int), .lst (undD 0), .lst [.ref 3], .lst (List.replicate 28 (.ref 3)), .lst (undD 28), .lst (undD 29), .lst [.ref 6, .ref 7], .lst (List.replicate 28 (.ref 3) ++ [.ref 6, .ref 7])] := ⟨rfl, rfl, rfl, rfl⟩
  have wf : Wf [.frz (ns.map .int), penC 2 0 0, .lst ((ns.take 63).map .int), .lst (undD 0), .lst [.ref 3], .lst (List.replicate 28 (.ref 3)), .lst (undD 28), .lst (undD 29), .lst [.ref 6, .ref 7], .lst (List.replicate 28 (.ref 3) ++ [.ref 6, .ref 7])] := by
    intro n x e
    match n, e with
    | 0, e => cases e; exact hl _ _
    | 1, e => cases e; rfl
    | 2, e => cases e; exact hl _ _
    | 3, e => cases e; rfl
    | 4, e => cases e; rfl
    | 5, e => cases e; rfl
    | 6, e => cases e; rfl
    | 7, e => cases e; rfl
    | 8, e => cases e; rfl
    | 9, e => cases e; rfl
    | n + 10, e => cases e
  generalize [.frz (ns.map .int), penC 2 0 0, .lst ((ns.take 63).map .int), .lst (undD 0), .lst [.ref 3], .lst (List.replicate 28 (.ref 3)), .lst (undD 28), .lst (undD 29), .lst [.ref 6, .ref 7], .lst (List.replicate 28 (.ref 3) ++ [.ref 6, .ref 7])] = S1 at z3 hp due wf
  obtain ⟨L', S', e, _⟩ := for_inv (f := body2 ⟨semN T ct 40, ct⟩ (.nm 3) turnB) (g := []) (fun i L S => ∃ y3 y4 y5 t r, L = [some (.ref 0), some (.ref 1), some (.ref 9), y3, y4, y5, none, none, none] ∧ Pen 1 2 (ns.take 63) t r S ∧ Wf S ∧ DueOk S ∧ 0 ≤ t ∧ t ≤ 4 * i) ((List.range 4).map fun (k : Nat) => D.int (k : Int)) 0 [some (.ref 0), some (.ref 1), some (.ref 9), none, none, none, none, none, none] S1
    ⟨none, none, none, 0, 0, rfl, hp, wf, due, by omega, by omega⟩ (fun _ _ _ _ => gok_nil) (by
      rintro i d L S _ hd ⟨y3, y4, y5, t, r, rfl, hp, wf, due, h0, h1⟩
      rw [Nat.sub_zero] at hd
      obtain ⟨rfl, hi⟩ := rng_get hd
      obtain ⟨y4, y5, t', r', S', e, hp', wf', due', a, b⟩ := turn_ok hp wf due h0 (by omega) (i := .int (i : Int)) (x0 := some (.ref 0)) (x3 := y3) (x4 := y4) (x5 := y5) (x6 := none) (x7 := none) (x8 := none)
      exact ⟨_, _, e, some (.int (i : Int)), y4, y5, t', r', rfl, hp', wf', due', by omega, by omega⟩)
  have z4 : evI ⟨semN T ct 40, ct⟩ (.rng (.cons (.cst (.int 4)) .nil)) [some (.ref 0), some (.ref 1), some (.ref 9), none, none, none, none, none, none] S1 = .ok ((List.range 4).map fun (k : Nat) => D.int (k : Int), []) S1 := rng_of rfl (rng_len (n := 4) (by omega))
  have w1 : ∀ V, asgT (.nm 1) (.ref 1) V [some (.ref 0), none, none, none, none, none, none, none, none] = some [some (.ref 0), some (.ref 1), none, none, none, none, none, none, none] := fun _ => rfl
  have w2 : ∀ V, asgT (.nm 2) (.ref 5) V [some (.ref 0), some (.ref 1), none, none, none, none, none, none, none] = some [some (.ref 0), some (.ref 1), some (.ref 5), none, none, none, none, none, none] := fun _ => rfl
  have w3 : ∀ V, asgT (.nm 2) (.ref 9) V [some (.ref 0), some (.ref 1), some (.ref 5), none, none, none, none, none, none] = some [some (.ref 0), some (.ref 1), some (.ref 9), none, none, none, none, none, none] := fun _ => rfl
  show ∃ S', (fin (exS _ (.asg (.nm 1) _ (.asg (.nm 2) _ (.asg (.nm 2) _ (.for_ (.nm 3) _ turnB (.ret (.cst (.bl true))))))) [some (.ref 0), none, none, none, none, none, none, none, none] [.frz (ns.map .int)])).gc _ = .ok (.bl true) S'
  rw [ex_asg, z1, R.bind_ok, w1, ofO_some, R.bind_ok, ex_asg, z2, R.bind_ok, w2, ofO_some, R.bind_ok, ex_asg, z3, R.bind_ok, w3, ofO_some, R.bind_ok, ex_for, z4, R.bind_ok]
  show ∃ S', (fin (thenS _ _ (forLoop _ _ _ _ _))).gc _ = .ok (.bl true) S'
  rw [e, then_nx, ex_ret, ev_cst, R.bind_ok, fin_ret, R.gc_ok]
  exact gc_bl
end K56
open PySem PySem.W PyProof.Rows
set_option maxHeartbeats 0 in
theorem PySem.Challenge.cw_pawldials_k56_refusals_made_of_their_fie_holds : PySem.Challenge.rw_pawldials_k56_refusals_made_of_their_fie.Holds := by
  w_on; o_law; k_head; (case hw => w_witness2)
  k_fill
  refine Mi.walk_mi (l := PySem.Challenge.rw_pawldials_k56_refusals_made_of_their_fie) (m := 63) (k := 41) (n := 60) (iL := 8) (nm := K56.nm) (T := K56.T) (ct := K56.ct) rfl (by decide) rfl (by refine ⟨rfl, ?_, ?_⟩ <;> decide) (by first | rfl | decide +kernel) (fun w h Y => PySem.W.kIn_of Y) (by first | rfl | decide +kernel) (fun cf h => by cases h; rfl) ?F (fun ns hl hb => K56.law_ok ns hl hb)
  case F =>
    intro w mg h KX G
    refine ⟨Mi.rows_of (fns := K56.fns) ?R, Mi.cts_of (cts := K56.cts) ?Q, ?B, ?X, Mi.ix_of (asked := K56.asked) ?I, ?C, ?FX⟩
    case R =>
      refine Mi.rows_cons ?_ ?_
      · refine' Mi.row_mk KX G K56.e0 rfl (by decide +kernel) ?a ?l ?c ?k; (case a => k_is); (case l => k_is); (case c => k_is); (case k => k_is)
      refine Mi.rows_cons ?_ ?_
      · refine' Mi.row_mk KX G K56.e1 rfl (by decide +kernel) ?a ?l ?c ?k; (case a => k_is); (case l => k_is); (case c => k_is); (case k => k_is)
      refine Mi.rows_cons ?_ ?_
      · refine' Mi.row_mk KX G K56.e2 rfl (by decide +kernel) ?a ?l ?c ?k; (case a => k_is); (case l => k_is); (case c => k_is); (case k => k_is)
      refine Mi.rows_cons ?_ ?_
      · refine' Mi.row_mk KX G K56.e3 rfl (by decide +kernel) ?a ?l ?c ?k; (case a => k_is); (case l => k_is); (case c => k_is); (case k => k_is)
      refine Mi.rows_cons ?_ ?_
      · refine' Mi.row_mk KX G K56.e4 rfl (by decide +kernel) ?a ?l ?c ?k; (case a => k_is); (case l => k_is); (case c => k_is); (case k => k_is)
      refine Mi.rows_cons ?_ ?_
      · refine' Mi.row_mk KX G K56.e5 rfl (by decide +kernel) ?a ?l ?c ?k; (case a => k_is); (case l => k_is); (case c => k_is); (case k => k_is)
      refine Mi.rows_cons ?_ ?_
      · refine' Mi.row_mk KX G K56.e6 rfl (by decide +kernel) ?a ?l ?c ?k; (case a => k_is); (case l => k_is); (case c => k_is); (case k => k_is)
      refine Mi.rows_cons ?_ ?_
      · refine' Mi.row_mk KX G K56.e7 rfl (by decide +kernel) ?a ?l ?c ?k; (case a => k_is); (case l => k_is); (case c => k_is); (case k => k_is)
      refine Mi.rows_cons ?_ ?_
      · refine' Mi.row_mk KX G K56.e8 rfl (by decide +kernel) ?a ?l ?c ?k; (case a => k_is); (case l => k_is); (case c => k_is); (case k => k_is)
      exact Mi.rows_nil
    case Q =>
      exact Mi.cts_nil
    case B =>
      refine Mi.bls_cons ?_ ?_
      · refine' Mi.bl_mk KX G ?a; (case a => k_is)
      refine Mi.bls_cons ?_ ?_
      · refine' Mi.bl_mk KX G ?a; (case a => k_is)
      refine Mi.bls_cons ?_ ?_
      · refine' Mi.bl_mk KX G ?a; (case a => k_is)
      refine Mi.bls_cons ?_ ?_
      · refine' Mi.bl_mk KX G ?a; (case a => k_is)
      refine Mi.bls_cons ?_ ?_
      · refine' Mi.bl_mk KX G ?a; (case a => k_is)
      refine Mi.bls_cons ?_ ?_
      · refine' Mi.bl_mk KX G ?a; (case a => k_is)
      exact Mi.bls_nil
    case X =>
      refine Mi.xs_cons ?_ ?_
      · refine' Mi.xc_mk2 KX G PySem.F.excBase_ValueError (by decide +kernel) ?mi_a ?mi_k ?mi_q ?mi_s ?mi_t ?mi_f1 ?mi_f2 ?mi_f3 ?mi_f4 ?mi_f5 ?mi_f6 ?mi_f7; (case mi_a => k_is); (case mi_k => k_is); (case mi_q => k_exc); (case mi_s => k_is); (case mi_t => k_is); (case mi_f1 => k_is); (case mi_f2 => k_is); (case mi_f3 => k_is); (case mi_f4 => k_is); (case mi_f5 => k_is); (case mi_f6 => k_is); (case mi_f7 => k_is)
      refine Mi.xs_cons ?_ ?_
      · refine' Mi.xc_mk2 KX G PySem.F.excBase_ValueError (by decide +kernel) ?mi_a ?mi_k ?mi_q ?mi_s ?mi_t ?mi_f1 ?mi_f2 ?mi_f3 ?mi_f4 ?mi_f5 ?mi_f6 ?mi_f7; (case mi_a => k_is); (case mi_k => k_is); (case mi_q => k_exc); (case mi_s => k_is); (case mi_t => k_is); (case mi_f1 => k_is); (case mi_f2 => k_is); (case mi_f3 => k_is); (case mi_f4 => k_is); (case mi_f5 => k_is); (case mi_f6 => k_is); (case mi_f7 => k_is)
      refine Mi.xs_cons ?_ ?_
      · refine' Mi.xc_mk2 KX G PySem.F.excBase_ValueError (by decide +kernel) ?mi_a ?mi_k ?mi_q ?mi_s ?mi_t ?mi_f1 ?mi_f2 ?mi_f3 ?mi_f4 ?mi_f5 ?mi_f6 ?mi_f7; (case mi_a => k_is); (case mi_k => k_is); (case mi_q => k_exc); (case mi_s => k_is); (case mi_t => k_is); (case mi_f1 => k_is); (case mi_f2 => k_is); (case mi_f3 => k_is); (case mi_f4 => k_is); (case mi_f5 => k_is); (case mi_f6 => k_is); (case mi_f7 => k_is)
      refine Mi.xs_cons ?_ ?_
      · refine' Mi.xc_mk2 KX G PySem.F.excBase_ValueError (by decide +kernel) ?mi_a ?mi_k ?mi_q ?mi_s ?mi_t ?mi_f1 ?mi_f2 ?mi_f3 ?mi_f4 ?mi_f5 ?mi_f6 ?mi_f7; (case mi_a => k_is); (case mi_k => k_is); (case mi_q => k_exc); (case mi_s => k_is); (case mi_t => k_is); (case mi_f1 => k_is); (case mi_f2 => k_is); (case mi_f3 => k_is); (case mi_f4 => k_is); (case mi_f5 => k_is); (case mi_f6 => k_is); (case mi_f7 => k_is)
      refine Mi.xs_cons ?_ ?_
      · refine' Mi.xc_mk2 KX G PySem.F.excBase_ValueError (by decide +kernel) ?mi_a ?mi_k ?mi_q ?mi_s ?mi_t ?mi_f1 ?mi_f2 ?mi_f3 ?mi_f4 ?mi_f5 ?mi_f6 ?mi_f7; (case mi_a => k_is); (case mi_k => k_is); (case mi_q => k_exc); (case mi_s => k_is); (case mi_t => k_is); (case mi_f1 => k_is); (case mi_f2 => k_is); (case mi_f3 => k_is); (case mi_f4 => k_is); (case mi_f5 => k_is); (case mi_f6 => k_is); (case mi_f7 => k_is)
      refine Mi.xs_cons ?_ ?_
      · refine' Mi.xc_mk2 KX G PySem.F.excBase_ValueError (by decide +kernel) ?mi_a ?mi_k ?mi_q ?mi_s ?mi_t ?mi_f1 ?mi_f2 ?mi_f3 ?mi_f4 ?mi_f5 ?mi_f6 ?mi_f7; (case mi_a => k_is); (case mi_k => k_is); (case mi_q => k_exc); (case mi_s => k_is); (case mi_t => k_is); (case mi_f1 => k_is); (case mi_f2 => k_is); (case mi_f3 => k_is); (case mi_f4 => k_is); (case mi_f5 => k_is); (case mi_f6 => k_is); (case mi_f7 => k_is)
      refine Mi.xs_cons ?_ ?_
      · refine' Mi.xc_mk2 KX G PySem.F.excBase_ValueError (by decide +kernel) ?mi_a ?mi_k ?mi_q ?mi_s ?mi_t ?mi_f1 ?mi_f2 ?mi_f3 ?mi_f4 ?mi_f5 ?mi_f6 ?mi_f7; (case mi_a => k_is); (case mi_k => k_is); (case mi_q => k_exc); (case mi_s => k_is); (case mi_t => k_is); (case mi_f1 => k_is); (case mi_f2 => k_is); (case mi_f3 => k_is); (case mi_f4 => k_is); (case mi_f5 => k_is); (case mi_f6 => k_is); (case mi_f7 => k_is)
      refine Mi.xs_cons ?_ ?_
      · refine' Mi.xc_mk2 KX G PySem.F.excBase_ValueError (by decide +kernel) ?mi_a ?mi_k ?mi_q ?mi_s ?mi_t ?mi_f1 ?mi_f2 ?mi_f3 ?mi_f4 ?mi_f5 ?mi_f6 ?mi_f7; (case mi_a => k_is); (case mi_k => k_is); (case mi_q => k_exc); (case mi_s => k_is); (case mi_t => k_is); (case mi_f1 => k_is); (case mi_f2 => k_is); (case mi_f3 => k_is); (case mi_f4 => k_is); (case mi_f5 => k_is); (case mi_f6 => k_is); (case mi_f7 => k_is)
      refine Mi.xs_cons ?_ ?_
      · refine' Mi.xc_mk2 KX G PySem.F.excBase_ValueError (by decide +kernel) ?mi_a ?mi_k ?mi_q ?mi_s ?mi_t ?mi_f1 ?mi_f2 ?mi_f3 ?mi_f4 ?mi_f5 ?mi_f6 ?mi_f7; (case mi_a => k_is); (case mi_k => k_is); (case mi_q => k_exc); (case mi_s => k_is); (case mi_t => k_is); (case mi_f1 => k_is); (case mi_f2 => k_is); (case mi_f3 => k_is); (case mi_f4 => k_is); (case mi_f5 => k_is); (case mi_f6 => k_is); (case mi_f7 => k_is)
      refine Mi.xs_cons ?_ ?_
      · refine' Mi.xc_mk2 KX G PySem.F.excBase_ValueError (by decide +kernel) ?mi_a ?mi_k ?mi_q ?mi_s ?mi_t ?mi_f1 ?mi_f2 ?mi_f3 ?mi_f4 ?mi_f5 ?mi_f6 ?mi_f7; (case mi_a => k_is); (case mi_k => k_is); (case mi_q => k_exc); (case mi_s => k_is); (case mi_t => k_is); (case mi_f1 => k_is); (case mi_f2 => k_is); (case mi_f3 => k_is); (case mi_f4 => k_is); (case mi_f5 => k_is); (case mi_f6 => k_is); (case mi_f7 => k_is)
      refine Mi.xs_cons ?_ ?_
      · refine' Mi.xc_mk2 KX G PySem.F.excBase_ValueError (by decide +kernel) ?mi_a ?mi_k ?mi_q ?mi_s ?mi_t ?mi_f1 ?mi_f2 ?mi_f3 ?mi_f4 ?mi_f5 ?mi_f6 ?mi_f7; (case mi_a => k_is); (case mi_k => k_is); (case mi_q => k_exc); (case mi_s => k_is); (case mi_t => k_is); (case mi_f1 => k_is); (case mi_f2 => k_is); (case mi_f3 => k_is); (case mi_f4 => k_is); (case mi_f5 => k_is); (case mi_f6 => k_is); (case mi_f7 => k_is)
      refine Mi.xs_cons ?_ ?_
      · refine' Mi.xc_mk2 KX G PySem.F.excBase_ValueError (by decide +kernel) ?mi_a ?mi_k ?mi_q ?mi_s ?mi_t ?mi_f1 ?mi_f2 ?mi_f3 ?mi_f4 ?mi_f5 ?mi_f6 ?mi_f7; (case mi_a => k_is); (case mi_k => k_is); (case mi_q => k_exc); (case mi_s => k_is); (case mi_t => k_is); (case mi_f1 => k_is); (case mi_f2 => k_is); (case mi_f3 => k_is); (case mi_f4 => k_is); (case mi_f5 => k_is); (case mi_f6 => k_is); (case mi_f7 => k_is)
      refine Mi.xs_cons ?_ ?_
      · refine' Mi.xc_mk2 KX G PySem.F.excBase_ValueError (by decide +kernel) ?mi_a ?mi_k ?mi_q ?mi_s ?mi_t ?mi_f1 ?mi_f2 ?mi_f3 ?mi_f4 ?mi_f5 ?mi_f6 ?mi_f7; (case mi_a => k_is); (case mi_k => k_is); (case mi_q => k_exc); (case mi_s => k_is); (case mi_t => k_is); (case mi_f1 => k_is); (case mi_f2 => k_is); (case mi_f3 => k_is); (case mi_f4 => k_is); (case mi_f5 => k_is); (case mi_f6 => k_is); (case mi_f7 => k_is)
      refine Mi.xs_cons ?_ ?_
      · refine' Mi.xc_mk2 KX G PySem.F.excBase_ValueError (by decide +kernel) ?mi_a ?mi_k ?mi_q ?mi_s ?mi_t ?mi_f1 ?mi_f2 ?mi_f3 ?mi_f4 ?mi_f5 ?mi_f6 ?mi_f7; (case mi_a => k_is); (case mi_k => k_is); (case mi_q => k_exc); (case mi_s => k_is); (case mi_t => k_is); (case mi_f1 => k_is); (case mi_f2 => k_is); (case mi_f3 => k_is); (case mi_f4 => k_is); (case mi_f5 => k_is); (case mi_f6 => k_is); (case mi_f7 => k_is)
      refine Mi.xs_cons ?_ ?_
      · refine' Mi.xc_mk2 KX G PySem.F.excBase_ValueError (by decide +kernel) ?mi_a ?mi_k ?mi_q ?mi_s ?mi_t ?mi_f1 ?mi_f2 ?mi_f3 ?mi_f4 ?mi_f5 ?mi_f6 ?mi_f7; (case mi_a => k_is); (case mi_k => k_is); (case mi_q => k_exc); (case mi_s => k_is); (case mi_t => k_is); (case mi_f1 => k_is); (case mi_f2 => k_is); (case mi_f3 => k_is); (case mi_f4 => k_is); (case mi_f5 => k_is); (case mi_f6 => k_is); (case mi_f7 => k_is)
      refine Mi.xs_cons ?_ ?_
      · refine' Mi.xc_mk2 KX G PySem.F.excBase_ValueError (by decide +kernel) ?mi_a ?mi_k ?mi_q ?mi_s ?mi_t ?mi_f1 ?mi_f2 ?mi_f3 ?mi_f4 ?mi_f5 ?mi_f6 ?mi_f7; (case mi_a => k_is); (case mi_k => k_is); (case mi_q => k_exc); (case mi_s => k_is); (case mi_t => k_is); (case mi_f1 => k_is); (case mi_f2 => k_is); (case mi_f3 => k_is); (case mi_f4 => k_is); (case mi_f5 => k_is); (case mi_f6 => k_is); (case mi_f7 => k_is)
      refine Mi.xs_cons ?_ ?_
      · refine' Mi.xc_mk2 KX G PySem.F.excBase_ValueError (by decide +kernel) ?mi_a ?mi_k ?mi_q ?mi_s ?mi_t ?mi_f1 ?mi_f2 ?mi_f3 ?mi_f4 ?mi_f5 ?mi_f6 ?mi_f7; (case mi_a => k_is); (case mi_k => k_is); (case mi_q => k_exc); (case mi_s => k_is); (case mi_t => k_is); (case mi_f1 => k_is); (case mi_f2 => k_is); (case mi_f3 => k_is); (case mi_f4 => k_is); (case mi_f5 => k_is); (case mi_f6 => k_is); (case mi_f7 => k_is)
      refine Mi.xs_cons ?_ ?_
      · refine' Mi.xc_mk2 KX G PySem.F.excBase_ValueError (by decide +kernel) ?mi_a ?mi_k ?mi_q ?mi_s ?mi_t ?mi_f1 ?mi_f2 ?mi_f3 ?mi_f4 ?mi_f5 ?mi_f6 ?mi_f7; (case mi_a => k_is); (case mi_k => k_is); (case mi_q => k_exc); (case mi_s => k_is); (case mi_t => k_is); (case mi_f1 => k_is); (case mi_f2 => k_is); (case mi_f3 => k_is); (case mi_f4 => k_is); (case mi_f5 => k_is); (case mi_f6 => k_is); (case mi_f7 => k_is)
      refine Mi.xs_cons ?_ ?_
      · refine' Mi.xc_mk2 KX G PySem.F.excBase_ValueError (by decide +kernel) ?mi_a ?mi_k ?mi_q ?mi_s ?mi_t ?mi_f1 ?mi_f2 ?mi_f3 ?mi_f4 ?mi_f5 ?mi_f6 ?mi_f7; (case mi_a => k_is); (case mi_k => k_is); (case mi_q => k_exc); (case mi_s => k_is); (case mi_t => k_is); (case mi_f1 => k_is); (case mi_f2 => k_is); (case mi_f3 => k_is); (case mi_f4 => k_is); (case mi_f5 => k_is); (case mi_f6 => k_is); (case mi_f7 => k_is)
      refine Mi.xs_cons ?_ ?_
      · refine' Mi.xc_mk2 KX G PySem.F.excBase_ValueError (by decide +kernel) ?mi_a ?mi_k ?mi_q ?mi_s ?mi_t ?mi_f1 ?mi_f2 ?mi_f3 ?mi_f4 ?mi_f5 ?mi_f6 ?mi_f7; (case mi_a => k_is); (case mi_k => k_is); (case mi_q => k_exc); (case mi_s => k_is); (case mi_t => k_is); (case mi_f1 => k_is); (case mi_f2 => k_is); (case mi_f3 => k_is); (case mi_f4 => k_is); (case mi_f5 => k_is); (case mi_f6 => k_is); (case mi_f7 => k_is)
      refine Mi.xs_cons ?_ ?_
      · refine' Mi.xc_mk2 KX G PySem.F.excBase_ValueError (by decide +kernel) ?mi_a ?mi_k ?mi_q ?mi_s ?mi_t ?mi_f1 ?mi_f2 ?mi_f3 ?mi_f4 ?mi_f5 ?mi_f6 ?mi_f7; (case mi_a => k_is); (case mi_k => k_is); (case mi_q => k_exc); (case mi_s => k_is); (case mi_t => k_is); (case mi_f1 => k_is); (case mi_f2 => k_is); (case mi_f3 => k_is); (case mi_f4 => k_is); (case mi_f5 => k_is); (case mi_f6 => k_is); (case mi_f7 => k_is)
      refine Mi.xs_cons ?_ ?_
      · refine' Mi.xc_mk2 KX G PySem.F.excBase_LookupError (by decide +kernel) ?mi_a ?mi_k ?mi_q ?mi_s ?mi_t ?mi_f1 ?mi_f2 ?mi_f3 ?mi_f4 ?mi_f5 ?mi_f6 ?mi_f7; (case mi_a => k_is); (case mi_k => k_is); (case mi_q => k_exc); (case mi_s => k_is); (case mi_t => k_is); (case mi_f1 => k_is); (case mi_f2 => k_is); (case mi_f3 => k_is); (case mi_f4 => k_is); (case mi_f5 => k_is); (case mi_f6 => k_is); (case mi_f7 => k_is)
      refine Mi.xs_cons ?_ ?_
      · refine' Mi.xc_mk2 KX G PySem.F.excBase_RuntimeError (by decide +kernel) ?mi_a ?mi_k ?mi_q ?mi_s ?mi_t ?mi_f1 ?mi_f2 ?mi_f3 ?mi_f4 ?mi_f5 ?mi_f6 ?mi_f7; (case mi_a => k_is); (case mi_k => k_is); (case mi_q => k_exc); (case mi_s => k_is); (case mi_t => k_is); (case mi_f1 => k_is); (case mi_f2 => k_is); (case mi_f3 => k_is); (case mi_f4 => k_is); (case mi_f5 => k_is); (case mi_f6 => k_is); (case mi_f7 => k_is)
      exact Mi.xs_nil
    case FX =>
      refine Mi.all_cons ?_ ?_
      · refine' Mi.fx_mk (st := (Mi.clsBody (K56.top 2)).getD 0 (.Pass ⟨0, 0, 0, 0⟩)) KX G (by decide +kernel) ?mi_a ?mi_k ?mi_lc ?mi_r ?mi_sa ?mi_s ?mi_t ?mi_no ?mi_f1 ?mi_f2 ?mi_f3 ?mi_f4 ?mi_f5 ?mi_f6 ?mi_f7 ?mi_i ?mi_ti ?mi_hb ?mi_ha ?mi_har ?mi_hs ?mi_hl ?mi_hn ?mi_l ?mi_c ?mi_d ?mi_d1 ?mi_d2 ?mi_d3; (case mi_a => k_is); (case mi_k => k_is); (case mi_lc => k_is); (case mi_r => first | rfl | decide +kernel); (case mi_sa => k_is); (case mi_s => k_is); (case mi_t => k_is); (case mi_no => k_is); (case mi_f1 => k_is); (case mi_f2 => k_is); (case mi_f3 => k_is); (case mi_f4 => k_is); (case mi_f5 => k_is); (case mi_f6 => k_is); (case mi_f7 => k_is); (case mi_i => k_is); (case mi_ti => k_is); (case mi_hb => rfl); (case mi_ha => rfl); (case mi_har => rfl); (case mi_hs => decide +kernel); (case mi_hl => decide +kernel); (case mi_hn => decide +kernel); (case mi_l => k_is); (case mi_c => k_is); (case mi_d => k_is); (case mi_d1 => k_is); (case mi_d2 => k_is); (case mi_d3 => k_is)
      refine Mi.all_cons ?_ ?_
      · refine' Mi.fx_mk (st := (Mi.clsBody (K56.top 7)).getD 0 (.Pass ⟨0, 0, 0, 0⟩)) KX G (by decide +kernel) ?mi_a ?mi_k ?mi_lc ?mi_r ?mi_sa ?mi_s ?mi_t ?mi_no ?mi_f1 ?mi_f2 ?mi_f3 ?mi_f4 ?mi_f5 ?mi_f6 ?mi_f7 ?mi_i ?mi_ti ?mi_hb ?mi_ha ?mi_har ?mi_hs ?mi_hl ?mi_hn ?mi_l ?mi_c ?mi_d ?mi_d1 ?mi_d2 ?mi_d3; (case mi_a => k_is); (case mi_k => k_is); (case mi_lc => k_is); (case mi_r => first | rfl | decide +kernel); (case mi_sa => k_is); (case mi_s => k_is); (case mi_t => k_is); (case mi_no => k_is); (case mi_f1 => k_is); (case mi_f2 => k_is); (case mi_f3 => k_is); (case mi_f4 => k_is); (case mi_f5 => k_is); (case mi_f6 => k_is); (case mi_f7 => k_is); (case mi_i => k_is); (case mi_ti => k_is); (case mi_hb => rfl); (case mi_ha => rfl); (case mi_har => rfl); (case mi_hs => decide +kernel); (case mi_hl => decide +kernel); (case mi_hn => decide +kernel); (case mi_l => k_is); (case mi_c => k_is); (case mi_d => k_is); (case mi_d1 => k_is); (case mi_d2 => k_is); (case mi_d3 => k_is)
      refine Mi.all_cons ?_ ?_
      · refine' Mi.fx_mk (st := (Mi.clsBody (K56.top 19)).getD 0 (.Pass ⟨0, 0, 0, 0⟩)) KX G (by decide +kernel) ?mi_a ?mi_k ?mi_lc ?mi_r ?mi_sa ?mi_s ?mi_t ?mi_no ?mi_f1 ?mi_f2 ?mi_f3 ?mi_f4 ?mi_f5 ?mi_f6 ?mi_f7 ?mi_i ?mi_ti ?mi_hb ?mi_ha ?mi_har ?mi_hs ?mi_hl ?mi_hn ?mi_l ?mi_c ?mi_d ?mi_d1 ?mi_d2 ?mi_d3; (case mi_a => k_is); (case mi_k => k_is); (case mi_lc => k_is); (case mi_r => first | rfl | decide +kernel); (case mi_sa => k_is); (case mi_s => k_is); (case mi_t => k_is); (case mi_no => k_is); (case mi_f1 => k_is); (case mi_f2 => k_is); (case mi_f3 => k_is); (case mi_f4 => k_is); (case mi_f5 => k_is); (case mi_f6 => k_is); (case mi_f7 => k_is); (case mi_i => k_is); (case mi_ti => k_is); (case mi_hb => rfl); (case mi_ha => rfl); (case mi_har => rfl); (case mi_hs => decide +kernel); (case mi_hl => decide +kernel); (case mi_hn => decide +kernel); (case mi_l => k_is); (case mi_c => k_is); (case mi_d => k_is); (case mi_d1 => k_is); (case mi_d2 => k_is); (case mi_d3 => k_is)
      refine Mi.all_cons ?_ ?_
      · refine' Mi.fx_mk (st := (Mi.clsBody (K56.top 22)).getD 0 (.Pass ⟨0, 0, 0, 0⟩)) KX G (by decide +kernel) ?mi_a ?mi_k ?mi_lc ?mi_r ?mi_sa ?mi_s ?mi_t ?mi_no ?mi_f1 ?mi_f2 ?mi_f3 ?mi_f4 ?mi_f5 ?mi_f6 ?mi_f7 ?mi_i ?mi_ti ?mi_hb ?mi_ha ?mi_har ?mi_hs ?mi_hl ?mi_hn ?mi_l ?mi_c ?mi_d ?mi_d1 ?mi_d2 ?mi_d3; (case mi_a => k_is); (case mi_k => k_is); (case mi_lc => k_is); (case mi_r => first | rfl | decide +kernel); (case mi_sa => k_is); (case mi_s => k_is); (case mi_t => k_is); (case mi_no => k_is); (case mi_f1 => k_is); (case mi_f2 => k_is); (case mi_f3 => k_is); (case mi_f4 => k_is); (case mi_f5 => k_is); (case mi_f6 => k_is); (case mi_f7 => k_is); (case mi_i => k_is); (case mi_ti => k_is); (case mi_hb => rfl); (case mi_ha => rfl); (case mi_har => rfl); (case mi_hs => decide +kernel); (case mi_hl => decide +kernel); (case mi_hn => decide +kernel); (case mi_l => k_is); (case mi_c => k_is); (case mi_d => k_is); (case mi_d1 => k_is); (case mi_d2 => k_is); (case mi_d3 => k_is)
      refine Mi.all_cons ?_ ?_
      · refine' Mi.fx_mk (st := (Mi.clsBody (K56.top 23)).getD 0 (.Pass ⟨0, 0, 0, 0⟩)) KX G (by decide +kernel) ?mi_a ?mi_k ?mi_lc ?mi_r ?mi_sa ?mi_s ?mi_t ?mi_no ?mi_f1 ?mi_f2 ?mi_f3 ?mi_f4 ?mi_f5 ?mi_f6 ?mi_f7 ?mi_i ?mi_ti ?mi_hb ?mi_ha ?mi_har ?mi_hs ?mi_hl ?mi_hn ?mi_l ?mi_c ?mi_d ?mi_d1 ?mi_d2 ?mi_d3; (case mi_a => k_is); (case mi_k => k_is); (case mi_lc => k_is); (case mi_r => first | rfl | decide +kernel); (case mi_sa => k_is); (case mi_s => k_is); (case mi_t => k_is); (case mi_no => k_is); (case mi_f1 => k_is); (case mi_f2 => k_is); (case mi_f3 => k_is); (case mi_f4 => k_is); (case mi_f5 => k_is); (case mi_f6 => k_is); (case mi_f7 => k_is); (case mi_i => k_is); (case mi_ti => k_is); (case mi_hb => rfl); (case mi_ha => rfl); (case mi_har => rfl); (case mi_hs => decide +kernel); (case mi_hl => decide +kernel); (case mi_hn => decide +kernel); (case mi_l => k_is); (case mi_c => k_is); (case mi_d => k_is); (case mi_d1 => k_is); (case mi_d2 => k_is); (case mi_d3 => k_is)
      refine Mi.all_cons ?_ ?_
      · refine' Mi.fx_mk (st := (Mi.clsBody (K56.top 24)).getD 0 (.Pass ⟨0, 0, 0, 0⟩)) KX G (by decide +kernel) ?mi_a ?mi_k ?mi_lc ?mi_r ?mi_sa ?mi_s ?mi_t ?mi_no ?mi_f1 ?mi_f2 ?mi_f3 ?mi_f4 ?mi_f5 ?mi_f6 ?mi_f7 ?mi_i ?mi_ti ?mi_hb ?mi_ha ?mi_har ?mi_hs ?mi_hl ?mi_hn ?mi_l ?mi_c ?mi_d ?mi_d1 ?mi_d2 ?mi_d3; (case mi_a => k_is); (case mi_k => k_is); (case mi_lc => k_is); (case mi_r => first | rfl | decide +kernel); (case mi_sa => k_is); (case mi_s => k_is); (case mi_t => k_is); (case mi_no => k_is); (case mi_f1 => k_is); (case mi_f2 => k_is); (case mi_f3 => k_is); (case mi_f4 => k_is); (case mi_f5 => k_is); (case mi_f6 => k_is); (case mi_f7 => k_is); (case mi_i => k_is); (case mi_ti => k_is); (case mi_hb => rfl); (case mi_ha => rfl); (case mi_har => rfl); (case mi_hs => decide +kernel); (case mi_hl => decide +kernel); (case mi_hn => decide +kernel); (case mi_l => k_is); (case mi_c => k_is); (case mi_d => k_is); (case mi_d1 => k_is); (case mi_d2 => k_is); (case mi_d3 => k_is)
      refine Mi.all_cons ?_ ?_
      · refine' Mi.fx_mk (st := (Mi.clsBody (K56.top 25)).getD 0 (.Pass ⟨0, 0, 0, 0⟩)) KX G (by decide +kernel) ?mi_a ?mi_k ?mi_lc ?mi_r ?mi_sa ?mi_s ?mi_t ?mi_no ?mi_f1 ?mi_f2 ?mi_f3 ?mi_f4 ?mi_f5 ?mi_f6 ?mi_f7 ?mi_i ?mi_ti ?mi_hb ?mi_ha ?mi_har ?mi_hs ?mi_hl ?mi_hn ?mi_l ?mi_c ?mi_d ?mi_d1 ?mi_d2 ?mi_d3; (case mi_a => k_is); (case mi_k => k_is); (case mi_lc => k_is); (case mi_r => first | rfl | decide +kernel); (case mi_sa => k_is); (case mi_s => k_is); (case mi_t => k_is); (case mi_no => k_is); (case mi_f1 => k_is); (case mi_f2 => k_is); (case mi_f3 => k_is); (case mi_f4 => k_is); (case mi_f5 => k_is); (case mi_f6 => k_is); (case mi_f7 => k_is); (case mi_i => k_is); (case mi_ti => k_is); (case mi_hb => rfl); (case mi_ha => rfl); (case mi_har => rfl); (case mi_hs => decide +kernel); (case mi_hl => decide +kernel); (case mi_hn => decide +kernel); (case mi_l => k_is); (case mi_c => k_is); (case mi_d => k_is); (case mi_d1 => k_is); (case mi_d2 => k_is); (case mi_d3 => k_is)
      exact Mi.all_nil
    case I =>
      refine Mi.all_cons ?_ ?_
      · refine' Mi.isx_mkB (us := [_]) (by simp) ?mi_p ?mi_k
        case mi_p =>
          refine .cons ?_ ?_
          · refine' Mi.own_mk KX G (by decide +kernel) ?mi_a; (case mi_a => k_is)
          exact .nil
        case mi_k => kernel_rfl
      refine Mi.all_cons ?_ ?_
      · refine' Mi.isx_mkB (us := [_]) (by simp) ?mi_p ?mi_k
        case mi_p =>
          refine .cons ?_ ?_
          · refine' Mi.own_mk KX G (by decide +kernel) ?mi_a; (case mi_a => k_is)
          exact .nil
        case mi_k => kernel_rfl
      refine Mi.all_cons ?_ ?_
      · refine' Mi.isx_mkB (us := [_]) (by simp) ?mi_p ?mi_k
        case mi_p =>
          refine .cons ?_ ?_
          · refine' Mi.own_mk KX G (by decide +kernel) ?mi_a; (case mi_a => k_is)
          exact .nil
        case mi_k => kernel_rfl
      refine Mi.all_cons ?_ ?_
      · refine' Mi.isx_mkB (us := [_]) (by simp) ?mi_p ?mi_k
        case mi_p =>
          refine .cons ?_ ?_
          · refine' Mi.own_mk KX G (by decide +kernel) ?mi_a; (case mi_a => k_is)
          exact .nil
        case mi_k => kernel_rfl
      refine Mi.all_cons ?_ ?_
      · refine' Mi.isx_mkB (us := [_]) (by simp) ?mi_p ?mi_k
        case mi_p =>
          refine .cons ?_ ?_
          · refine' Mi.own_mk KX G (by decide +kernel) ?mi_a; (case mi_a => k_is)
          exact .nil
        case mi_k => kernel_rfl
      refine Mi.all_cons ?_ ?_
      · refine' Mi.isx_mkB (us := [_]) (by simp) ?mi_p ?mi_k
        case mi_p =>
          refine .cons ?_ ?_
          · refine' Mi.own_mk KX G (by decide +kernel) ?mi_a; (case mi_a => k_is)
          exact .nil
        case mi_k => kernel_rfl
      refine Mi.all_cons ?_ ?_
      · refine' Mi.isx_mkB (us := [_]) (by simp) ?mi_p ?mi_k
        case mi_p =>
          refine .cons ?_ ?_
          · refine' Mi.own_mk KX G (by decide +kernel) ?mi_a; (case mi_a => k_is)
          exact .nil
        case mi_k => kernel_rfl
      refine Mi.all_cons ?_ ?_
      · refine' Mi.isx_mkB (us := [_]) (by simp) ?mi_p ?mi_k
        case mi_p =>
          refine .cons ?_ ?_
          · refine' Mi.own_mk KX G (by decide +kernel) ?mi_a; (case mi_a => k_is)
          exact .nil
        case mi_k => kernel_rfl
      refine Mi.all_cons ?_ ?_
      · refine' Mi.isx_mkB (us := [_]) (by simp) ?mi_p ?mi_k
        case mi_p =>
          refine .cons ?_ ?_
          · refine' Mi.own_mk KX G (by decide +kernel) ?mi_a; (case mi_a => k_is)
          exact .nil
        case mi_k => kernel_rfl
      refine Mi.all_cons ?_ ?_
      · refine' Mi.isx_mkB (us := [_]) (by simp) ?mi_p ?mi_k
        case mi_p =>
          refine .cons ?_ ?_
          · refine' Mi.own_mk KX G (by decide +kernel) ?mi_a; (case mi_a => k_is)
          exact .nil
        case mi_k => kernel_rfl
      refine Mi.all_cons ?_ ?_
      · refine' Mi.isx_mkB (us := [_]) (by simp) ?mi_p ?mi_k
        case mi_p =>
          refine .cons ?_ ?_
          · refine' Mi.own_mk KX G (by decide +kernel) ?mi_a; (case mi_a => k_is)
          exact .nil
        case mi_k => kernel_rfl
      refine Mi.all_cons ?_ ?_
      · refine' Mi.isx_mkB (us := [_]) (by simp) ?mi_p ?mi_k
        case mi_p =>
          refine .cons ?_ ?_
          · refine' Mi.own_mk KX G (by decide +kernel) ?mi_a; (case mi_a => k_is)
          exact .nil
        case mi_k => kernel_rfl
      refine Mi.all_cons ?_ ?_
      · refine' Mi.isx_mkB (us := [_]) (by simp) ?mi_p ?mi_k
        case mi_p =>
          refine .cons ?_ ?_
          · refine' Mi.own_mk KX G (by decide +kernel) ?mi_a; (case mi_a => k_is)
          exact .nil
        case mi_k => kernel_rfl
      refine Mi.all_cons ?_ ?_
      · refine' Mi.isx_mkB (us := [_]) (by simp) ?mi_p ?mi_k
        case mi_p =>
          refine .cons ?_ ?_
          · refine' Mi.own_mk KX G (by decide +kernel) ?mi_a; (case mi_a => k_is)
          exact .nil
        case mi_k => kernel_rfl
      refine Mi.all_cons ?_ ?_
      · refine' Mi.isx_mkB (us := [_]) (by simp) ?mi_p ?mi_k
        case mi_p =>
          refine .cons ?_ ?_
          · refine' Mi.own_mk KX G (by decide +kernel) ?mi_a; (case mi_a => k_is)
          exact .nil
        case mi_k => kernel_rfl
      refine Mi.all_cons ?_ ?_
      · refine' Mi.isx_mkB (us := [_]) (by simp) ?mi_p ?mi_k
        case mi_p =>
          refine .cons ?_ ?_
          · refine' Mi.own_mk KX G (by decide +kernel) ?mi_a; (case mi_a => k_is)
          exact .nil
        case mi_k => kernel_rfl
      refine Mi.all_cons ?_ ?_
      · refine' Mi.isx_mkB (us := [_]) (by simp) ?mi_p ?mi_k
        case mi_p =>
          refine .cons ?_ ?_
          · refine' Mi.own_mk KX G (by decide +kernel) ?mi_a; (case mi_a => k_is)
          exact .nil
        case mi_k => kernel_rfl
      refine Mi.all_cons ?_ ?_
      · refine' Mi.isx_mkB (us := [_]) (by simp) ?mi_p ?mi_k
        case mi_p =>
          refine .cons ?_ ?_
          · refine' Mi.own_mk KX G (by decide +kernel) ?mi_a; (case mi_a => k_is)
          exact .nil
        case mi_k => kernel_rfl
      refine Mi.all_cons ?_ ?_
      · refine' Mi.isx_mkB (us := [_]) (by simp) ?mi_p ?mi_k
        case mi_p =>
          refine .cons ?_ ?_
          · refine' Mi.own_mk KX G (by decide +kernel) ?mi_a; (case mi_a => k_is)
          exact .nil
        case mi_k => kernel_rfl
      refine Mi.all_cons ?_ ?_
      · refine' Mi.isx_mkB (us := [_]) (by simp) ?mi_p ?mi_k
        case mi_p =>
          refine .cons ?_ ?_
          · refine' Mi.own_mk KX G (by decide +kernel) ?mi_a; (case mi_a => k_is)
          exact .nil
        case mi_k => kernel_rfl
      refine Mi.all_cons ?_ ?_
      · refine' Mi.isx_mkB (us := [_]) (by simp) ?mi_p ?mi_k
        case mi_p =>
          refine .cons ?_ ?_
          · refine' Mi.own_mk KX G (by decide +kernel) ?mi_a; (case mi_a => k_is)
          exact .nil
        case mi_k => kernel_rfl
      refine Mi.all_cons ?_ ?_
      · refine' Mi.isx_mkB (us := [_]) (by simp) ?mi_p ?mi_k
        case mi_p =>
          refine .cons ?_ ?_
          · refine' Mi.own_mk KX G (by decide +kernel) ?mi_a; (case mi_a => k_is)
          exact .nil
        case mi_k => kernel_rfl
      refine Mi.all_cons ?_ ?_
      · refine' Mi.isx_mkB (us := [_]) (by simp) ?mi_p ?mi_k
        case mi_p =>
          refine .cons ?_ ?_
          · refine' Mi.own_mk KX G (by decide +kernel) ?mi_a; (case mi_a => k_is)
          exact .nil
        case mi_k => kernel_rfl
      refine Mi.all_cons ?_ ?_
      · refine' Mi.isx_mkB (us := [_]) (by simp) ?mi_p ?mi_k
        case mi_p =>
          refine .cons ?_ ?_
          · refine' Mi.own_mk KX G (by decide +kernel) ?mi_a; (case mi_a => k_is)
          exact .nil
        case mi_k => kernel_rfl
      refine Mi.all_cons ?_ ?_
      · refine' Mi.isx_mkB (us := [_]) (by simp) ?mi_p ?mi_k
        case mi_p =>
          refine .cons ?_ ?_
          · refine' Mi.own_mk KX G (by decide +kernel) ?mi_a; (case mi_a => k_is)
          exact .nil
        case mi_k => kernel_rfl
      refine Mi.all_cons ?_ ?_
      · refine' Mi.isx_mkB (us := [_]) (by simp) ?mi_p ?mi_k
        case mi_p =>
          refine .cons ?_ ?_
          · refine' Mi.own_mk KX G (by decide +kernel) ?mi_a; (case mi_a => k_is)
          exact .nil
        case mi_k => kernel_rfl
      refine Mi.all_cons ?_ ?_
      · refine' Mi.isx_mkB (us := [_]) (by simp) ?mi_p ?mi_k
        case mi_p =>
          refine .cons ?_ ?_
          · refine' Mi.own_mk KX G (by decide +kernel) ?mi_a; (case mi_a => k_is)
          exact .nil
        case mi_k => kernel_rfl
      refine Mi.all_cons ?_ ?_
      · refine' Mi.isx_mkB (us := [_]) (by simp) ?mi_p ?mi_k
        case mi_p =>
          refine .cons ?_ ?_
          · refine' Mi.own_mk KX G (by decide +kernel) ?mi_a; (case mi_a => k_is)
          exact .nil
        case mi_k => kernel_rfl
      refine Mi.all_cons ?_ ?_
      · refine' Mi.isx_mkB (us := [_]) (by simp) ?mi_p ?mi_k
        case mi_p =>
          refine .cons ?_ ?_
          · refine' Mi.own_mk KX G (by decide +kernel) ?mi_a; (case mi_a => k_is)
          exact .nil
        case mi_k => kernel_rfl
      refine Mi.all_cons ?_ ?_
      · refine' Mi.isx_mkB (us := [_]) (by simp) ?mi_p ?mi_k
        case mi_p =>
          refine .cons ?_ ?_
          · refine' Mi.own_mk KX G (by decide +kernel) ?mi_a; (case mi_a => k_is)
          exact .nil
        case mi_k => kernel_rfl
      refine Mi.all_cons ?_ ?_
      · refine' Mi.isx_mkB (us := [_]) (by simp) ?mi_p ?mi_k
        case mi_p =>
          refine .cons ?_ ?_
          · refine' Mi.own_mk KX G (by decide +kernel) ?mi_a; (case mi_a => k_is)
          exact .nil
        case mi_k => kernel_rfl
      refine Mi.all_cons ?_ ?_
      · refine' Mi.isx_mkB (us := [_]) (by simp) ?mi_p ?mi_k
        case mi_p =>
          refine .cons ?_ ?_
          · refine' Mi.bex_mk (t := "ValueError") KX G (by decide +kernel) (by decide +kernel) (by decide +kernel) ?mi_a; (case mi_a => k_is)
          exact .nil
        case mi_k => kernel_rfl
      refine Mi.all_cons ?_ ?_
      · refine' Mi.isx_mkB (us := [_]) (by simp) ?mi_p ?mi_k
        case mi_p =>
          refine .cons ?_ ?_
          · refine' Mi.bex_mk (t := "LookupError") KX G (by decide +kernel) (by decide +kernel) (by decide +kernel) ?mi_a; (case mi_a => k_is)
          exact .nil
        case mi_k => kernel_rfl
      refine Mi.all_cons ?_ ?_
      · refine' Mi.isx_mkB (us := [_, _]) (by simp) ?mi_p ?mi_k
        case mi_p =>
          refine .cons ?_ ?_
          · refine' Mi.bex_mk (t := "KeyError") KX G (by decide +kernel) (by decide +kernel) (by decide +kernel) ?mi_a; (case mi_a => k_is)
          refine .cons ?_ ?_
          · refine' Mi.bex_mk (t := "IndexError") KX G (by decide +kernel) (by decide +kernel) (by decide +kernel) ?mi_a; (case mi_a => k_is)
          exact .nil
        case mi_k => kernel_rfl
      refine Mi.all_cons ?_ ?_
      · refine' Mi.isx_mkB (us := [_]) (by simp) ?mi_p ?mi_k
        case mi_p =>
          refine .cons ?_ ?_
          · refine' Mi.bex_mk (t := "RuntimeError") KX G (by decide +kernel) (by decide +kernel) (by decide +kernel) ?mi_a; (case mi_a => k_is)
          exact .nil
        case mi_k => kernel_rfl
      refine Mi.all_cons ?_ ?_
      · refine' Mi.isx_mkB (us := [_, _]) (by simp) ?mi_p ?mi_k
        case mi_p =>
          refine .cons ?_ ?_
          · refine' Mi.bex_mk (t := "ArithmeticError") KX G (by decide +kernel) (by decide +kernel) (by decide +kernel) ?mi_a; (case mi_a => k_is)
          refine .cons ?_ ?_
          · refine' Mi.bex_mk (t := "TypeError") KX G (by decide +kernel) (by decide +kernel) (by decide +kernel) ?mi_a; (case mi_a => k_is)
          exact .nil
        case mi_k => kernel_rfl
      exact Mi.all_nil
    case C =>
      exact Mi.xs_nil
