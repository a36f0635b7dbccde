import PyProof.Rows.All
import Wide.All
import OpenK.AllK
import Wide.FinOn
import KE.KIsAll
import KE.RegKIsAll
import HandS.ForMost
import HandS.Wide
import HandS.Text
import HandS.TupAny
import HandS.Deep
import HandS.IsInst
import HandS.Style
import HandS.ExcIs
import HandS.ExcOwn
import HandS.ExcInit
import PyProof.Rows.IntBool
import HandS.More
import HandS.WordsDict
import PyProof.RowDictHeap
import HandS.Conv
import HandS.RaiseMore
import HandS.NoneIn
import HandS.Zip
import KE.GoesMore
import KE.KExcIs
import HandS.Iter
import HandS.ExcValue
import HandS.ExcField
import HandS.Codes
import HandS.FStr
import HandS.DictComp
import HandS.TryOnly
import HandS.EndBits
import KE.IntTextLaws
import PyProof.StrLawsRepr
import PySem.Challenge.RW_pawldials_k71_chains_written_and_read
set_option Elab.async false
set_option autoImplicit false
set_option maxRecDepth 100000
set_option linter.all false
namespace Mi
open PySem L2
/-- values: scalars and tuples by what they are; lists, dicts by the number of their cell -/
inductive D where
  | non | bl (b : Bool) | int (i : Int) | str (x : Str) | tup (ds : List D) | ref (n : Nat) | sta (v : V)
  /-- lists, dicts, things that nobody changes any more -/
  | pl (ds : List D) | pd (ks : List Key) (ds : List D) | pt (ks : List (List Key)) (ds : List D) | po (C : Str) (fs : List Str) (ds : List D)
  /-- a tuple of the program's top -/
  | kt (ds : List D)
  deriving Inhabited
inductive Cell where
  | lst (ds : List D)
  | frz (ds : List D)
  | dK (kvs : List (Key × D))
  | dT (kvs : List (List Key × D))
  | ins (C : Str) (fs : List (Str × D))
  | exc (x : Str)
  | exv (x f : Str) (d : D)
  /-- nobody asks any more -/
  | ded
abbrev Store := List Cell
abbrev Lcs := List (Option D)
/-- a refusal: its class by number, its field -/
structure Exn where
  cls : Str
  fld : Option (Str × D)
inductive R (α : Type) where
  | ok (a : α) (S : Store)
  | exc (x : Exn) (S : Store)
  | bad
def R.bind {α β : Type} (r : R α) (f : α → Store → R β) : R β :=
  match r with
  | .ok a S => f a S
  | .exc x S => .exc x S
  | .bad => .bad
@[simp] theorem R.bind_ok {α β : Type} (a : α) (S : Store) (f : α → Store → R β) : (R.ok a S).bind f = f a S := rfl
@[simp] theorem R.bind_exc {α β : Type} (x : Exn) (S : Store) (f : α → Store → R β) : (R.exc x S : R α).bind f = .exc x S := rfl
@[simp] theorem R.bind_bad {α β : Type} (f : α → Store → R β) : (R.bad : R α).bind f = .bad := rfl
/-- behind a body: what an expression let out is no result -/
def R.bindB {α β : Type} (r : R α) (f : α → Store → R β) : R β :=
  match r with
  | .ok a S => f a S
  | .exc _ _ => .bad
  | .bad => .bad
@[simp] theorem R.bindB_ok {α β : Type} (a : α) (S : Store) (f : α → Store → R β) : (R.ok a S).bindB f = f a S := rfl
@[simp] theorem R.bindB_exc {α β : Type} (x : Exn) (S : Store) (f : α → Store → R β) : (R.exc x S : R α).bindB f = .bad := rfl
@[simp] theorem R.bindB_bad {α β : Type} (f : α → Store → R β) : (R.bad : R α).bindB f = .bad := rfl
def allSome {α : Type} : List (Option α) → Option (List α)
  | [] => some []
  | none :: _ => none
  | some a :: r => (allSome r).map (a :: ·)
mutual
/-- all cells named are below n -/
def D.lt (n : Nat) : D → Bool
  | .ref m => decide (m < n)
  | .tup ds => D.ltAll n ds
  | .non => true
  | .bl _ => true
  | .int _ => true
  | .str _ => true
  | .sta _ => true
  | .pl ds => D.ltAll n ds
  | .pd _ ds => D.ltAll n ds
  | .pt _ ds => D.ltAll n ds
  | .po _ _ ds => D.ltAll n ds
  | .kt ds => D.ltAll n ds
def D.ltAll (n : Nat) : List D → Bool
  | [] => true
  | d :: ds => D.lt n d && D.ltAll n ds
end
def Cell.lt (n : Nat) : Cell → Bool
  | .lst ds => D.ltAll n ds
  | .frz ds => D.ltAll n ds
  | .dK kvs => D.ltAll n (kvs.map (·.2))
  | .dT kvs => D.ltAll n (kvs.map (·.2))
  | .ins _ fs => D.ltAll n (fs.map (·.2))
  | .exc _ => true
  | .exv _ _ d => D.lt n d
  | .ded => true
/-- each cell below n is as it was, or names cells below n alone -/
def Keep (S S' : Store) : Prop := S.length ≤ S'.length ∧ ∀ (i : Nat) (c : Cell), i < S.length → S'[i]? = some c → S[i]? = some c ∨ c.lt S.length = true
open Classical in
/-- behind an expression that began at S: new cells are dropped, where nothing that stays names them -/
noncomputable def gc (S : Store) (d : D) (S' : Store) : R D :=
  if d.lt S.length = true ∧ Keep S S' then .ok d (S'.take S.length)
  else match d with
    | .ref k => match S'[k]? with
      | some c => if S.length ≤ k ∧ c.lt S.length = true ∧ Keep S S' then .ok (.ref S.length) (S'.take S.length ++ [c]) else .ok d S'
      | none => .ok d S'
    | _ => .ok d S'
noncomputable def R.gc (r : R D) (S : Store) : R D := r.bind fun d S' => Mi.gc S d S'
@[simp] theorem R.gc_ok (d : D) (S S' : Store) : (R.ok d S').gc S = Mi.gc S d S' := rfl
@[simp] theorem R.gc_bad (S : Store) : (R.bad : R D).gc S = .bad := rfl
@[simp] theorem R.gc_exc (x : Exn) (S S' : Store) : (R.exc x S' : R D).gc S = .exc x S' := rfl
/-- behind n: new cells, lists and dicts, as values -/
def fzD (n : Nat) (S : Store) : Nat → D → Option D
  | 0, d => if d.lt n = true then some d else none
  | k + 1, d => if d.lt n = true then some d else match d with
    | .tup ds => (allSome (ds.map (fzD n S k))).map .tup
    | .pl ds => (allSome (ds.map (fzD n S k))).map .pl
    | .ref m => match S[m]? with
      | some (.lst ds) => (allSome (ds.map (fzD n S k))).map .pl
      | some (.dK kvs) => (allSome (kvs.map fun kv => fzD n S k kv.2)).map (.pd (kvs.map (·.1)))
      | some (.dT kvs) => (allSome (kvs.map fun kv => fzD n S k kv.2)).map (.pt (kvs.map (·.1)))
      | some (.ins C fs) => (allSome (fs.map fun kv => fzD n S k kv.2)).map (.po C (fs.map (·.1)))
      | _ => none
    | _ => none
open Classical in
/-- behind an expression that began at S: what is new is kept as a value -/
noncomputable def fz (S : Store) (d : D) (S' : Store) : R D :=
  match fzD S.length S' 12 d with
  | some d' => if Keep S S' then .ok d' (S'.take S.length) else gc S d S'
  | none => gc S d S'
noncomputable def R.fz (r : R D) (S : Store) : R D := r.bind fun d S' => Mi.fz S d S'
@[simp] theorem R.fz_ok (d : D) (S S' : Store) : (R.ok d S').fz S = Mi.fz S d S' := rfl
@[simp] theorem R.fz_bad (S : Store) : (R.bad : R D).fz S = .bad := rfl
@[simp] theorem R.fz_exc (x : Exn) (S S' : Store) : (R.exc x S' : R D).fz S = .exc x S' := rfl
/-- built-in functions and types that are called -/
inductive Bi where
  | len | isi | abs | min | max | sum | all | any | list | tuple | str | int | repr | sorted | dict | bool
  deriving DecidableEq
/-- methods of built-in types -/
inductive Mt where
  | append | pop | insert | extend | join | upper | get | index | remove | count | update | split | partition | clear | reverse
  deriving DecidableEq
inductive CT where
  | nm (i : Nat) | tp (ts : List CT)
mutual
inductive CE where
  | cst (d : D) | loc (i : Nat) | glb (x : Nat)
  | bin (op : Operator) (a b : CE) | neg (a : CE) | not (a : CE)
  | and (a b : CE) | or (a b : CE) | cmp (op : CmpOp) (a b : CE) | chn (p q : CmpOp) (a b c : CE) | ite (c a b : CE)
  | tup (as : CA) | lst (as : CA) | dct (as : CA)
  | idx (a b : CE) | slc (a : CE) (lo : Bool) (x : CE) (hi : Bool) (y : CE) | rev (a : CE)
  | call (f : Nat) (as : CA) | bi (f : Bi) (as : CA) | mth (m : Mt) (o : CE) (as : CA)
  | lc (vs : List Nat) (t : CT) (it : CI) (c : CE) (e : CE) | isx (e : CE) (tab : List (Str × Bool))
  | dc (vs : List Nat) (t : CT) (it : CI) (c : CE) (k v : CE)
  | mkx (x : Str) | mkf (x f : Str) (e : CE) | fld (e : CE) (f : Str)
  | nvr | fst (as : CA) | dix (tab : List (Str × Str)) (e : CE)
  | fz (e : CE)
  /-- C(..): a new instance of the class of this name, made by this def -/
  | new (c : Str) (i : Nat) (as : CA)
  /-- o.m(..): o an instance; by its class's name the def's number -/
  | mcl (m : Str) (tab : List (Str × Nat)) (o : CE) (as : CA)
inductive CA where
  | nil | cons (e : CE) (r : CA)
inductive CI where
  | val (e : CE) | rng (as : CA) | enu (e : CE) | zip (a b : CE) | items (e : CE) | dit (tab : List (Str × Str))
end
/-- what an except clause keeps: a constant, the refusal's field (of these classes), a pair of a text and of it -/
inductive HE where
  | cst (d : D) | fld (ys : List Str) (f : Str) | tupf (x : Str) (ys : List Str) (f : Str)
inductive HB where
  | asg (j : Nat) (e : HE) | ret (d : D)
/-- an except clause: the held classes that it catches, its name -/
structure Hd where
  yes : List Str
  nm : Option Nat
  b : HB
inductive CSs where
  | nil
  | asg (t : CT) (e : CE) (r : CSs) | aug (i : Nat) (op : Operator) (e : CE) (r : CSs) | sub (o i e : CE) (r : CSs)
  | exp (e : CE) (r : CSs) | ret (e : CE) | ifs (c : CE) (a b : CSs) (r : CSs) | for_ (t : CT) (it : CI) (b : CSs) (r : CSs) | whl (c : CE) (b : CSs) (r : CSs)
  | brk | cont | nev
  | raise (x : Str) | xexp (f : Nat) (as : CA) (r : CSs) | tryR (f : Nat) (as : CA) (i j : Nat) (xs : List Str) (r : CSs)
  | raiseF (x f : Str) (e : CE) | tryF (f : Nat) (as : CA) (c g : Str) (i j : Nat) (r : CSs)
  | fzv (i : Nat) (r : CSs)
  /-- o.f = e, where o is an instance of one of these classes -/
  | sat (o : CE) (cs : List Str) (f : Str) (e : CE) (r : CSs)
  /-- t = f(..), return f(..), where f may raise; z: what is new is kept as a value -/
  | xasg (z : Bool) (t : CT) (f : Nat) (as : CA) (r : CSs) | xret (z : Bool) (f : Nat) (as : CA)
  /-- try, with except clauses; all classes that are known -/
  | tryM (b : CSs) (xs : List Str) (hs : List Hd) (r : CSs)
  /-- o.f op= e -/
  | saug (o : CE) (cs : List Str) (f : Str) (op : Operator) (e : CE) (r : CSs)
def keyOf : D → Option Key
  | .int i => some (.inl i)
  | .str x => some (.inr x)
  | _ => none
def keysOfD : List D → Option (List Key)
  | [] => some []
  | d :: r => match keyOf d, keysOfD r with
    | some k, some ks => some (k :: ks)
    | _, _ => none
/-- a tuple as a key -/
def keysT : D → Option (List Key)
  | .tup ds => keysOfD ds
  | _ => none
def keyD : Key → D
  | .inl i => .int i
  | .inr x => .str x
def keyPy : Key → PyData
  | .inl i => .int i
  | .inr x => .str x
/-- what stands there, as Python data (to a depth) -/
def toPy : Nat → Store → D → Option PyData
  | _, _, .non => some .none
  | _, _, .bl b => some (.bool b)
  | _, _, .int i => some (.int i)
  | _, _, .str x => some (.str x)
  | k + 1, S, .tup ds => (allSome (ds.map (toPy k S))).map .tuple
  | k + 1, S, .ref n => match S[n]? with
    | some (.lst ds) => (allSome (ds.map (toPy k S))).map .list
    | some (.frz ds) => (allSome (ds.map (toPy k S))).map .list
    | some (.dK kvs) => (allSome (kvs.map fun kv => toPy k S kv.2)).map fun ps => .dict ((kvs.map fun kv => keyPy kv.1).zip ps)
    | _ => none
  | k + 1, S, .pl ds => (allSome (ds.map (toPy k S))).map .list
  | k + 1, S, .pd ks ds => (allSome (ds.map (toPy k S))).map fun ps => .dict ((ks.map keyPy).zip ps)
  | k + 1, S, .kt ds => (allSome (ds.map (toPy k S))).map .tuple
  | 0, _, .tup _ => none
  | 0, _, .kt _ => none
  | 0, _, .ref _ => none
  | 0, _, .pl _ => none
  | 0, _, .pd _ _ => none
  | _, _, .pt _ _ => none
  | _, _, .po _ _ _ => none
  | _, _, .sta _ => none
abbrev py (S : Store) (d : D) : Option PyData := toPy 50 S d
def okIf (b : Bool) (d : D) (S : Store) : R D := if b then .ok d S else .bad
/-- a new cell -/
def newC (c : Cell) (S : Store) : R D := .ok (.ref S.length) (S ++ [c])
/-- the items of a list -/
def lstAt (S : Store) : D → Option (List D)
  | .ref n => match S[n]? with
    | some (.lst ds) => some ds
    | some (.frz ds) => some ds
    | _ => none
  | .pl ds => some ds
  | _ => none
def seqAt (S : Store) (d : D) : Option (List D) := match d with
  | .tup ds => some ds
  | .kt ds => some ds
  | _ => lstAt S d
instance (i j : Int) : Decidable (CMul i j) := by unfold CMul; infer_instance
instance (i j : Int) : Decidable (CMulW i j) := by unfold CMulW; infer_instance
instance (i j : Int) : Decidable (CDivW i j) := by unfold CDivW; infer_instance
instance (i j : Int) : Decidable (CPow i j) := by unfold CPow; infer_instance
def sizeOk (n : Nat) : Bool := decide (n ≤ sizeLine)
def binD : Operator → D → D → Store → R D
  | .Add, .int i, .int j, S => .ok (.int (i + j)) S
  | .Add, .bl b, .int j, S => .ok (.int ((if b = true then 1 else 0) + j)) S
  | .Sub, .bl b, .int j, S => .ok (.int ((if b = true then 1 else 0) - j)) S
  | .Sub, .int i, .bl b, S => .ok (.int (i - if b = true then 1 else 0)) S
  | .Add, .str x, .str y, S => okIf (sizeOk (x.length + y.length)) (.str (x ++ y)) S
  | .Add, .tup xs, .tup ys, S => okIf (sizeOk (xs.length + ys.length)) (.tup (xs ++ ys)) S
  | .Add, .ref m, .ref n, S => match S[m]?, S[n]? with
    | some (.lst xs), some (.lst ys) => if sizeOk (xs.length + ys.length) then newC (.lst (xs ++ ys)) S else .bad
    | _, _ => .bad
  | .Sub, .int i, .int j, S => .ok (.int (i - j)) S
  | .Mult, .int i, .int j, S => okIf (decide (CMul i j) || decide (CMulW i j)) (.int (i * j)) S
  | .Add, .pl xs, .pl ys, S => if sizeOk (xs.length + ys.length) then newC (.lst (xs ++ ys)) S else .bad
  | .Add, .ref m, .pl ys, S => match S[m]? with
    | some (.lst xs) => if sizeOk (xs.length + ys.length) then newC (.lst (xs ++ ys)) S else .bad
    | _ => .bad
  | .Add, .pl xs, .ref n, S => match S[n]? with
    | some (.lst ys) => if sizeOk (xs.length + ys.length) then newC (.lst (xs ++ ys)) S else .bad
    | _ => .bad
  | .Mult, .pl xs, .int j, S => if decide (0 ≤ j) && decide (j < 2 ^ 63) && sizeOk (xs.length * j.toNat) then newC (.lst (List.flatten (List.replicate j.toNat xs))) S else .bad
  | .Mult, .ref m, .int j, S => match S[m]? with
    | some (.lst xs) => if decide (0 ≤ j) && decide (j < 2 ^ 63) && sizeOk (xs.length * j.toNat) then newC (.lst (List.flatten (List.replicate j.toNat xs))) S else .bad
    | _ => .bad
  | .FloorDiv, .int i, .int j, S => okIf (decide (CDivW i j)) (.int (i / j)) S
  | .Mod, .int i, .int j, S => okIf (decide (0 < j)) (.int (i % j)) S
  | .Pow, .int i, .int j, S => okIf (decide (CPow i j)) (.int (i ^ j.toNat)) S
  | _, _, _, _ => .bad
/-- == of data -/
def eqD (S : Store) (a b : D) : Option Bool := match py S a, py S b with
  | some p, some q => if SeqAt.shaped p && SeqAt.shaped q then some (PyData.eqv p q) else none
  | _, _ => none
/-- a list beside an empty one -/
def nilB (S : Store) : D → D → Option Bool
  | .ref n, .ref m => match S[n]?, S[m]? with
    | some (.lst ds), some (.lst []) => some ds.isEmpty
    | _, _ => none
  | .ref n, .pl [] => match S[n]? with
    | some (.lst ds) => some ds.isEmpty
    | _ => none
  | .pl ds, .pl [] => some ds.isEmpty
  | _, _ => none
def eqX (S : Store) (a b : D) : Option Bool := match nilB S a b with
  | some r => some r
  | none => eqD S a b
/-- x in a list or tuple of data -/
def inD (S : Store) (x : D) (ds : List D) : Option Bool := match py S x, allSome (ds.map (toPy 49 S)) with
  | some p, some qs => if SeqAt.shaped p && SeqAt.shaped (.list qs) then some (qs.any fun q => PyData.eqv q p) else none
  | _, _ => none
def lookK {κ : Type} [DecidableEq κ] (kvs : List (κ × D)) (k : κ) : Option D := (kvs.find? fun p => decide (p.1 = k)).map (·.2)
def ofB (o : Option Bool) (S : Store) : R D := match o with
  | some b => .ok (.bl b) S
  | none => .bad
def hasD (x y : D) (S : Store) : Option Bool := match x, y with
  | .str c, .str z => match c.cps.toList with
    | [s] => some (decide (s ∈ z.cps.toList))
    | _ => none
  | x, .tup ds => inD S x ds
  | x, .kt ds => inD S x ds
  | x, .ref n => match S[n]? with
    | some (.lst ds) => inD S x ds
    | some (.frz ds) => inD S x ds
    | some (.dK kvs) => (keyOf x).map fun k => (lookK kvs k).isSome
    | some (.dT kvs) => (keysT x).map fun k => (lookK kvs k).isSome
    | _ => none
  | x, .pl ds => inD S x ds
  | x, .pd ks ds => (keyOf x).map fun k => (lookK (ks.zip ds) k).isSome
  | x, .pt ks ds => (keysT x).map fun k => (lookK (ks.zip ds) k).isSome
  | _, _ => none
def cmpD : CmpOp → D → D → Store → R D
  | .Eq, a, b, S => ofB (eqX S a b) S
  | .NotEq, a, b, S => ofB ((eqX S a b).map (!·)) S
  | .Lt, .int i, .int j, S => .ok (.bl (decide (i < j))) S
  | .LtE, .int i, .int j, S => .ok (.bl (decide (i ≤ j))) S
  | .Gt, .int i, .int j, S => .ok (.bl (decide (j < i))) S
  | .GtE, .int i, .int j, S => .ok (.bl (decide (j ≤ i))) S
  | .Lt, .str i, .str j, S => .ok (.bl (decide (i.cps.toList < j.cps.toList))) S
  | .LtE, .str i, .str j, S => .ok (.bl (!decide (j.cps.toList < i.cps.toList))) S
  | .Gt, .str i, .str j, S => .ok (.bl (decide (j.cps.toList < i.cps.toList))) S
  | .GtE, .str i, .str j, S => .ok (.bl (!decide (i.cps.toList < j.cps.toList))) S
  | .Is, .non, .non, S => .ok (.bl true) S
  | .Is, .bl a, .bl b, S => .ok (.bl (decide (a = b))) S
  | .Is, .bl _, .non, S => .ok (.bl false) S
  | .Is, .int _, .non, S => .ok (.bl false) S
  | .Is, .str _, .non, S => .ok (.bl false) S
  | .Is, .tup _, .non, S => .ok (.bl false) S
  | .Is, .ref _, .non, S => .ok (.bl false) S
  | .Is, .pl _, .non, S => .ok (.bl false) S
  | .Is, .pd _ _, .non, S => .ok (.bl false) S
  | .Is, .pt _ _, .non, S => .ok (.bl false) S
  | .IsNot, .non, .non, S => .ok (.bl false) S
  | .IsNot, .bl a, .bl b, S => .ok (.bl (!decide (a = b))) S
  | .IsNot, .bl _, .non, S => .ok (.bl true) S
  | .IsNot, .int _, .non, S => .ok (.bl true) S
  | .IsNot, .str _, .non, S => .ok (.bl true) S
  | .IsNot, .tup _, .non, S => .ok (.bl true) S
  | .IsNot, .ref _, .non, S => .ok (.bl true) S
  | .IsNot, .pl _, .non, S => .ok (.bl true) S
  | .IsNot, .pd _ _, .non, S => .ok (.bl true) S
  | .IsNot, .pt _ _, .non, S => .ok (.bl true) S
  | .In, x, y, S => ofB (hasD x y S) S
  | .NotIn, x, y, S => ofB ((hasD x y S).map (!·)) S
  | _, _, _, _ => .bad
/-- in place -/
def augD : Operator → D → D → Store → R D
  | .Add, .int i, .int j, S => .ok (.int (i + j)) S
  | .Sub, .int i, .int j, S => .ok (.int (i - j)) S
  | .Add, .ref m, .ref n, S => match S[m]?, S[n]? with
    | some (.lst xs), some (.lst ys) => if sizeOk (xs.length + ys.length) then .ok (.ref m) (S.set m (.lst (xs ++ ys))) else .bad
    | _, _ => .bad
  | _, _, _, _ => .bad
def negD : D → Store → R D
  | .int i, S => .ok (.int (-i)) S
  | _, _ => .bad
/-- by a truth -/
def ifB {α : Type} (d : D) (x y : R α) : R α := match d with
  | .bl b => if b = true then x else y
  | _ => .bad
@[simp] theorem ifB_bl {α : Type} (b : Bool) (x y : R α) : ifB (.bl b) x y = if b = true then x else y := rfl
def optR (o : Option D) (S : Store) : R D := match o with
  | some d => .ok d S
  | none => .bad
def idxC : Option Cell → D → Store → R D
  | some (.lst ds), .int i, S => optR (atI ds i) S
  | some (.frz ds), .int i, S => optR (atI ds i) S
  | some (.dK kvs), k, S => optR ((keyOf k).bind (lookK kvs)) S
  | some (.dT kvs), k, S => optR ((keysT k).bind (lookK kvs)) S
  | _, _, _ => .bad
def idxD : D → D → Store → R D
  | .tup ds, .int i, S => optR (atI ds i) S
  | .kt ds, .int i, S => optR (atI ds i) S
  | .str z, .int i, S => if sizeOk z.length then optR ((atI z.cps.toList i).map fun c => .str ⟨#[c]⟩) S else .bad
  | .ref n, k, S => idxC S[n]? k S
  | .pl ds, .int i, S => optR (atI ds i) S
  | .pd ks ds, k, S => optR ((keyOf k).bind (lookK (ks.zip ds))) S
  | .pt ks ds, k, S => optR ((keysT k).bind (lookK (ks.zip ds))) S
  | _, _, _ => .bad
/-- the places of a slice -/
def cutD {α : Type} (xs : List α) (lo hi : Option Int) : List α := (xs.drop (HT.sIx xs.length 0 lo)).take (HT.sIx xs.length xs.length hi - HT.sIx xs.length 0 lo)
def slcD (d : D) (lo hi : Option Int) (S : Store) : R D := match d with
  | .tup ds => .ok (.tup (cutD ds lo hi)) S
  | .str z => if sizeOk z.length then .ok (.str ⟨(cutD z.cps.toList lo hi).toArray⟩) S else .bad
  | .ref n => match lstAt S (.ref n) with
    | some ds => newC (.lst (cutD ds lo hi)) S
    | none => .bad
  | .pl ds => newC (.lst (cutD ds lo hi)) S
  | _ => .bad
def revD (d : D) (S : Store) : R D := match d with
  | .tup ds => .ok (.tup ds.reverse) S
  | .ref n => match lstAt S (.ref n) with
    | some ds => newC (.lst ds.reverse) S
    | none => .bad
  | .pl ds => newC (.lst ds.reverse) S
  | _ => .bad
def tyOf (S : Store) : D → Option String
  | .non => some "NoneType"
  | .bl _ => some "bool"
  | .int _ => some "int"
  | .str _ => some "str"
  | .tup _ => some "tuple"
  | .kt _ => some "tuple"
  | .ref n => match S[n]? with
    | some (.lst _) => some "list"
    | some (.frz _) => some "list"
    | some (.dK _) => some "dict"
    | some (.dT _) => some "dict"
    | _ => none
  | .pl _ => some "list"
  | .pd _ _ => some "dict"
  | .pt _ _ => none
  | .po _ _ _ => none
  | .sta _ => none
def subTy (a b : String) : Option Bool := match a, b with
  | "NoneType", "int" => some false | "NoneType", "bool" => some false | "NoneType", "str" => some false | "NoneType", "tuple" => some false | "NoneType", "list" => some false | "NoneType", "dict" => some false
  | "bool", "int" => some true | "bool", "bool" => some true | "bool", "str" => some false | "bool", "tuple" => some false | "bool", "list" => some false | "bool", "dict" => some false
  | "int", "int" => some true | "int", "bool" => some false | "int", "str" => some false | "int", "tuple" => some false | "int", "list" => some false | "int", "dict" => some false
  | "str", "int" => some false | "str", "bool" => some false | "str", "str" => some true | "str", "tuple" => some false | "str", "list" => some false | "str", "dict" => some false
  | "tuple", "int" => some false | "tuple", "bool" => some false | "tuple", "str" => some false | "tuple", "tuple" => some true | "tuple", "list" => some false | "tuple", "dict" => some false
  | "list", "int" => some false | "list", "bool" => some false | "list", "str" => some false | "list", "tuple" => some false | "list", "list" => some true | "list", "dict" => some false
  | "dict", "int" => some false | "dict", "bool" => some false | "dict", "str" => some false | "dict", "tuple" => some false | "dict", "list" => some false | "dict", "dict" => some true
  | _, _ => none
def isiD (S : Store) (d c : D) : Option Bool := (tyOf S d).bind fun t => match c with
  | .sta (.ty b) => subTy t b
  | .tup [.sta (.ty a), .sta (.ty b)] => match subTy t a, subTy t b with
    | some p, some q => some (p || q)
    | _, _ => none
  | .kt [.sta (.ty a), .sta (.ty b)] => match subTy t a, subTy t b with
    | some p, some q => some (p || q)
    | _, _ => none
  | _ => none
def strsOf : List D → Option (List Str)
  | [] => some []
  | .str x :: r => (strsOf r).map (x :: ·)
  | _ :: _ => none
def intsOf : List D → Option (List Int)
  | [] => some []
  | .int x :: r => (intsOf r).map (x :: ·)
  | _ :: _ => none
def bolsOf : List D → Option (List Bool)
  | [] => some []
  | .bl x :: r => (bolsOf r).map (x :: ·)
  | _ :: _ => none
def keysOf : List Key → Option (List Str)
  | [] => some []
  | .inr x :: r => (keysOf r).map (x :: ·)
  | _ :: _ => none
def pairsOf : List D → Option (List (Key × D))
  | [] => some []
  | .tup [k, v] :: r => match keyOf k, pairsOf r with
    | some k, some r => some ((k, v) :: r)
    | _, _ => none
  | _ :: _ => none
def insSt (x : Str) : List Str → List Str
  | [] => [x]
  | y :: r => if y.cps.toList < x.cps.toList then y :: insSt x r else x :: y :: r
/-- texts by code points -/
def sortSt : List Str → List Str
  | [] => []
  | x :: r => insSt x (sortSt r)
def insInt (x : Int) : List Int → List Int
  | [] => [x]
  | y :: r => if y < x then y :: insInt x r else x :: y :: r
def sortInt : List Int → List Int
  | [] => []
  | x :: r => insInt x (sortInt r)
def putD {κ : Type} [DecidableEq κ] (kvs : List (κ × D)) (k : κ) (v : D) : List (κ × D) :=
  if kvs.any fun kv => decide (kv.1 = k) then kvs.map fun kv => if kv.1 = k then (kv.1, v) else kv else kvs ++ [(k, v)]
def mergeD (kvs more : List (Key × D)) : List (Key × D) := more.foldl (fun acc kv => putD acc kv.1 kv.2) kvs
def lenD (S : Store) : D → Option Nat
  | .tup ds => some ds.length
  | .kt ds => some ds.length
  | .str z => if sizeOk z.length then some z.length else none
  | .ref n => match S[n]? with
    | some (.lst ds) => some ds.length
    | some (.frz ds) => some ds.length
    | some (.dK kvs) => some kvs.length
    | _ => none
  | .pl ds => some ds.length
  | _ => none
def biD (f : Bi) (ds : List D) (S : Store) : R D := match f with
  | .len => match ds with
    | [d] => optR ((lenD S d).map fun n => .int n) S
    | _ => .bad
  | .isi => match ds with
    | [d, c] => ofB (isiD S d c) S
    | _ => .bad
  | .abs => match ds with
    | [.int i] => .ok (.int (if i < 0 then -i else i)) S
    | _ => .bad
  | .min => match ds with
    | [.int i, .int j] => .ok (.int (if j < i then j else i)) S
    | _ => .bad
  | .max => match ds with
    | [.int i, .int j] => .ok (.int (if j > i then j else i)) S
    | _ => .bad
  | .sum => match ds with
    | [.ref n] => optR ((lstAt S (.ref n)).bind fun ds => (intsOf ds).map fun ns => .int ns.sum) S
    | [.pl es] => optR ((some es).bind fun ds => (intsOf ds).map fun ns => .int ns.sum) S
    | _ => .bad
  | .all => match ds with
    | [.ref n] => ofB ((lstAt S (.ref n)).bind fun ds => (bolsOf ds).map fun ns => ns.all id) S
    | [.pl es] => ofB ((some es).bind fun ds => (bolsOf ds).map fun ns => ns.all id) S
    | _ => .bad
  | .any => match ds with
    | [.ref n] => ofB ((lstAt S (.ref n)).bind fun ds => (bolsOf ds).map fun ns => ns.any id) S
    | [.pl es] => ofB ((some es).bind fun ds => (bolsOf ds).map fun ns => ns.any id) S
    | _ => .bad
  | .list => match ds with
    | [.tup es] => newC (.lst es) S
    | [.pl es] => newC (.lst es) S
    | [.ref n] => match S[n]? with
      | some (.lst es) => newC (.lst es) S
      | some (.frz es) => newC (.lst es) S
      | some (.dK kvs) => newC (.lst (kvs.map fun kv => keyD kv.1)) S
      | _ => .bad
    | _ => .bad
  | .tuple => match ds with
    | [.tup es] => .ok (.tup es) S
    | [.pl es] => .ok (.tup es) S
    | [.ref n] => match lstAt S (.ref n) with
      | some es => .ok (.tup es) S
      | none => .bad
    | _ => .bad
  | .str => match ds with
    | [.int i] => if i.natAbs.log2 < 1920 then .ok (.str (toString i : String)) S else .bad
    | [.bl b] => .ok (.str (if b then "True" else "False")) S
    | [.str x] => .ok (.str x) S
    | _ => .bad
  | .repr => match ds with
    | [d] => match py S d with
      | some p => if p.showable = true ∧ sizeOk p.shown.length = true then .ok (.str p.shown) S else .bad
      | none => .bad
    | _ => .bad
  | .sorted => match ds with
    | [.pl es] => match strsOf es with
      | some xs => if xs.length < 64 then newC (.lst ((sortSt xs).map .str)) S else .bad
      | none => .bad
    | [.pd ks es] => if ks.length = es.length then match keysOf ks with
      | some xs => if xs.length < 64 then newC (.lst ((sortSt xs).map .str)) S else .bad
      | none => .bad else .bad
    | [.ref n] => match S[n]? with
      | some (.lst es) => match strsOf es with
        | some xs => if xs.length < 64 then newC (.lst ((sortSt xs).map .str)) S else .bad
        | none => .bad
      | some (.dK kvs) => match keysOf (kvs.map (·.1)) with
        | some xs => if xs.length < 64 then newC (.lst ((sortSt xs).map .str)) S else .bad
        | none => .bad
      | _ => .bad
    | _ => .bad
  | .dict => match ds with
    | [.pl es] => match pairsOf es with
      | some kvs => newC (.dK (mergeD [] kvs)) S
      | none => .bad
    | [.ref n] => match lstAt S (.ref n) with
      | some es => match pairsOf es with
        | some kvs => newC (.dK (mergeD [] kvs)) S
        | none => .bad
      | none => .bad
    | _ => .bad
  | .int => match ds with
    | [.str a] => match PySem.intText? a with
      | some n => if a.length ≤ 640 then .ok (.int n) S else .bad
      | none => .bad
    | _ => .bad
  | .bool => .bad
/-- a cell written -/
def setC (S : Store) (n : Nat) (c : Cell) (d : D) : R D := .ok d (S.set n c)
/-- the receiver is of the method's type -/
def mtTy (m : Mt) (d : D) (S : Store) : Bool := match m, d with
  | .join, .str _ => true | .upper, .str _ => true | .split, .str _ => true | .partition, .str _ => true
  | .get, .ref n => match S[n]? with | some (.dK _) => true | _ => false
  | .append, .ref n => (lstAt S (.ref n)).isSome | .pop, .ref n => (lstAt S (.ref n)).isSome
  | .insert, .ref n => (lstAt S (.ref n)).isSome | .extend, .ref n => (lstAt S (.ref n)).isSome
  | .clear, .ref n => (lstAt S (.ref n)).isSome
  | _, _ => false
def mtD (m : Mt) (x : D) (ds : List D) (S : Store) : R D := match m with
  | .append => match x, ds with
    | .ref n, [d] => match S[n]? with
      | some (.lst es) => if es.length < sizeLine then setC S n (.lst (es ++ [d])) .non else .bad
      | _ => .bad
    | _, _ => .bad
  | .pop => match x, ds with
    | .ref n, [.int i] => match S[n]? with
      | some (.lst es) => match ixN es.length i with
        | some k => match es[k]? with
          | some y => if -(2 ^ 63) ≤ i ∧ i < 2 ^ 63 then setC S n (.lst (es.eraseIdx k)) y else .bad
          | none => .bad
        | none => .bad
      | _ => .bad
    | .ref n, [] => match S[n]? with
      | some (.lst es) => match es[es.length - 1]? with
        | some y => setC S n (.lst es.dropLast) y
        | none => .bad
      | _ => .bad
    | _, _ => .bad
  | .insert => match x, ds with
    | .ref n, [.int i, y] => match S[n]? with
      | some (.lst es) => if es.length < sizeLine ∧ 0 ≤ i ∧ i < 2 ^ 63 then setC S n (.lst (es.take i.toNat ++ [y] ++ es.drop i.toNat)) .non else .bad
      | _ => .bad
    | _, _ => .bad
  | .clear => match x, ds with
    | .ref n, [] => match S[n]? with
      | some (.lst _) => setC S n (.lst []) .non
      | _ => .bad
    | _, _ => .bad
  | .extend => match x, ds with
    | .ref n, [.pl fs] => match S[n]? with
      | some (.lst es) => if es.length + fs.length ≤ sizeLine then setC S n (.lst (es ++ fs)) .non else .bad
      | _ => .bad
    | .ref n, [.ref m] => match S[n]?, S[m]? with
      | some (.lst es), some (.lst fs) => if es.length + fs.length ≤ sizeLine then setC S n (.lst (es ++ fs)) .non else .bad
      | _, _ => .bad
    | _, _ => .bad
  | .join => match x, ds with
    | .str a, [.pl es] => match strsOf es with
      | some ys => if (ys.map (·.length)).sum + ys.length * a.length ≤ 16777216 then .ok (.str (Txt.join a ys)) S else .bad
      | none => .bad
    | .str a, [.ref m] => match lstAt S (.ref m) with
      | some es => match strsOf es with
        | some ys => if (ys.map (·.length)).sum + ys.length * a.length ≤ 16777216 then .ok (.str (Txt.join a ys)) S else .bad
        | none => .bad
      | none => .bad
    | _, _ => .bad
  | .upper => match x, ds with
    | .str a, [] => if a.length ≤ 5592405 then .ok (.str (Txt.upper a)) S else .bad
    | _, _ => .bad
  | .split => match x, ds with
    | .str a, [.str b] => if (b.length == 0) = false ∧ a.length + 2 ≤ sizeLine then newC (.lst ((Txt.split a b).map .str)) S else .bad
    | _, _ => .bad
  | .partition => match x, ds with
    | .str a, [.str b] => if (b.length == 0) = false ∧ a.length ≤ sizeLine then .ok (.tup [.str (Txt.partition a b).1, .str (Txt.partition a b).2.1, .str (Txt.partition a b).2.2]) S else .bad
    | _, _ => .bad
  | .get => match x, ds with
    | .pd ks es, [k] => match keyOf k with
      | some k => .ok ((lookK (ks.zip es) k).getD .non) S
      | none => .bad
    | .pd ks es, [k, d] => match keyOf k with
      | some k => .ok ((lookK (ks.zip es) k).getD d) S
      | none => .bad
    | .ref n, [k] => match S[n]?, keyOf k with
      | some (.dK kvs), some k => .ok ((lookK kvs k).getD .non) S
      | _, _ => .bad
    | .ref n, [k, d] => match S[n]?, keyOf k with
      | some (.dK kvs), some k => .ok ((lookK kvs k).getD d) S
      | _, _ => .bad
    | _, _ => .bad
  | _ => .bad
def subD : D → D → D → Store → Option Store
  | .ref n, k, v, S => match S[n]?, k with
    | some (.lst ds), .int i => (ixN ds.length i).map fun j => S.set n (.lst (ds.set j v))
    | some (.dK kvs), k => match keyOf k with
      | some k => if kvs.length < sizeLine then some (S.set n (.dK (putD kvs k v))) else none
      | none => none
    | some (.dT kvs), k => match keysT k with
      | some k => if kvs.length < sizeLine then some (S.set n (.dT (putD kvs k v))) else none
      | none => none
    | _, _ => none
  | _, _, _, _ => none
def dctD : List D → Option (List (Key × D))
  | [] => some []
  | k :: v :: r => match keyOf k, dctD r with
    | some k, some r => some ((k, v) :: r)
    | _, _ => none
  | _ => none
mutual
def asgT : CT → D → Store → Lcs → Option Lcs
  | .nm i, d, _, L => if i < L.length then some (L.set i (some d)) else none
  | .tp ts, d, S, L => match seqAt S d with
    | some ds => if ds.length = ts.length then asgTs ts ds S L else none
    | none => none
def asgTs : List CT → List D → Store → Lcs → Option Lcs
  | [], _, _, L => some L
  | t :: ts, d :: ds, S, L => (asgT t d S L).bind (asgTs ts ds S)
  | _ :: _, [], _, _ => none
end
abbrev Guard := List (Nat × Cell)
def Gok (g : Guard) (S : Store) : Prop := ∀ p ∈ g, S[p.1]? = some p.2
def wipeL (L : Lcs) (vs : List Nat) : Lcs := vs.foldr (fun v l => l.set v none) L
def rngD : List D → Option (List D)
  | [.int j] => if -(2 ^ 62) ≤ j ∧ j < 2 ^ 62 then some ((List.range j.toNat).map fun (k : Nat) => D.int (k : Int)) else none
  | [.int i, .int j, .int c] => if -(2 ^ 60) ≤ i ∧ i < 2 ^ 60 ∧ -(2 ^ 60) ≤ j ∧ j < 2 ^ 60 ∧ c ≠ 0 ∧ c.natAbs < 1073741824 ∧ Builtin.Range.small i j c = true ∧ 0 ≤ Builtin.Range.rangeSize i j c then some ((List.range (Builtin.Range.rangeSize i j c).toNat).map fun (k : Nat) => D.int (i + (k : Int) * c)) else none
  | [.int i, .int j] => if -(2 ^ 62) ≤ i ∧ i < 2 ^ 62 ∧ -(2 ^ 62) ≤ j ∧ j < 2 ^ 62 then some ((List.range (j - i).toNat).map fun (k : Nat) => D.int (i + (k : Int))) else none
  | _ => none
/-- a walked list stands as it stood -/
def lstG (S : Store) (n : Nat) : Option (List D × Guard) := match S[n]? with
  | some (.lst ds) => some (ds, [(n, .lst ds)])
  | some (.frz ds) => some (ds, [(n, .frz ds)])
  | _ => none
def walkD (S : Store) : D → Option (List D × Guard)
  | .tup ds => some (ds, [])
  | .kt ds => some (ds, [])
  | .str z => some (z.cps.toList.map fun c => .str ⟨#[c]⟩, [])
  | .pl ds => some (ds, [])
  | .ref n => lstG S n
  | _ => none
def tpG : D → Option (List D)
  | .tup ds => some ds
  | .kt ds => some ds
  | _ => none
def lsG (S : Store) : D → Option (List D × Guard)
  | .pl ds => some (ds, [])
  | .ref n => lstG S n
  | _ => none
def walkE (S : Store) (d : D) : Option (List D × Guard) := match tpG d with
  | some ds => some (ds, [])
  | none => lsG S d
def zipL (xs ys : List D) : List D := (xs.zip ys).map fun p => .tup [p.1, p.2]
def zipD (S : Store) (a b : D) : Option (List D × Guard) := match tpG a, tpG b with
  | some xs, some ys => some (zipL xs ys, [])
  | _, _ => match lsG S a, lsG S b with
    | some p, some q => some (zipL p.1 q.1, p.2 ++ q.2)
    | _, _ => none
def enuFrom (k : Nat) : List D → List D
  | [] => []
  | d :: r => .tup [.int (k : Int), d] :: enuFrom (k + 1) r
inductive Fl where
  | nx | ret (d : D) | brk | ct | xc (x : Exn)
section
variable (f : D → Store → R Unit)
open Classical in
/-- a comprehension's turns -/
noncomputable def lcLoop (g : Guard) : List D → Store → R Unit
  | [], S => if Gok g S then .ok () S else .bad
  | d :: r, S => if Gok g S then (f d S).bind fun _ S' => lcLoop g r S' else .bad
end
section
variable (f : D → Lcs → Store → R (Fl × Lcs))
open Classical in
noncomputable def forLoop (g : Guard) : List D → Lcs → Store → R (Fl × Lcs)
  | [], L, S => if Gok g S then .ok (.nx, L) S else .bad
  | d :: r, L, S => if Gok g S then (f d L S).bind fun p S' => match p.1 with
      | .nx => forLoop g r p.2 S'
      | .ct => forLoop g r p.2 S'
      | .brk => .ok (.nx, p.2) S'
      | .ret v => .ok (.ret v, p.2) S'
      | .xc x => .ok (.xc x, p.2) S'
    else .bad
end
/-- one turn: whether it goes on -/
abbrev Turn := Lcs → Store → R (Bool × Fl × Lcs)
def whN (f : Turn) : Nat → Lcs → Store → Option (R (Fl × Lcs))
  | 0, _, _ => none
  | n + 1, L, S => match f L S with
    | .ok (true, _, L') S' => whN f n L' S'
    | .ok (false, fl, L') S' => some (.ok (fl, L') S')
    | .exc x S' => some (.exc x S')
    | .bad => some .bad
open Classical in
noncomputable def wh (f : Turn) (L : Lcs) (S : Store) : R (Fl × Lcs) :=
  if h : ∃ n r, whN f n L S = some r then (Classical.choose_spec h).choose else .bad
/-- whether a held exception is of such a class -/
def isxD (d : D) (tab : List (Str × Bool)) (S : Store) : R D := match d with
  | .ref n => match S[n]? with
    | some (.exc x) => match tab.lookup x with
      | some b => .ok (.bl b) S
      | none => .bad
    | some (.exv x _ _) => match tab.lookup x with
      | some b => .ok (.bl b) S
      | none => .bad
    | _ => .bad
  | _ => .bad
/-- the parts of an f-string -/
def partD : D → Option Str
  | .str x => some x
  | .int i => if i.natAbs.log2 < 1920 then some (toString i) else none
  | _ => none
def joinF (acc : Str) : List D → Option Str
  | [] => some acc
  | d :: ds => match partD d with
    | some y => if (acc ++ y).length ≤ sizeLine then joinF (acc ++ y) ds else none
    | none => none
def fstD (ds : List D) : Option Str := joinF Str.empty ds
/-- e.f of a held exception -/
def fldD (d : D) (f : Str) (S : Store) : R D := match d with
  | .ref n => match S[n]? with
    | some (.exv _ g v) => if g = f then .ok v S else .bad
    | some (.ins _ fs) => optR (fs.lookup f) S
    | _ => .bad
  | .po _ fs ds => optR ((fs.zip ds).lookup f) S
  | _ => .bad
/-- C(..): a new instance, handed to its __init__ -/
def newI (F : List D → Store → R D) (c : Str) (ds : List D) (S : Store) : R D := (F (.ref S.length :: ds) (S ++ [.ins c []])).bind fun d S2 => match d with
  | .non => .ok (.ref S.length) S2
  | _ => .bad
/-- a field written -/
def putD1 (f : Str) (d : D) : List (Str × D) → List (Str × D)
  | [] => [(f, d)]
  | (g, x) :: r => if g = f then (g, d) :: r else (g, x) :: putD1 f d r
/-- the name's number of a method -/
def mclD (F : Nat → List D → Store → R D) (m : Str) (tab : List (Str × Nat)) (d : D) (ds : List D) (S1 S2 : Store) : R D := match d with
  | .ref n => match S1[n]? with
    | some (.ins c fs) => match tab.lookup c with
      | some i => if (fs.lookup m).isNone = true then F i (d :: ds) S2 else .bad
      | none => .bad
    | _ => .bad
  | .po c fs es => match tab.lookup c with
    | some i => if ((fs.zip es).lookup m).isNone = true then F i (d :: ds) S2 else .bad
    | none => .bad
  | _ => .bad
def HE.val (x : Exn) : HE → Option D
  | .cst d => some d
  | .fld ys f => match x.fld with
    | some (g, d) => if g = f ∧ ys.contains x.cls = true then some d else none
    | none => none
  | .tupf s ys f => match x.fld with
    | some (g, d) => if g = f ∧ ys.contains x.cls = true then some (.tup [.str s, d]) else none
    | none => none
def wipeO (o : Option Nat) (L : Lcs) : Lcs := match o with
  | some i => L.set i none
  | none => L
def inO (o : Option Nat) (L : Lcs) : Bool := match o with
  | some i => decide (i < L.length)
  | none => true
def HB.run (x : Exn) (o : Option Nat) (L : Lcs) (S : Store) : HB → R (Fl × Lcs)
  | .asg j e => match e.val x with
    | some d => if inO o L = true then .ok (.nx, wipeO o (L.set j (some d))) S else .bad
    | none => .bad
  | .ret d => if inO o L = true then .ok (.ret d, wipeO o L) S else .bad
/-- the clauses, one after the other -/
def hdS (x : Exn) : List Hd → Lcs → Store → R (Fl × Lcs)
  | [], L, S => .ok (.xc x, L) S
  | h :: r, L, S => if h.yes.contains x.cls = true then h.b.run x h.nm L S else hdS x r L S
structure Gv where
  fn : Nat → List D → Store → R D
  ct : Nat → Option D
variable (G : Gv)
def ofO {α : Type} (o : Option α) (S : Store) : R α := match o with
  | some a => .ok a S
  | none => .bad
mutual
noncomputable def evE : CE → Lcs → Store → R D
  | .cst d, _, S => .ok d S
  | .loc i, L, S => match L[i]? with
    | some (some d) => .ok d S
    | _ => .bad
  | .glb x, _, S => optR (G.ct x) S
  | .bin op a b, L, S => (evE a L S).bind fun x S1 => (evE b L S1).bind fun y S2 => binD op x y S2
  | .neg a, L, S => (evE a L S).bind negD
  | .not a, L, S => (evE a L S).bind fun x S1 => ifB x (.ok (.bl false) S1) (.ok (.bl true) S1)
  | .and a b, L, S => (evE a L S).bind fun x S1 => ifB x ((evE b L S1).bind fun y S2 => ifB y (.ok (.bl true) S2) (.ok (.bl false) S2)) (.ok (.bl false) S1)
  | .or a b, L, S => (evE a L S).bind fun x S1 => ifB x (.ok (.bl true) S1) ((evE b L S1).bind fun y S2 => ifB y (.ok (.bl true) S2) (.ok (.bl false) S2))
  | .cmp op a b, L, S => ((evE a L S).bind fun x S1 => (evE b L S1).bind fun y S2 => cmpD op x y S2).gc S
  | .chn p q a b c, L, S => ((evE a L S).bind fun x S1 => (evE b L S1).bind fun y S2 => (cmpD p x y S2).bind fun r S3 => ifB r ((evE c L S3).bind fun z S4 => cmpD q y z S4) (.ok (.bl false) S3)).gc S
  | .ite c a b, L, S => (evE c L S).bind fun x S1 => ifB x (evE a L S1) (evE b L S1)
  | .tup as, L, S => (evA as L S).bind fun ds S1 => okIf (sizeOk ds.length) (.tup ds) S1
  | .lst as, L, S => (evA as L S).bind fun ds S1 => if sizeOk ds.length then newC (.lst ds) S1 else .bad
  | .dct as, L, S => (evA as L (S ++ [.dK []])).bind fun ds S1 => match dctD ds, S1[S.length]? with
    | some kvs, some (.dK []) => if kvs.length ≤ 15 then .ok (.ref S.length) (S1.set S.length (.dK (mergeD [] kvs))) else .bad
    | _, _ => .bad
  | .idx a b, L, S => ((evE a L S).bind fun x S1 => (evE b L S1).bind fun y S2 => idxD x y S2).gc S
  | .slc a lo x hi y, L, S => ((evE a L S).bind fun d S1 => (if lo = true then (evE x L S1).bind fun u S2 => match u with | .int i => .ok (some i) S2 | _ => .bad else .ok none S1 : R (Option Int)).bind fun l S2 =>
      (if hi = true then (evE y L S2).bind fun u S3 => match u with | .int i => .ok (some i) S3 | _ => .bad else .ok none S2 : R (Option Int)).bind fun h S3 => slcD d l h S3).gc S
  | .rev a, L, S => ((evE a L S).bind revD).gc S
  | .call f as, L, S => ((evA as L S).bind fun ds S1 => G.fn f ds S1).gc S
  | .bi f as, L, S => ((evA as L S).bind fun ds S1 => biD f ds S1).gc S
  | .mth m o as, L, S => ((evE o L S).bind fun x S1 => if mtTy m x S1 = true then (evA as L S1).bind fun ds S2 => mtD m x ds S2 else .bad).gc S
  | .lc vs t it c e, L, S => ((evI it L S).bind fun p S1 =>
      (lcLoop (fun d S2 => (ofO (asgT t d S2 (wipeL L vs)) S2).bind fun L2 S3 => (evE c L2 S3).bind fun x S4 => ifB x
          ((evE e L2 S4).bind fun y S5 => match S5[S1.length]? with
            | some (.lst acc) => if acc.length < sizeLine then .ok () (S5.set S1.length (.lst (acc ++ [y]))) else .bad
            | _ => .bad) (.ok () S4)) p.2 p.1 (S1 ++ [.lst []])).bind fun _ S9 => .ok (.ref S1.length) S9).gc S
  | .isx e ys, L, S => (evE e L S).bind fun d S1 => isxD d ys S1
  | .mkx x, _, S => newC (.exc x) S
  | .mkf x f e, L, S => (evE e L S).bind fun d S1 => newC (.exv x f d) S1
  | .fld e f, L, S => (evE e L S).bind fun d S1 => fldD d f S1
  | .nvr, _, _ => .bad
  | .fst as, L, S => (evA as L S).bind fun ds S1 => match fstD ds with
    | some z => .ok (.str z) S1
    | none => .bad
  | .fz e, L, S => (evE e L S).fz S
  | .new c i as, L, S => ((evA as L S).bind fun ds S1 => newI (G.fn i) c ds S1).gc S
  | .mcl m tab o as, L, S => ((evE o L S).bind fun d S1 => (evA as L S1).bind fun ds S2 => mclD G.fn m tab d ds S1 S2).gc S
  | .dix tab e, L, S => (evE e L S).bind fun d S1 => match d with
    | .str x => optR ((tab.lookup x).map .str) S1
    | _ => .bad
  | .dc vs t it c kx e, L, S => ((evI it L S).bind fun p S1 =>
      (lcLoop (fun d S2 => (ofO (asgT t d S2 (wipeL L vs)) S2).bind fun L2 S3 => (evE c L2 S3).bind fun x S4 => ifB x
          ((evE kx L2 S4).bind fun q S5 => (evE e L2 S5).bind fun y S6 => match keyOf q, S6[S1.length]? with
            | some q, some (.dK kvs) => if kvs.length < sizeLine then .ok () (S6.set S1.length (.dK (putD kvs q y))) else .bad
            | _, _ => .bad) (.ok () S4)) p.2 p.1 (S1 ++ [.dK []])).bind fun _ S9 => .ok (.ref S1.length) S9).gc S
noncomputable def evA : CA → Lcs → Store → R (List D)
  | .nil, _, S => .ok [] S
  | .cons e r, L, S => (evE e L S).bind fun d S1 => (evA r L S1).bind fun ds S2 => .ok (d :: ds) S2
noncomputable def evI : CI → Lcs → Store → R (List D × Guard)
  | .val e, L, S => (evE e L S).bind fun d S1 => ofO (walkD S1 d) S1
  | .rng as, L, S => (evA as L S).bind fun ds S1 => ofO ((rngD ds).map fun l => (l, [])) S1
  | .enu e, L, S => (evE e L S).bind fun d S1 => ofO ((walkE S1 d).map fun p => (enuFrom 0 p.1, p.2)) S1
  | .zip a b, L, S => (evE a L S).bind fun x S1 => (evE b L S1).bind fun y S2 => ofO (zipD S2 x y) S2
  | .dit tab, _, S => .ok (tab.map fun kv => .tup [.str kv.1, .str kv.2], []) S
  | .items e, L, S => (evE e L S).bind fun d S1 => match d with
    | .ref n => match S1[n]? with
      | some (.dK kvs) => .ok (kvs.map fun kv => .tup [keyD kv.1, kv.2], [(n, .dK kvs)]) S1
      | _ => .bad
    | .pd ks es => .ok ((ks.zip es).map fun kv => .tup [keyD kv.1, kv.2], []) S1
    | _ => .bad
end
noncomputable def exS : CSs → Lcs → Store → R (Fl × Lcs)
  | .nil, L, S => .ok (.nx, L) S
  | .asg t e r, L, S => (evE G e L S).bind fun d S1 => (ofO (asgT t d S1 L) S1).bind fun L1 S2 => exS r L1 S2
  | .aug i op e r, L, S => match L[i]? with
    | some (some x) => (evE G e L S).bind fun y S1 => (augD op x y S1).bind fun z S2 => exS r (L.set i (some z)) S2
    | _ => .bad
  | .sub o i e r, L, S => (evE G e L S).bind fun v S1 => (evE G o L S1).bind fun x S2 => (evE G i L S2).bind fun k S3 => match subD x k v S3 with
    | some S4 => exS r L S4
    | none => .bad
  | .exp e r, L, S => (evE G e L S).bind fun _ S1 => exS r L S1
  | .ret e, L, S => (evE G e L S).bind fun d S1 => .ok (.ret d, L) S1
  | .ifs c a b r, L, S => (evE G c L S).bind fun x S1 => (ifB x (exS a L S1) (exS b L S1)).bind fun p S2 => match p.1 with
    | .nx => exS r p.2 S2
    | _ => .ok p S2
  | .for_ t it b r, L, S => (evI G it L S).bind fun q S1 => (forLoop (fun d L1 S2 => (ofO (asgT t d S2 L1) S2).bind fun L2 S3 => exS b L2 S3) q.2 q.1 L S1).bind fun p S2 => match p.1 with
    | .nx => exS r p.2 S2
    | _ => .ok p S2
  | .whl c b r, L, S => (wh (fun L1 S1 => (evE G c L1 S1).bind fun x S2 => ifB x ((exS b L1 S2).bind fun p S3 => match p.1 with
      | .nx => .ok (true, .nx, p.2) S3
      | .ct => .ok (true, .nx, p.2) S3
      | .brk => .ok (false, .nx, p.2) S3
      | .ret v => .ok (false, .ret v, p.2) S3
      | .xc x => .ok (false, .xc x, p.2) S3) (.ok (false, .nx, L1) S2)) L S).bind fun p S2 => match p.1 with
    | .nx => exS r p.2 S2
    | _ => .ok p S2
  | .sat o cs f e r, L, S => (evE G e L S).bind fun v S1 => (evE G o L S1).bind fun x S2 => match x with
    | .ref n => match S2[n]? with
      | some (.ins c fs) => if fs.length < 1000 ∧ cs.contains c = true then exS r L (S2.set n (.ins c (putD1 f v fs))) else .bad
      | _ => .bad
    | _ => .bad
  | .saug o cs f op e r, L, S => (evE G o L S).bind fun x S1 => match x with
    | .ref n => match S1[n]? with
      | some (.ins c fs) => if fs.length < 1000 ∧ cs.contains c = true then (match fs.lookup f with
        | some d => (evE G e L S1).bind fun v S2 => (augD op d v S2).bind fun z S3 => match S3[n]? with
          | some (.ins c' fs') => if fs'.length < 1000 ∧ c' = c then exS r L (S3.set n (.ins c (putD1 f z fs'))) else .bad
          | _ => .bad
        | none => .bad) else .bad
      | _ => .bad
    | _ => .bad
  | .xasg z t f as r, L, S => (evA G as L S).bind fun ds S1 => match G.fn f ds S1 with
    | .ok d S2 => (if z = true then fz S d S2 else gc S d S2).bind fun d S3 => (ofO (asgT t d S3 L) S3).bind fun L1 S4 => exS r L1 S4
    | .exc x S2 => .ok (.xc x, L) S2
    | .bad => .bad
  | .xret z f as, L, S => (evA G as L S).bind fun ds S1 => match G.fn f ds S1 with
    | .ok d S2 => (if z = true then fz S d S2 else gc S d S2).bind fun d S3 => .ok (.ret d, L) S3
    | .exc x S2 => .ok (.xc x, L) S2
    | .bad => .bad
  | .tryM b xs hs r, L, S => (exS b L S).bind fun p S1 => match p.1 with
    | .nx => exS r p.2 S1
    | .xc x => if xs.contains x.cls = true then (hdS x hs p.2 S1).bind fun q S2 => (match q.1 with
      | .nx => exS r q.2 S2
      | _ => .ok q S2) else .bad
    | _ => .ok p S1
  | .fzv i r, L, S => match L[i]? with
    | some (some (.ref n)) => match S[n]? with
      | some (.lst ds) => exS r (L.set i (some (.pl ds))) (S.set n .ded)
      | some (.dK kvs) => exS r (L.set i (some (.pd (kvs.map (·.1)) (kvs.map (·.2))))) (S.set n .ded)
      | some (.dT kvs) => exS r (L.set i (some (.pt (kvs.map (·.1)) (kvs.map (·.2))))) (S.set n .ded)
      | _ => .bad
    | _ => .bad
  | .brk, L, S => .ok (.brk, L) S
  | .cont, L, S => .ok (.ct, L) S
  | .nev, _, _ => .bad
  | .raise x, L, S => .ok (.xc ⟨x, none⟩, L) S
  | .raiseF x f e, L, S => (evE G e L S).bind fun d S1 => .ok (.xc ⟨x, some (f, d)⟩, L) S1
  | .xexp f as r, L, S => (evA G as L S).bind fun ds S1 => match G.fn f ds S1 with
    | .ok _ S2 => exS r L S2
    | .exc x S2 => .ok (.xc x, L) S2
    | .bad => .bad
  | .tryF f as c g i j r, L, S => (evA G as L S).bind fun ds S1 => match G.fn f ds S1 with
    | .ok _ S2 => exS r L S2
    | .exc x S2 => if x.cls = c ∧ i < L.length then (match x.fld with
      | some (h, d) => if h = g then exS r ((L.set j (some d)).set i none) S2 else .bad
      | none => .bad) else .bad
    | .bad => .bad
  | .tryR f as i j xs r, L, S => (evA G as L S).bind fun ds S1 => match G.fn f ds S1 with
    | .ok d S2 => .ok (.ret d, L) S2
    | .exc x S2 => if x.fld.isNone = true ∧ xs.contains x.cls = true then exS r (((L.set i (some (.ref S2.length))).set j (some (.ref S2.length))).set i none) (S2 ++ [.exc x.cls]) else .bad
    | .bad => .bad
/-- a def: how many parameters, how many names, its body -/
structure CF where
  ps : Nat
  ns : Nat
  body : CSs
noncomputable def runF (f : CF) (ds : List D) (S : Store) : R D :=
  if ds.length = f.ps then
    ((exS G f.body (ds.map some ++ List.replicate (f.ns - f.ps) none) S).bindB fun p S' => match p.1 with
      | .nx => .ok .non S'
      | .ret d => .ok d S'
      | .xc x => .exc x S'
      | _ => .bad).gc S
  else .bad
noncomputable def semN (T : Nat → Option CF) (ct : Nat → Option D) : Nat → Nat → List D → Store → R D
  | 0, _, _, _ => .bad
  | k + 1, x, ds, S => match T x with
    | some f => runF ⟨semN T ct k, ct⟩ f ds S
    | none => .bad
end Mi
namespace Mi
open PySem L2
/-- a tuple -/
def Tq (H : Hp) (a : Addr) (vs : List V) : Prop := H a = some (.tup vs)
/-- a tuple of the program's top -/
def Kq (K : PySem.W.Frag) (a : Addr) (vs : List V) : Prop :=
    ∃ (o : Obj) (its : Array Value) (n : Nat), K.lookup a = some o ∧ o.cls = .type "tuple" ∧ o.data = .seq its n ∧ its.size ≤ sizeLine ∧ Vals vs its.toList
theorem Kq.sq {K : PySem.W.Frag} {H : Hp} {a : Addr} {vs : List V} (h : Kq K a vs) : SqT K H a vs := .inr h
theorem Tq.sq {K : PySem.W.Frag} {H : Hp} {a : Addr} {vs : List V} (h : Tq H a vs) : SqT K H a vs := .inl (.inl h)
/-- a list that nobody changes any more -/
def Flz (H : Hp) (a : Addr) (vs : List V) : Prop := ∃ o, H a = some (.frz o (.lst vs))
theorem Flz.seq {K : PySem.W.Frag} {H : Hp} {a : Addr} {vs : List V} (h : Flz H a vs) : SqL K H a vs := .inl (.inr h)
/-- a list that is only read -/
def Fz (K : PySem.W.Frag) (H : Hp) (a : Addr) (vs : List V) : Prop :=
  (∃ o, H a = some (.frz o (.lst vs))) ∨
    ∃ (o : Obj) (its : Array Value) (n : Nat), K.lookup a = some o ∧ o.cls = .type "list" ∧ o.dict = none ∧ o.data = .seq its n ∧ its.size ≤ sizeLine ∧ Vals vs its.toList
theorem Fz.seq {K : PySem.W.Frag} {H : Hp} {a : Addr} {vs : List V} (h : Fz K H a vs) : SqL K H a vs := by
  rcases h with ⟨o, h⟩ | h
  · exact .inl (.inr ⟨o, h⟩)
  · exact .inr h
/-- what is known of a class with instances, and that its instances' fields are no attributes of it -/
structure InsC (K : PySem.W.Frag) (C : Addr) (fs : List Str) : Prop where
  cls : Cls K C
  no : ∀ f ∈ fs, NoAttr K C f
/-- the class of a name of the program's top -/
def ClsN (K : PySem.W.Frag) (x : Str) (C : Addr) : Prop := PySem.W.nsIn K mainGlobals x = some (some (.ref C))
mutual
def DR (K : PySem.W.Frag) (ι : List Addr) (H : Hp) : D → V → Prop
  | .non, v => v = .non
  | .bl b, v => v = .bl b
  | .int i, v => v = .int i
  | .str x, v => v = .str x
  | .tup ds, v => ∃ a vs, v = .ref a ∧ Tq H a vs ∧ DRs K ι H ds vs
  | .kt ds, v => ∃ a vs, v = .ref a ∧ Kq K a vs ∧ DRs K ι H ds vs
  | .ref n, v => ∃ a, ι[n]? = some a ∧ v = .ref a
  | .sta w, v => v = w
  | .pl ds, v => ∃ a vs, v = .ref a ∧ Flz H a vs ∧ DRs K ι H ds vs
  | .pd ks ds, v => ∃ a o vs, v = .ref a ∧ H a = some (.frz o (.dK vs)) ∧ vs.map (·.1) = ks ∧ DRs K ι H ds (vs.map (·.2))
  | .pt ks ds, v => ∃ a o vs, v = .ref a ∧ H a = some (.frz o (.dT vs)) ∧ vs.map (·.1) = ks ∧ DRs K ι H ds (vs.map (·.2))
  | .po c fs ds, v => ∃ a o dx vs, v = .ref a ∧ (∃ C, ClsN K c C ∧ InsC K C fs ∧ H a = some (.frz o (.ins C dx vs))) ∧ vs.map (·.1) = fs ∧ DRs K ι H ds (vs.map (·.2))
def DRs (K : PySem.W.Frag) (ι : List Addr) (H : Hp) : List D → List V → Prop
  | [], vs => vs = []
  | d :: ds, vs => ∃ v r, vs = v :: r ∧ DR K ι H d v ∧ DRs K ι H ds r
end
/-- tuples and what is only read stay -/
structure Xt (H H' : Hp) : Prop where
  tup : ∀ a xs, H a = some (.tup xs) → H' a = some (.tup xs)
  frz : ∀ a o u, H a = some (.frz o u) → H' a = some (.frz o u)
theorem Xt.refl (H : Hp) : Xt H H := ⟨fun _ _ h => h, fun _ _ _ h => h⟩
theorem Xt.trans {H H1 H2 : Hp} (a : Xt H H1) (b : Xt H1 H2) : Xt H H2 := ⟨fun p xs h => b.tup p xs (a.tup p xs h), fun p o u h => b.frz p o u (a.frz p o u h)⟩
theorem Xt.new {H : Hp} {p : Addr} {o : HO} (h : H p = none) : Xt H (upd H p o) :=
  ⟨fun a xs e => by rw [upd_ne (ne_of_none e h)]; exact e, fun a q u e => by rw [upd_ne (ne_of_none e h)]; exact e⟩
theorem Xt.write {H : Hp} {p : Addr} {o u : HO} (h : H p = some u) (nt : ∀ xs, u ≠ .tup xs) (nf : ∀ q w, u ≠ .frz q w) : Xt H (upd H p o) :=
  ⟨fun a xs e => by rw [upd_ne (ne_of e h fun z => nt xs z.symm)]; exact e, fun a q w e => by rw [upd_ne (ne_of e h fun z => nf q w z.symm)]; exact e⟩
theorem Fz.mono {K : PySem.W.Frag} {H H' : Hp} {a : Addr} {vs : List V} (x : Xt H H') (h : Fz K H a vs) : Fz K H' a vs := by
  rcases h with ⟨o, h⟩ | h
  · exact .inl ⟨o, x.frz _ _ _ h⟩
  · exact .inr h
section
variable {K : PySem.W.Frag} {ι ι' : List Addr} {H H' : Hp}
theorem Flz.mono {a : Addr} {vs : List V} (x : Xt H H') (h : Flz H a vs) : Flz H' a vs := h.imp fun o e => x.frz _ _ _ e
theorem sqT_mono (x : Xt H H') {a : Addr} {vs : List V} (h : Tq H a vs) : Tq H' a vs := x.tup _ _ h
theorem pre_get (p : ι <+: ι') {n : Nat} {a : Addr} (h : ι[n]? = some a) : ι'[n]? = some a := by
  obtain ⟨t, rfl⟩ := p
  rw [List.getElem?_append_left (List.getElem?_eq_some_iff.mp h).1]
  exact h
mutual
theorem DR.mono (p : ι <+: ι') (x : Xt H H') : ∀ (d : D) {v : V}, DR K ι H d v → DR K ι' H' d v
  | .non, _, h => h
  | .bl _, _, h => h
  | .int _, _, h => h
  | .str _, _, h => h
  | .sta _, _, h => h
  | .tup ds, _, h => by
    obtain ⟨a, vs, e, s, r⟩ := h
    exact ⟨a, vs, e, sqT_mono x s, DRs.mono p x ds r⟩
  | .kt ds, _, h => by
    obtain ⟨a, vs, e, s, r⟩ := h
    exact ⟨a, vs, e, s, DRs.mono p x ds r⟩
  | .pl ds, _, h => by
    obtain ⟨a, vs, e, s, r⟩ := h
    exact ⟨a, vs, e, s.mono x, DRs.mono p x ds r⟩
  | .pd ks ds, _, h => by
    obtain ⟨a, o, vs, e, s, q, r⟩ := h
    exact ⟨a, o, vs, e, x.frz _ _ _ s, q, DRs.mono p x ds r⟩
  | .pt ks ds, _, h => by
    obtain ⟨a, o, vs, e, s, q, r⟩ := h
    exact ⟨a, o, vs, e, x.frz _ _ _ s, q, DRs.mono p x ds r⟩
  | .po c fs ds, _, h => by
    obtain ⟨a, o, dx, vs, e, ⟨C, hc, ic, s⟩, q, r⟩ := h
    exact ⟨a, o, dx, vs, e, ⟨C, hc, ic, x.frz _ _ _ s⟩, q, DRs.mono p x ds r⟩
  | .ref n, _, h => by
    obtain ⟨a, e, r⟩ := h
    exact ⟨a, pre_get p e, r⟩
theorem DRs.mono (p : ι <+: ι') (x : Xt H H') : ∀ (ds : List D) {vs : List V}, DRs K ι H ds vs → DRs K ι' H' ds vs
  | [], _, h => h
  | d :: ds, _, h => by
    obtain ⟨v, r, e, h1, h2⟩ := h
    exact ⟨v, r, e, DR.mono p x d h1, DRs.mono p x ds h2⟩
end
theorem DRs.length : ∀ {ds : List D} {vs : List V}, DRs K ι H ds vs → vs.length = ds.length
  | [], _, h => by cases h; rfl
  | _ :: _, _, h => by
    obtain ⟨v, r, rfl, _, h2⟩ := h
    simp [DRs.length h2]
theorem DRs.get : ∀ {ds : List D} {vs : List V} {i : Nat} {d : D}, DRs K ι H ds vs → ds[i]? = some d → ∃ v, vs[i]? = some v ∧ DR K ι H d v
  | [], _, _, _, _, h => by simp at h
  | _ :: _, _, 0, _, h, e => by
    obtain ⟨v, r, rfl, h1, _⟩ := h
    simp at e; subst e
    exact ⟨v, rfl, h1⟩
  | _ :: ds, _, i + 1, d, h, e => by
    obtain ⟨v, r, rfl, _, h2⟩ := h
    obtain ⟨w, a, b⟩ := DRs.get (ds := ds) (i := i) (d := d) h2 (by simpa using e)
    exact ⟨w, by simpa using a, b⟩
theorem DRs.getV {ds : List D} {vs : List V} {i : Nat} {v : V} (h : DRs K ι H ds vs) (e : vs[i]? = some v) : ∃ d, ds[i]? = some d ∧ DR K ι H d v := by
  have hi : i < ds.length := by have := (List.getElem?_eq_some_iff.mp e).1; rw [h.length] at this; exact this
  obtain ⟨w, a, b⟩ := h.get (List.getElem?_eq_getElem hi)
  rw [e] at a; cases a
  exact ⟨_, List.getElem?_eq_getElem hi, b⟩
theorem DRs.append : ∀ {ds es : List D} {vs ws : List V}, DRs K ι H ds vs → DRs K ι H es ws → DRs K ι H (ds ++ es) (vs ++ ws)
  | [], _, _, _, h, g => by cases h; exact g
  | _ :: _, _, _, _, h, g => by
    obtain ⟨v, r, rfl, h1, h2⟩ := h
    exact ⟨v, r ++ _, rfl, h1, DRs.append h2 g⟩
theorem DRs.one {d : D} {v : V} (h : DR K ι H d v) : DRs K ι H [d] [v] := ⟨v, [], rfl, h, rfl⟩
theorem DRs.of_get : ∀ {ds : List D} {vs : List V}, ds.length = vs.length → (∀ (i : Nat) (d : D) (v : V), ds[i]? = some d → vs[i]? = some v → DR K ι H d v) → DRs K ι H ds vs
  | [], [], _, _ => rfl
  | d :: ds, v :: vs, hl, h => ⟨v, vs, rfl, h 0 d v rfl rfl, DRs.of_get (by simpa using hl) fun i d v a b => h (i + 1) d v (by simpa using a) (by simpa using b)⟩
theorem DRs.drop : ∀ {ds : List D} {vs : List V} (n : Nat), DRs K ι H ds vs → DRs K ι H (ds.drop n) (vs.drop n)
  | _, _, 0, h => h
  | [], _, n + 1, h => by cases h; simp; exact rfl
  | _ :: _, _, n + 1, h => by
    obtain ⟨v, r, rfl, _, h2⟩ := h
    exact DRs.drop n h2
theorem DRs.take : ∀ {ds : List D} {vs : List V} (n : Nat), DRs K ι H ds vs → DRs K ι H (ds.take n) (vs.take n)
  | _, _, 0, _ => by simp; exact rfl
  | [], _, n + 1, h => by cases h; simp; exact rfl
  | _ :: _, _, n + 1, h => by
    obtain ⟨v, r, rfl, h1, h2⟩ := h
    exact ⟨v, r.take n, rfl, h1, DRs.take n h2⟩
theorem DRs.set : ∀ {ds : List D} {vs : List V} (n : Nat) {d : D} {v : V}, DRs K ι H ds vs → DR K ι H d v → DRs K ι H (ds.set n d) (vs.set n v)
  | [], _, n, _, _, h, _ => by cases h; simp; exact rfl
  | _ :: _, _, 0, _, _, h, g => by
    obtain ⟨v, r, rfl, h1, h2⟩ := h
    exact ⟨_, r, rfl, g, h2⟩
  | _ :: _, _, n + 1, _, _, h, g => by
    obtain ⟨v, r, rfl, h1, h2⟩ := h
    exact ⟨v, r.set n _, rfl, h1, DRs.set n h2 g⟩
theorem DRs.eraseIdx : ∀ {ds : List D} {vs : List V} (n : Nat), DRs K ι H ds vs → DRs K ι H (ds.eraseIdx n) (vs.eraseIdx n)
  | [], _, n, h => by cases h; simp; exact rfl
  | _ :: _, _, 0, h => by
    obtain ⟨v, r, rfl, h1, h2⟩ := h
    exact h2
  | _ :: _, _, n + 1, h => by
    obtain ⟨v, r, rfl, h1, h2⟩ := h
    exact ⟨v, r.eraseIdx n, rfl, h1, DRs.eraseIdx n h2⟩
theorem DRs.reverse {ds : List D} {vs : List V} (h : DRs K ι H ds vs) : DRs K ι H ds.reverse vs.reverse := by
  refine DRs.of_get (by simp [h.length]) fun i d v a b => ?_
  have hi : i < ds.length := by have := (List.getElem?_eq_some_iff.mp a).1; simpa using this
  rw [List.getElem?_reverse hi] at a
  rw [List.getElem?_reverse (by rw [h.length]; exact hi), h.length] at b
  obtain ⟨w, c, e⟩ := h.get a
  rw [b] at c; cases c; exact e
mutual
theorem DR.lt : ∀ (d : D) {v : V}, DR K ι H d v → d.lt ι.length = true
  | .non, _, _ => by simp [D.lt]
  | .bl _, _, _ => by simp [D.lt]
  | .int _, _, _ => by simp [D.lt]
  | .str _, _, _ => by simp [D.lt]
  | .sta _, _, _ => by simp [D.lt]
  | .tup ds, _, h => by
    obtain ⟨a, vs, e, s, r⟩ := h
    simp only [D.lt]
    exact DRs.lt ds r
  | .kt ds, _, h => by
    obtain ⟨a, vs, e, s, r⟩ := h
    simp only [D.lt]
    exact DRs.lt ds r
  | .pl ds, _, h => by
    obtain ⟨a, vs, e, s, r⟩ := h
    simp only [D.lt]
    exact DRs.lt ds r
  | .pd ks ds, _, h => by
    obtain ⟨a, o, vs, e, s, q, r⟩ := h
    simp only [D.lt]
    exact DRs.lt ds r
  | .pt ks ds, _, h => by
    obtain ⟨a, o, vs, e, s, q, r⟩ := h
    simp only [D.lt]
    exact DRs.lt ds r
  | .po C fs ds, _, h => by
    obtain ⟨a, o, dx, vs, e, s, q, r⟩ := h
    simp only [D.lt]
    exact DRs.lt ds r
  | .ref n, _, h => by
    obtain ⟨a, e, r⟩ := h
    simp only [D.lt, decide_eq_true_eq]
    exact (List.getElem?_eq_some_iff.mp e).1
theorem DRs.lt : ∀ (ds : List D) {vs : List V}, DRs K ι H ds vs → D.ltAll ι.length ds = true
  | [], _, _ => by simp [D.ltAll]
  | d :: ds, _, h => by
    obtain ⟨v, r, e, h1, h2⟩ := h
    simp only [D.ltAll, Bool.and_eq_true]
    exact ⟨DR.lt d h1, DRs.lt ds h2⟩
end
mutual
/-- fewer cells, none of them named -/
theorem DR.less {n : Nat} (p : ι <+: ι') (hn : ι.length = n) : ∀ (d : D) {v : V}, DR K ι' H d v → d.lt n = true → DR K ι H d v
  | .non, _, h, _ => h
  | .bl _, _, h, _ => h
  | .int _, _, h, _ => h
  | .str _, _, h, _ => h
  | .sta _, _, h, _ => h
  | .tup ds, _, h, l => by
    obtain ⟨a, vs, e, s, r⟩ := h
    simp only [D.lt] at l
    exact ⟨a, vs, e, s, DRs.less p hn ds r l⟩
  | .kt ds, _, h, l => by
    obtain ⟨a, vs, e, s, r⟩ := h
    simp only [D.lt] at l
    exact ⟨a, vs, e, s, DRs.less p hn ds r l⟩
  | .pl ds, _, h, l => by
    obtain ⟨a, vs, e, s, r⟩ := h
    simp only [D.lt] at l
    exact ⟨a, vs, e, s, DRs.less p hn ds r l⟩
  | .pd ks ds, _, h, l => by
    obtain ⟨a, o, vs, e, s, q, r⟩ := h
    simp only [D.lt] at l
    exact ⟨a, o, vs, e, s, q, DRs.less p hn ds r l⟩
  | .pt ks ds, _, h, l => by
    obtain ⟨a, o, vs, e, s, q, r⟩ := h
    simp only [D.lt] at l
    exact ⟨a, o, vs, e, s, q, DRs.less p hn ds r l⟩
  | .po C fs ds, _, h, l => by
    obtain ⟨a, o, dx, vs, e, s, q, r⟩ := h
    simp only [D.lt] at l
    exact ⟨a, o, dx, vs, e, s, q, DRs.less p hn ds r l⟩
  | .ref m, _, h, l => by
    obtain ⟨a, e, r⟩ := h
    simp only [D.lt, decide_eq_true_eq] at l
    obtain ⟨t, rfl⟩ := p
    rw [List.getElem?_append_left (by omega)] at e
    exact ⟨a, e, r⟩
theorem DRs.less {n : Nat} (p : ι <+: ι') (hn : ι.length = n) : ∀ (ds : List D) {vs : List V}, DRs K ι' H ds vs → D.ltAll n ds = true → DRs K ι H ds vs
  | [], _, h, _ => h
  | d :: ds, _, h, l => by
    obtain ⟨v, r, e, h1, h2⟩ := h
    simp only [D.ltAll, Bool.and_eq_true] at l
    exact ⟨v, r, e, DR.less p hn d h1 l.1, DRs.less p hn ds h2 l.2⟩
end
end
/-- an exception that is kept -/
def xHO (C a : Addr) : HO := .ext fun h => ∃ oe, PySem.W.InstAt h a oe C none
/-- what the written part says of a class whose __init__ keeps one field -/
structure FxC (K : PySem.W.Frag) (C : Addr) (f : Str) : Prop where
  own : OexC K C
  no : PySem.W.findIn K (.ref C) f = some none
  as : ExcC K C
  se : PySem.W.subIn K (.ref C) (.ref C) = some true
/-- an exception with its field, that stays -/
def ExvAt (H : Hp) (a C : Addr) (f : Str) (v : V) : Prop := ∃ (d : Addr) (o od : Obj), H a = some (.frz o (exo a C (some d))) ∧ H d = some (.frz od (exd d [(f, v)]))
/-- what such an __init__ does -/
def spI (K : PySem.W.Frag) (f : Str) : Sp := fun vs H Q _ => ∃ (a C : Addr) (y : V), vs = [.ref a, y] ∧ H a = some (exo a C none) ∧ OexC K C ∧ PySem.W.findIn K (.ref C) f = some none ∧ ∀ dx, H dx = none → dx ≠ a → Q .non (upd (upd H dx (exd dx [(f, y)])) a (exo a C (some dx)))
abbrev Cell.mu : Cell → Bool
  | .frz _ => false
  | .exv _ _ _ => false
  | .ded => false
  | _ => true
/-- pairs: keys alike, values related -/
def KR {κ : Type} (K : PySem.W.Frag) (ι : List Addr) (H : Hp) (ks : List (κ × D)) (vs : List (κ × V)) : Prop := ks.map (·.1) = vs.map (·.1) ∧ DRs K ι H (ks.map (·.2)) (vs.map (·.2))
def CellOk (K : PySem.W.Frag) (ι : List Addr) (H : Hp) (a : Addr) : Cell → Prop
  | .lst ds => ∃ vs, H a = some (.lst vs) ∧ DRs K ι H ds vs
  | .frz ds => ∃ vs, Fz K H a vs ∧ DRs K ι H ds vs
  | .dK kvs => ∃ vs, H a = some (.dK vs) ∧ KR K ι H kvs vs
  | .dT kvs => ∃ vs, H a = some (.dT vs) ∧ KR K ι H kvs vs
  | .ins c fs => ∃ C dx vs, ClsN K c C ∧ InsC K C (fs.map (·.1)) ∧ H a = some (.ins C dx vs) ∧ KR K ι H fs vs
  | .exc x => ∃ C, ClsN K x C ∧ H a = some (xHO C a)
  | .exv x f d => ∃ C v, ClsN K x C ∧ FxC K C f ∧ ExvAt H a C f v ∧ DR K ι H d v
  | .ded => True
theorem CellOk.mono {K : PySem.W.Frag} {ι ι' : List Addr} {H H' : Hp} {a : Addr} {c : Cell} (p : ι <+: ι') (x : Xt H H') (st : c.mu = true → H' a = H a) (h : CellOk K ι H a c) : CellOk K ι' H' a c := by
  cases c with
  | lst ds => obtain ⟨vs, e, r⟩ := h; exact ⟨vs, (st rfl).trans e, r.mono p x⟩
  | frz ds => obtain ⟨vs, e, r⟩ := h; exact ⟨vs, e.mono x, r.mono p x⟩
  | dK kvs => obtain ⟨vs, e, k, r⟩ := h; exact ⟨vs, (st rfl).trans e, k, r.mono p x⟩
  | dT kvs => obtain ⟨vs, e, k, r⟩ := h; exact ⟨vs, (st rfl).trans e, k, r.mono p x⟩
  | ins c fs => obtain ⟨C, dx, vs, hc, ic, e, k, r⟩ := h; exact ⟨C, dx, vs, hc, ic, (st rfl).trans e, k, r.mono p x⟩
  | exc y => obtain ⟨C, hc, e⟩ := h; exact ⟨C, hc, (st rfl).trans e⟩
  | ded => trivial
  | exv y f d => obtain ⟨C, v, hc, fx, ⟨dd, o, od, e1, e2⟩, r⟩ := h; exact ⟨C, v, hc, fx, ⟨dd, o, od, x.frz _ _ _ e1, x.frz _ _ _ e2⟩, DR.mono p x _ r⟩
theorem CellOk.lt {K : PySem.W.Frag} {ι : List Addr} {H : Hp} {a : Addr} {c : Cell} (h : CellOk K ι H a c) : c.lt ι.length = true := by
  cases c with
  | lst ds => obtain ⟨vs, e, r⟩ := h; exact DRs.lt _ r
  | frz ds => obtain ⟨vs, e, r⟩ := h; exact DRs.lt _ r
  | dK kvs => obtain ⟨vs, e, k, r⟩ := h; exact DRs.lt _ r
  | dT kvs => obtain ⟨vs, e, k, r⟩ := h; exact DRs.lt _ r
  | ins c fs => obtain ⟨C, dx, vs, hc, ic, e, k, r⟩ := h; exact DRs.lt _ r
  | exc y => rfl
  | ded => rfl
  | exv y f d => obtain ⟨C, v, hc, fx, e, r⟩ := h; exact DR.lt _ r
theorem CellOk.less {K : PySem.W.Frag} {ι ι' : List Addr} {H : Hp} {a : Addr} {c : Cell} {n : Nat} (p : ι <+: ι') (hn : ι.length = n) (h : CellOk K ι' H a c) (l : c.lt n = true) : CellOk K ι H a c := by
  cases c with
  | lst ds => obtain ⟨vs, e, r⟩ := h; exact ⟨vs, e, DRs.less p hn _ r l⟩
  | frz ds => obtain ⟨vs, e, r⟩ := h; exact ⟨vs, e, DRs.less p hn _ r l⟩
  | dK kvs => obtain ⟨vs, e, k, r⟩ := h; exact ⟨vs, e, k, DRs.less p hn _ r l⟩
  | dT kvs => obtain ⟨vs, e, k, r⟩ := h; exact ⟨vs, e, k, DRs.less p hn _ r l⟩
  | ins c fs => obtain ⟨C, dx, vs, hc, ic, e, k, r⟩ := h; exact ⟨C, dx, vs, hc, ic, e, k, DRs.less p hn _ r l⟩
  | exc y => exact h
  | ded => trivial
  | exv y f d => obtain ⟨C, v, hc, fx, e, r⟩ := h; exact ⟨C, v, hc, fx, e, DR.less p hn _ r l⟩
theorem CellOk.some {K : PySem.W.Frag} {ι : List Addr} {H : Hp} {a : Addr} {c : Cell} (h : CellOk K ι H a c) (m : c.mu = true) : ∃ u, H a = some u ∧ (∀ xs, u ≠ .tup xs) ∧ ∀ q w, u ≠ .frz q w := by
  cases c with
  | lst ds => obtain ⟨vs, e, r⟩ := h; exact ⟨_, e, fun _ z => (by cases z), fun _ _ z => (by cases z)⟩
  | frz ds => cases m
  | dK kvs => obtain ⟨vs, e, k, r⟩ := h; exact ⟨_, e, fun _ z => (by cases z), fun _ _ z => (by cases z)⟩
  | dT kvs => obtain ⟨vs, e, k, r⟩ := h; exact ⟨_, e, fun _ z => (by cases z), fun _ _ z => (by cases z)⟩
  | ins c fs => obtain ⟨C, dx, vs, hc, ic, e, k, r⟩ := h; exact ⟨_, e, fun _ z => (by cases z), fun _ _ z => (by cases z)⟩
  | exc y => obtain ⟨C, hc, e⟩ := h; exact ⟨_, e, fun _ z => (by cases z), fun _ _ z => (by cases z)⟩
  | ded => cases m
  | exv y f d => cases m
/-- what is wished of an exception that leaves: its class, its field -/
abbrev WT := Str → Option (Str × V) → Hp → Prop
def XF (K : PySem.W.Frag) (ι : List Addr) (H : Hp) : Option (Str × D) → Option (Str × V) → Prop
  | none, o => o = none
  | some (f, d), o => ∃ v, o = some (f, v) ∧ DR K ι H d v
def XD (H : Hp) (d : Option Addr) (o : Option (Str × V)) : Prop := (d = none ∧ o = none) ∨ ∃ a f v, d = some a ∧ o = some (f, v) ∧ H a = some (.xd [(f, v)])
/-- a dict of the program's top that is only read: texts to texts -/
def DtAt (K : PySem.W.Frag) (w : World) (p : Addr) (tab : List (Str × Str)) : Prop := (p == sysModules) = false ∧ ∃ (es : List DictEntry) (n : Nat), K.lookup p = some ⟨.type "dict", none, .dict es.toArray n, #[]⟩ ∧ PySem.W.KeysLit w.params es ∧
  Paired (fun (kv : Str × Str) (e : DictEntry) => (∃ t, e.key = .str kv.1 t) ∧ ∃ t, e.val = .str kv.2 t) tab es ∧ (tab.map (·.1)).Nodup
structure Sok (K : PySem.W.Frag) (ι : List Addr) (H : Hp) (S : Store) : Prop where
  len : ι.length = S.length
  nd : ∀ (m n : Nat) (a : Addr) (c c' : Cell), ι[m]? = some a → ι[n]? = some a → S[m]? = some c → S[n]? = some c' → c.mu = true → c'.mu = true → m = n
  ok : ∀ (n : Nat) (a : Addr) (c : Cell), ι[n]? = some a → S[n]? = some c → CellOk K ι H a c
section
variable {K : PySem.W.Frag} {ι ι' : List Addr} {H H' : Hp} {S S' : Store} {p a : Addr} {n : Nat}
theorem Sok.at (h : Sok K ι H S) {c : Cell} (e : S[n]? = some c) : ∃ a, ι[n]? = some a ∧ CellOk K ι H a c := by
  have hn : n < ι.length := by rw [h.len]; exact (List.getElem?_eq_some_iff.mp e).1
  exact ⟨ι[n], List.getElem?_eq_getElem hn, h.ok n _ c (List.getElem?_eq_getElem hn) e⟩
/-- a tuple more -/
theorem Sok.tup (h : Sok K ι H S) (hp : H p = none) {o : HO} : Sok K ι (upd H p o) S where
  len := h.len
  nd := h.nd
  ok := fun n a c e1 e2 => (h.ok n a c e1 e2).mono (List.prefix_refl ι) (Xt.new hp) fun m => by
    obtain ⟨u, e, _⟩ := (h.ok n a c e1 e2).some m
    exact upd_ne (ne_of_none e hp)
/-- a cell more -/
theorem Sok.push (h : Sok K ι H S) (hp : H p = none) {o : HO} {c : Cell} (new : CellOk K (ι ++ [p]) (upd H p o) p c) : Sok K (ι ++ [p]) (upd H p o) (S ++ [c]) where
  len := by simp [h.len]
  nd := by
    have key : ∀ (m : Nat) (a : Addr) (c' : Cell), ι[m]? = some a → S[m]? = some c' → c'.mu = true → a ≠ p := fun m a c' e1 e2 hm => by
      obtain ⟨u, e, _⟩ := (h.ok m a c' e1 e2).some hm
      exact ne_of_none e hp
    intro m n a c1 c2 h1 h2 h3 h4 m1 m2
    rw [List.getElem?_append] at h1 h2
    rw [List.getElem?_append] at h3 h4
    rw [h.len] at h1 h2
    by_cases hm : m < S.length
    · rw [if_pos hm] at h1 h3
      by_cases hn : n < S.length
      · rw [if_pos hn] at h2 h4
        exact h.nd m n a c1 c2 h1 h2 h3 h4 m1 m2
      · rw [if_neg hn] at h2
        have e : a = p := by
          cases q : n - S.length with
          | zero => rw [q] at h2; simpa using h2.symm
          | succ k => rw [q] at h2; simp at h2
        exact absurd e (key m a c1 h1 h3 m1)
    · rw [if_neg hm] at h1 h3
      by_cases hn : n < S.length
      · rw [if_pos hn] at h2 h4
        have e : a = p := by
          cases q : m - S.length with
          | zero => rw [q] at h1; simpa using h1.symm
          | succ k => rw [q] at h1; simp at h1
        exact absurd e (key n a c2 h2 h4 m2)
      · rw [if_neg hn] at h4
        have q1 : m - S.length = 0 := by
          cases q : m - S.length with
          | zero => rfl
          | succ k => rw [q] at h3; simp at h3
        have q2 : n - S.length = 0 := by
          cases q : n - S.length with
          | zero => rfl
          | succ k => rw [q] at h4; simp at h4
        omega
  ok := by
    intro n a c' e1 e2
    rw [List.getElem?_append] at e1 e2
    rw [h.len] at e1
    by_cases hn : n < S.length
    · rw [if_pos hn] at e1 e2
      exact (h.ok n a c' e1 e2).mono (List.prefix_append ι [p]) (Xt.new hp) fun m => by
        obtain ⟨u, e, _⟩ := (h.ok n a c' e1 e2).some m
        exact upd_ne (ne_of_none e hp)
    · rw [if_neg hn] at e1 e2
      cases q : n - S.length with
      | zero =>
        rw [q] at e1 e2
        simp at e1 e2
        subst e1 e2
        exact new
      | succ k => rw [q] at e2; simp at e2
/-- a cell written -/
theorem Sok.put (h : Sok K ι H S) (e1 : ι[n]? = some a) {c c' : Cell} (e2 : S[n]? = some c) (m : c.mu = true) {o : HO} (new : Xt H (upd H a o) → CellOk K ι (upd H a o) a c') :
    Sok K ι (upd H a o) (S.set n c') ∧ Xt H (upd H a o) := by
  obtain ⟨u, eu, nt, nf⟩ := (h.ok n a c e1 e2).some m
  have x : Xt H (upd H a o) := Xt.write eu nt nf
  have hn : n < S.length := (List.getElem?_eq_some_iff.mp e2).1
  refine ⟨⟨by simp [h.len], ?_, ?_⟩, x⟩
  · intro i j b c1 c2 h1 h2 h3 h4 m1 m2
    rw [List.getElem?_set] at h3 h4
    have get : ∀ (i : Nat) (c1 : Cell), (if n = i then if n < S.length then some c' else none else S[i]?) = some c1 → c1.mu = true → ∃ c0, S[i]? = some c0 ∧ c0.mu = true := fun i c1 q mm => by
      by_cases hi : n = i
      · subst hi; exact ⟨c, e2, m⟩
      · rw [if_neg hi] at q; exact ⟨c1, q, mm⟩
    obtain ⟨c3, q3, m3⟩ := get i c1 h3 m1
    obtain ⟨c4, q4, m4⟩ := get j c2 h4 m2
    exact h.nd i j b c3 c4 h1 h2 q3 q4 m3 m4
  · intro i b c1 q1 q2
    rw [List.getElem?_set] at q2
    by_cases hi : n = i
    · subst hi
      rw [if_pos rfl, if_pos hn] at q2
      cases q2
      rw [e1] at q1; cases q1
      exact new x
    · rw [if_neg hi] at q2
      refine (h.ok i b c1 q1 q2).mono (List.prefix_refl ι) x fun mm => ?_
      refine upd_ne fun z => ?_
      subst z
      exact hi (h.nd n i b c c1 e1 q1 e2 q2 m mm)
theorem pre_take (p : ι <+: ι') : ι'.take ι.length = ι := by
  obtain ⟨t, rfl⟩ := p
  simp
/-- fewer cells -/
theorem Sok.less (h : Sok K ι H S) (h' : Sok K ι' H' S') (p : ι <+: ι') (kp : Keep S S') : Sok K ι H' (S'.take S.length) where
  len := by rw [List.length_take, h.len]; have := kp.1; omega
  nd := by
    intro m n a c c' h1 h2 h3 h4
    rw [List.getElem?_take] at h3 h4
    split at h3
    · split at h4
      · exact h'.nd m n a c c' (pre_get p h1) (pre_get p h2) h3 h4
      · cases h4
    · cases h3
  ok := by
    intro n a c e1 e2
    rw [List.getElem?_take] at e2
    split at e2
    · rename_i hn
      refine (h'.ok n a c (pre_get p e1) e2).less p h.len ?_
      rcases kp.2 n c hn e2 with q | q
      · have := (h.ok n a c e1 q).lt
        rw [h.len] at this
        exact this
      · exact q
    · cases e2
theorem Sok.less1 (h : Sok K ι H S) (h' : Sok K ι' H' S') (p : ι <+: ι') (kp : Keep S S') {k : Nat} {c : Cell} (hk : S.length ≤ k) (ea : ι'[k]? = some a) (ec : S'[k]? = some c) (lc : c.lt S.length = true) :
    Sok K (ι ++ [a]) H' (S'.take S.length ++ [c]) := by
  have L := h.less h' p kp
  have hl : (S'.take S.length).length = S.length := by rw [← L.len, h.len]
  refine ⟨by have := kp.1; simp [h.len]; omega, ?_, ?_⟩
  · intro m n b c1 c2 h1 h2 h3 h4 m1 m2
    have get : ∀ (m : Nat) (b : Addr) (c1 : Cell), (ι ++ [a])[m]? = some b → (S'.take S.length ++ [c])[m]? = some c1 → ∃ m', ι'[m']? = some b ∧ S'[m']? = some c1 ∧ (m < S.length → m' = m) ∧ (¬ m < S.length → m' = k ∧ m = S.length) := by
      intro m b c1 q1 q2
      rw [List.getElem?_append] at q1 q2
      rw [h.len] at q1
      rw [hl] at q2
      by_cases hm : m < S.length
      · rw [if_pos hm] at q1 q2
        rw [List.getElem?_take, if_pos hm] at q2
        exact ⟨m, pre_get p q1, q2, fun _ => rfl, fun z => absurd hm z⟩
      · rw [if_neg hm] at q1 q2
        cases q : m - S.length with
        | zero =>
          rw [q] at q1 q2
          simp at q1 q2
          subst q1 q2
          exact ⟨k, ea, ec, fun z => absurd z hm, fun _ => ⟨rfl, by omega⟩⟩
        | succ j => rw [q] at q2; simp at q2
    obtain ⟨m', a1, a2, a3, a4⟩ := get m b c1 h1 h3
    obtain ⟨n', b1, b2, b3, b4⟩ := get n b c2 h2 h4
    have e := h'.nd m' n' b c1 c2 a1 b1 a2 b2 m1 m2
    by_cases hm : m < S.length
    · by_cases hn : n < S.length
      · rw [a3 hm, b3 hn] at e; exact e
      · have := b4 hn; have := a3 hm; omega
    · by_cases hn : n < S.length
      · have := a4 hm; have := b3 hn; omega
      · have := a4 hm; have := b4 hn; omega
  · intro n b c1 q1 q2
    rw [List.getElem?_append] at q1 q2
    rw [h.len] at q1
    rw [hl] at q2
    by_cases hn : n < S.length
    · rw [if_pos hn] at q1 q2
      exact (L.ok n b c1 q1 q2).mono (List.prefix_append ι [a]) (Xt.refl H') fun _ => rfl
    · rw [if_neg hn] at q1 q2
      cases q : n - S.length with
      | zero =>
        rw [q] at q1 q2
        simp at q1 q2
        subst q1 q2
        have := (h'.ok k a c ea ec).less p h.len lc
        exact this.mono (List.prefix_append ι [a]) (Xt.refl H') fun _ => rfl
      | succ j => rw [q] at q2; simp at q2
end
def Res (K : PySem.W.Frag) (ι : List Addr) (H : Hp) (r : R D) (Q : VK) : Prop := match r with
  | .ok d S' => ∀ ι' H' v, ι <+: ι' → Xt H H' → Sok K ι' H' S' → DR K ι' H' d v → Q v H'
  | _ => False
section
variable {K : PySem.W.Frag} {ι ι1 : List Addr} {H H1 : Hp} {S S1 : Store} {Q Q' : VK} {r : R D}
theorem Res.mono (h : Res K ι H r Q) (p : ι <+: ι1) (x : Xt H H1) : Res K ι1 H1 r Q := by
  cases r with
  | ok d S' => exact fun ι' H' v a b c e => h ι' H' v (p.trans a) (x.trans b) c e
  | exc _ _ => exact h
  | bad => exact h
theorem Res.step {α : Type} {r : R α} {f : α → Store → R D} (h : Res K ι H (r.bind f) Q) : ∃ d S1, r = .ok d S1 ∧ Res K ι H (f d S1) Q := by
  cases r with
  | ok d S' => exact ⟨d, S', rfl, h⟩
  | exc _ _ => exact h.elim
  | bad => exact h.elim
theorem Res.ungc (s : Sok K ι H S) (h : Res K ι H (r.gc S) Q) : Res K ι H r Q := by
  cases r with
  | exc _ _ => exact h
  | bad => exact h
  | ok d S' =>
    intro ι' H' v p x s' dr
    simp only [R.gc_ok] at h
    unfold gc at h
    split at h
    · rename_i hc
      exact h ι H' v (List.prefix_refl ι) x (s.less s' p hc.2) (DR.less p s.len d dr hc.1)
    · split at h
      · rename_i k
        split at h
        · rename_i c ec
          split at h
          · rename_i hc
            obtain ⟨a, ea, rfl⟩ := dr
            refine h (ι ++ [a]) H' (.ref a) (List.prefix_append ι [a]) x (s.less1 s' p hc.2.2 hc.1 ea ec hc.2.1) ⟨a, ?_, rfl⟩
            rw [List.getElem?_append_right (by rw [s.len]; exact Nat.le_refl _), s.len]
            simp
          · exact h ι' H' v p x s' dr
        · exact h ι' H' v p x s' dr
      · exact h ι' H' v p x s' dr
theorem Res.ok1 {d : D} {S' : Store} (h : Res K ι H (.ok d S') Q) (p : ι <+: ι1) (x : Xt H H1) (s : Sok K ι1 H1 S') {v : V} (dr : DR K ι1 H1 d v) : Q v H1 := h ι1 H1 v p x s dr
/-- the value is there, the store as it was -/
theorem Res.val {d : D} (h : Res K ι H (.ok d S) Q) (s : Sok K ι H S) {v : V} (dr : DR K ι H d v) : Q v H := h ι H v (List.prefix_refl ι) (Xt.refl H) s dr
/-- a new tuple -/
theorem Res.newT {ds : List D} {vs : List V} (h : Res K ι H (.ok (.tup ds) S) Q) (s : Sok K ι H S) (dr : DRs K ι H ds vs) {p : Addr} (hp : H p = none) : Q (.ref p) (upd H p (.tup vs)) :=
  h ι _ _ (List.prefix_refl ι) (Xt.new hp) (s.tup hp) ⟨p, vs, rfl, upd_same, dr.mono (List.prefix_refl ι) (Xt.new hp)⟩
/-- a new cell -/
theorem Res.newC {c : Cell} (h : Res K ι H (newC c S) Q) (s : Sok K ι H S) {p : Addr} (hp : H p = none) {o : HO} (new : CellOk K (ι ++ [p]) (upd H p o) p c) : Q (.ref p) (upd H p o) :=
  h (ι ++ [p]) _ _ (List.prefix_append ι [p]) (Xt.new hp) (s.push hp new) ⟨p, by rw [← s.len]; simp, rfl⟩
theorem Res.newL {ds : List D} {vs : List V} (h : Res K ι H (Mi.newC (.lst ds) S) Q) (s : Sok K ι H S) (dr : DRs K ι H ds vs) {p : Addr} (hp : H p = none) : Q (.ref p) (upd H p (.lst vs)) :=
  h.newC s hp ⟨vs, upd_same, dr.mono (List.prefix_append ι [p]) (Xt.new hp)⟩
end
theorem lstAt_pl {K : PySem.W.Frag} {ι : List Addr} {H : Hp} {ds : List D} {v : V} (h : DR K ι H (.pl ds) v) : ∃ a vs, v = .ref a ∧ SqL K H a vs ∧ DRs K ι H ds vs := by
  obtain ⟨a, vs, e, f, r⟩ := h
  exact ⟨a, vs, e, f.seq, r⟩
theorem lstAt_at {K : PySem.W.Frag} {ι : List Addr} {H : Hp} {S : Store} (s : Sok K ι H S) {n : Nat} {ds : List D} (e : lstAt S (.ref n) = some ds) : ∃ a vs, ι[n]? = some a ∧ SqL K H a vs ∧ DRs K ι H ds vs := by
  unfold lstAt at e
  simp only at e
  split at e
  · rename_i d' q
    cases e
    obtain ⟨a, ea, vs, hv, dr⟩ := s.at q
    exact ⟨a, vs, ea, SqL.of hv, dr⟩
  · rename_i d' q
    cases e
    obtain ⟨a, ea, vs, hv, dr⟩ := s.at q
    exact ⟨a, vs, ea, hv.seq, dr⟩
  · cases e
end Mi
namespace Mi
open PySem PySem.Spec PyProof.Rows PySem.SeqAt PySem.MeetsSeq PySem.MeetsSeq2 PySem.MeetsSeq3 L2
section
variable {X : Cx}
theorem rdL {pins : List (Addr × Obj)} {s : Shared} {σ : L2.St} {H : Hp} {l : Addr} {xs : List V} (I : Inv X pins σ H s) (h : Rd H l (.lst xs)) : xs.length ≤ sizeLine ∧ ∃ (its : List Value) (n : Nat), Vals xs its ∧ xs.length = its.length ∧ s.heap.get? l = some { cls := .type "list", data := .seq its.toArray n } := by
  obtain ⟨z, its, n, r, e⟩ := h.ok I.hok
  exact ⟨z, its, n, r, r.length, e⟩
def rCatF : R2 := fun x y H Q => ∃ l b xs zs, x = .ref l ∧ y = .ref b ∧ Rd H l (.lst xs) ∧ Rd H b (.lst zs) ∧ xs.length + zs.length ≤ sizeLine ∧ ∀ p, H p = none → Q (.ref p) (upd H p (.lst (xs ++ zs)))
theorem op_catF : OpR X (binaryOp .Add) rCatF := by
  intro pins s σ H x y v u Q I rx ry h
  obtain ⟨l, b, xs, zs, rfl, rfl, hH, hB, hz, q⟩ := h
  cases rx
  cases ry
  obtain ⟨z, its, n, r, hl, e⟩ := rdL I hH
  obtain ⟨z2, its2, n2, r2, hl2, e2⟩ := rdL I hB
  refine PySem.P.add_list e e2 ?_ (by rw [List.size_toArray, List.size_toArray]; omega)
  have ea : its.toArray ++ its2.toArray = (its ++ its2).toArray := by simp
  rw [ea]
  exact ⟨.ref _, _, I.lnew (t' := s.toks) (r.append r2) (by rw [List.length_append]; omega), rfl, q _ I.fresh⟩
def rRepF : R2 := fun x y H Q => ∃ l k xs, x = .ref l ∧ y = .int k ∧ Rd H l (.lst xs) ∧ -(2 ^ 63) ≤ k ∧ k < 2 ^ 63 ∧ xs.length * k.toNat ≤ sizeLine ∧
  ∀ p, H p = none → Q (.ref p) (upd H p (.lst (List.replicate k.toNat xs).flatten))
theorem op_repF : OpR X (binaryOp .Mult) rRepF := by
  intro pins s σ H x y v u Q I rx ry h
  obtain ⟨l, k, xs, rfl, rfl, hH, h1, h2, hz, q⟩ := h
  cases rx
  obtain ⟨t, rfl⟩ := ry
  obtain ⟨z, its, n, r, hl, e⟩ := rdL I hH
  have hlen : its.toArray.size * k.toNat ≤ sizeLine := by rw [List.size_toArray, ← hl]; exact hz
  have hcap : ¬ its.toArray.size * k.toNat > (2 ^ 63 - 1) / 8 := by
    have : (sizeLine : Nat) ≤ (2 ^ 63 - 1) / 8 := by decide
    omega
  have hfit : ¬ (!Builtin.List.listFitsIndex k) = true := by
    rw [fitsIndex_both h1 h2]
    exact Bool.false_ne_true
  have hlong : ¬ Builtin.List.listTooLong (its.toArray.size * k.toNat) = true := by
    rw [notLongL hlen]
    exact Bool.false_ne_true
  have hnew : List.foldl (fun x1 x2 => x1 ++ x2) #[] (List.replicate (if its.toArray.isEmpty = true then 0 else k.toNat) its.toArray) = (List.replicate k.toNat its).flatten.toArray := by
    have f0 : ∀ m : Nat, List.foldl (fun x1 x2 => x1 ++ x2) #[] (List.replicate m its.toArray) = (List.replicate m its).flatten.toArray := fun m => by
      have := foldl_rep its m []
      rw [List.nil_append] at this
      exact this
    rw [f0]
    cases its with
    | nil => simp
    | cons a r' => rw [if_neg (by simp)]
  refine wpAny_binaryOp_repeat_ref (T := "list") (U := "int") (by decide) ⟨_, e, rfl⟩ (fun s' => typeIs_int s' k t) noFill_list_mul F.fills_int_mul F.slot_int_rmul repeat_list F.slot_int_index.lookup
    (call_meets F.slot_int_rmul (typeIs_int s k t) F.entry_int_rmul (F.args_int_rmul_2 _ _) (int___rmul___int_list k t l its.toArray n)
      ⟨e, rfl, ⟨_, e, rfl⟩, call_meets F.slot_list_mul ⟨_, e, rfl⟩ F.entry_list_mul (F.args_list_mul_2 _ _) (AutoListH.list___mul___list_int_3 l its.toArray n k t hfit hcap hlong) ⟨e, ?_⟩⟩)
  rw [hnew]
  exact ⟨.ref _, _, I.lnew (t' := s.toks) (r.rep k.toNat) (by rw [PyProof.Rows.lm_len_rep_flat, Nat.mul_comm]; exact hz), rfl, q _ I.fresh⟩
def rExtF : V → List V → Hp → VK → Prop := fun x vs H Q => ∃ l b xs zs, x = .ref l ∧ vs = [.ref b] ∧ H l = some (.lst xs) ∧ Rd H b (.lst zs) ∧ xs.length + zs.length ≤ sizeLine ∧ Q .non (upd H l (.lst (xs ++ zs)))
theorem mt_extF : MtR X "list.extend" rExtF := by
  intro pins s σ H x vs v us Q I rx rv h
  obtain ⟨l, b, xs, zs, rfl, rfl, hH, hB, hz, q⟩ := h
  cases rx
  obtain ⟨u, rfl, ru⟩ := rv.one
  cases ru
  obtain ⟨z, its, n, r, hl, e⟩ := I.lstM hH
  obtain ⟨z2, its2, n2, r2, hl2, e2⟩ := rdL I hB
  have hsz : its.toArray.size + its2.toArray.size ≤ sizeLine := by rw [List.size_toArray, List.size_toArray]; omega
  have hlong : ¬ (!its.toArray.isEmpty && Builtin.List.listTooLong (its.toArray.size + its2.toArray.size)) = true := by
    rw [notLongL hsz, Bool.and_false]
    exact Bool.false_ne_true
  refine call_meets F.slot_list_extend ⟨_, e, rfl⟩ F.entry_list_extend (F.args_list_extend_2 _ _)
    (AutoSeq1.list_extend_list_list_0 l its.toArray n b its2.toArray n2 hlong (by rw [List.size_toArray]; omega) (by omega)) ⟨e, e2, ?_⟩
  refine ⟨.non, _, I.lset (its' := its ++ its2) hH e (by simp) (r.append r2) ?_, rfl, q⟩
  rw [List.length_append]
  omega
end
end Mi
namespace Mi
open PySem L2
/-- what the walk knows of its surroundings -/
structure Cg (X : Cx) : Prop where
  calm : X.calm = true
  un : X.A.units + 150 < cLine
  gu : X.A.guards = some []
  sm : ∃ o es n, X.base.get? sysModules = some o ∧ o.data = .dict es n
section
variable {X : Cx} {pins : List (Addr × Obj)} {σ : St} {H : Hp} {s : Shared} {ι : List Addr} {S : Store}
theorem tracked_ne (c : Cg X) (I : Inv X pins σ H s) {a : Addr} {u : HO} (e : H a = some u) : a ≠ sysModules := by
  obtain ⟨o, es, n, hb, _⟩ := c.sm
  intro z
  subst z
  rw [(I.bs _ _ hb).2] at e
  cases e
theorem seqL_ne (c : Cg X) (I : Inv X pins σ H s) {a : Addr} {vs : List V} (e : SqL X.K H a vs) : a ≠ sysModules := by
  obtain ⟨o, es, n, hb, hd⟩ := c.sm
  rcases e with (e | ⟨q, e⟩) | ⟨q, its, m, hk, _, _, hs, _⟩
  · exact tracked_ne c I e
  · exact tracked_ne c I e
  · intro z
    subst z
    have h1 := I.kIn _ _ hk
    rw [(I.bs _ _ hb).1] at h1
    cases h1
    rw [hd] at hs
    cases hs
theorem reads_keyPy {h : Heap} {P : Program} {w : World} : ∀ (k : Key) (key : Value), (mixKind P w).is k key = true → Reads h key (keyPy k) [] := by
  intro k key e
  have e' : keyIs k key = true := e
  rcases keyIs_shape e' with ⟨i, t, rfl, rfl⟩ | ⟨x, t, rfl, rfl⟩
  · exact Reads.int i t
  · exact Reads.str x t
theorem allSome_cons {α : Type} {o : Option α} {r : List (Option α)} {l : List α} (h : allSome (o :: r) = some l) : ∃ a l', o = some a ∧ allSome r = some l' ∧ l = a :: l' := by
  cases o with
  | none => cases h
  | some a =>
    simp only [allSome] at h
    cases e : allSome r with
    | none => rw [e] at h; cases h
    | some l' => rw [e] at h; cases h; exact ⟨a, l', rfl, rfl, rfl⟩
/-- data of the store are what the heap reads -/
theorem reads (c : Cg X) (I : Inv X pins σ H s) (so : Sok X.K ι H S) : ∀ (k : Nat) (d : D) (p : PyData) (v : V) (u : Value), toPy k S d = some p → DR X.K ι H d v → RelV v u → ∃ as, Reads s.heap u p as ∧ sysModules ∉ as := by
  intro k
  induction k with
  | zero =>
    intro d p v u hp hd r
    cases d with
    | non => cases hp; cases hd; cases r; exact ⟨_, Reads.none, by simp⟩
    | bl b => cases hp; cases hd; cases r; exact ⟨_, Reads.bool b, by simp⟩
    | int i => cases hp; cases hd; obtain ⟨t, rfl⟩ := r; exact ⟨_, Reads.int i t, by simp⟩
    | str x => cases hp; cases hd; obtain ⟨t, rfl⟩ := r; exact ⟨_, Reads.str x t, by simp⟩
    | tup ds => cases hp
    | ref n => cases hp
    | sta w => cases hp
    | _ => cases hp
  | succ k ih =>
    have all : ∀ (ds : List D) (ps : List PyData) (vs : List V) (us : List Value), allSome (ds.map (toPy k S)) = some ps → DRs X.K ι H ds vs → Vals vs us → ∃ as, ReadsAll s.heap us ps as ∧ sysModules ∉ as := by
      intro ds
      induction ds with
      | nil =>
        intro ps vs us hp hd r
        cases hp; cases hd; cases r
        exact ⟨_, ReadsAll.nil, by simp⟩
      | cons d ds ihd =>
        intro ps vs us hp hd r
        rw [List.map_cons] at hp
        obtain ⟨p, ps', h1, h2, rfl⟩ := allSome_cons hp
        obtain ⟨v, vs', rfl, d1, d2⟩ := hd
        cases r with
        | cons r1 r2 =>
          obtain ⟨as, a1, a2⟩ := ih d p v _ h1 d1 r1
          obtain ⟨bs, b1, b2⟩ := ihd ps' vs' _ h2 d2 r2
          exact ⟨_, ReadsAll.cons a1 b1, by simp [a2, b2]⟩
    intro d p v u hp hd r
    have listR : ∀ (a : Addr) (ds : List D) (vs : List V) (p : PyData), (allSome (ds.map (toPy k S))).map PyData.list = some p → SqL X.K H a vs → DRs X.K ι H ds vs → ∃ as, Reads s.heap (.ref a) p as ∧ sysModules ∉ as := by
          intro a ds vs p hp sq dr
          obtain ⟨ps, hps, rfl⟩ := Option.map_eq_some_iff.mp hp
          obtain ⟨its, rv, ⟨o, m, ho, hcl, _, hdt⟩, _⟩ := I.list sq
          obtain ⟨as, a1, a2⟩ := all ds ps vs its hps dr rv
          exact ⟨_, Reads.list ho hcl hdt a1, by simp only [List.mem_cons, not_or]; exact ⟨(seqL_ne c I sq).symm, a2⟩⟩
    have tupR : ∀ (a : Addr) (ds : List D) (vs : List V) (p : PyData), (allSome (ds.map (toPy k S))).map PyData.tuple = some p → SqT X.K H a vs → DRs X.K ι H ds vs → ∃ as, Reads s.heap (.ref a) p as ∧ sysModules ∉ as := by
      intro a ds vs p hp sq dr
      obtain ⟨ps, hps, rfl⟩ := Option.map_eq_some_iff.mp hp
      obtain ⟨its, rv, ⟨o, ho, hc, n, hdt⟩, _⟩ := I.tuple sq
      obtain ⟨as, a1, a2⟩ := all ds ps vs its hps dr rv
      exact ⟨_, Reads.tuple ho hc hdt a1, a2⟩
    have prR : ∀ (kvs : List (Key × D)) (vs : List (Key × V)) (raw : List (Key × Value)) (ps : List PyData), kvs.map (·.1) = vs.map (·.1) → DRs X.K ι H (kvs.map (·.2)) (vs.map (·.2)) → KV vs raw →
              allSome (kvs.map fun kv => toPy k S kv.2) = some ps → ∃ bs, PyProof.V.PairsRead s.heap keyPy raw ((kvs.map fun kv => keyPy kv.1).zip ps) bs ∧ sysModules ∉ bs := by
            intro kvs
            induction kvs with
            | nil =>
              intro vs raw ps h1 h2 h3 h4
              cases vs with
              | cons _ _ => simp at h1
              | nil =>
                cases h3
                exact ⟨_, PyProof.V.PairsRead.nil, by simp⟩
            | cons kv kvs ihk =>
              intro vs raw ps h1 h2 h3 h4
              cases vs with
              | nil => simp at h1
              | cons w ws =>
                rw [List.map_cons] at h4
                obtain ⟨q, ps', g1, g2, rfl⟩ := allSome_cons h4
                simp only [List.map_cons, List.cons.injEq] at h1
                obtain ⟨v, r, e1, d1, d2⟩ := h2
                simp only [List.map_cons, List.cons.injEq] at e1
                obtain ⟨e1, e2⟩ := e1
                subst e1 e2
                cases h3 with
                | @cons x y xs ys h5 h6 =>
                  obtain ⟨h51, h52⟩ := h5
                  obtain ⟨as, a1, a2⟩ := ih kv.2 q w.2 y.2 g1 d1 h52
                  obtain ⟨bs, b1, b2⟩ := ihk ws ys ps' h1.2 d2 h6 g2
                  refine ⟨as ++ bs, ?_, by simp [a2, b2]⟩
                  obtain ⟨yk, yv⟩ := y
                  have ek : kv.1 = yk := h1.1.trans h51
                  rw [List.map_cons, List.zip_cons_cons, ek]
                  exact PyProof.V.PairsRead.cons a1 b1
    cases d with
    | non => cases hp; cases hd; cases r; exact ⟨_, Reads.none, by simp⟩
    | bl b => cases hp; cases hd; cases r; exact ⟨_, Reads.bool b, by simp⟩
    | int i => cases hp; cases hd; obtain ⟨t, rfl⟩ := r; exact ⟨_, Reads.int i t, by simp⟩
    | str x => cases hp; cases hd; obtain ⟨t, rfl⟩ := r; exact ⟨_, Reads.str x t, by simp⟩
    | sta w => cases hp
    | pt _ _ => cases hp
    | po _ _ _ => cases hp
    | tup ds =>
      obtain ⟨a, vs, rfl, sq, dr⟩ := hd
      cases r
      exact tupR a ds vs p hp sq.sq dr
    | kt ds =>
      obtain ⟨a, vs, rfl, sq, dr⟩ := hd
      cases r
      exact tupR a ds vs p hp sq.sq dr
    | pl ds =>
      obtain ⟨a, vs, rfl, sq, dr⟩ := hd
      cases r
      exact listR a ds vs p hp sq.seq dr
    | pd ks ds =>
      obtain ⟨a, o, vs, rfl, e, ek, dr⟩ := hd
      cases r
      simp only [toPy] at hp
      obtain ⟨ps, hps, rfl⟩ := Option.map_eq_some_iff.mp hp
      obtain ⟨_, _, raw, rel, dd⟩ := dk_rd I.hok (.inr ⟨o, e⟩ : Rd H a (.dK vs))
      have hl : ks.length = ds.length := by
        rw [← ek, List.length_map, ← dr.length, List.length_map]
      have k1 : (ks.zip ds).map (·.1) = vs.map (·.1) := by rw [List.map_fst_zip (by omega), ek]
      have k2 : (ks.zip ds).map (·.2) = ds := List.map_snd_zip (by omega)
      obtain ⟨bs, b1, b2⟩ := prR (ks.zip ds) vs raw ps k1 (by rw [k2]; exact dr) rel (by rw [show (fun kv : Key × D => toPy k S kv.2) = (toPy k S) ∘ (·.2) from rfl, ← List.map_map, k2]; exact hps)
      have ez : ((ks.zip ds).map fun kv => keyPy kv.1) = ks.map keyPy := by
        rw [show (fun kv : Key × D => keyPy kv.1) = keyPy ∘ (·.1) from rfl, ← List.map_map, List.map_fst_zip (by omega)]
      rw [ez] at b1
      have an : a ≠ sysModules := tracked_ne c I e
      exact ⟨_, PyProof.V.reads_dictOf reads_keyPy dd b1, by simp only [List.mem_cons, not_or]; exact ⟨an.symm, b2⟩⟩
    | ref n =>
      obtain ⟨a, ea, rfl⟩ := hd
      cases r
      simp only [toPy] at hp
      cases hc : S[n]? with
      | none => rw [hc] at hp; cases hp
      | some cell =>
        rw [hc] at hp
        have ok := so.ok n a cell ea hc
        cases cell with
        | lst ds => obtain ⟨vs, e, dr⟩ := ok; exact listR a ds vs p hp (SqL.of e) dr
        | frz ds => obtain ⟨vs, e, dr⟩ := ok; exact listR a ds vs p hp e.seq dr
        | dT kvs => cases hp
        | ins C fs => cases hp
        | exc y => cases hp
        | exv y f d => cases hp
        | ded => cases hp
        | dK kvs =>
          obtain ⟨vs, e, kr, dr⟩ := ok
          simp only at hp
          obtain ⟨ps, hps, rfl⟩ := Option.map_eq_some_iff.mp hp
          obtain ⟨_, _, raw, rel, dd⟩ := dk_of I.hok e
          obtain ⟨bs, b1, b2⟩ := prR kvs vs raw ps kr dr rel hps
          exact ⟨_, PyProof.V.reads_dictOf reads_keyPy dd b1, by simp only [List.mem_cons, not_or]; exact ⟨(tracked_ne c I e).symm, b2⟩⟩
/-- a list, as it lies -/
def LsAt (S : Store) (d : D) (ds : List D) : Prop := (∃ n, d = .ref n ∧ S[n]? = some (.lst ds)) ∨ d = .pl ds
theorem LsAt.rd (so : Sok X.K ι H S) {d : D} {ds : List D} {v : V} (l : LsAt S d ds) (h : DR X.K ι H d v) : ∃ a vs, v = .ref a ∧ Rd H a (.lst vs) ∧ DRs X.K ι H ds vs := by
  rcases l with ⟨n, rfl, e⟩ | rfl
  · obtain ⟨a, ea, rfl⟩ := h
    obtain ⟨vs, q, dr⟩ := so.ok n a _ ea e
    exact ⟨a, vs, rfl, .inl q, dr⟩
  · obtain ⟨a, vs, e, f, dr⟩ := h
    exact ⟨a, vs, e, .inr f, dr⟩
theorem nilB_some {S : Store} {a b : D} {r : Bool} (h : nilB S a b = some r) : ∃ ds, LsAt S a ds ∧ LsAt S b [] ∧ r = ds.isEmpty := by
  unfold nilB at h
  split at h
  · rename_i n m
    split at h
    · rename_i ds e1 e2
      cases h
      exact ⟨ds, .inl ⟨n, rfl, e1⟩, .inl ⟨m, rfl, e2⟩, rfl⟩
    · cases h
  · rename_i n
    split at h
    · rename_i ds e1
      cases h
      exact ⟨ds, .inl ⟨n, rfl, e1⟩, .inr rfl, rfl⟩
    · cases h
  · cases h
    exact ⟨_, .inr rfl, .inr rfl, rfl⟩
  · cases h
theorem eqX_some {S : Store} {a b : D} {r : Bool} (h : eqX S a b = some r) : (∃ ds, LsAt S a ds ∧ LsAt S b [] ∧ r = ds.isEmpty) ∨ eqD S a b = some r := by
  unfold eqX at h
  split at h
  · rename_i q hq
    cases h
    exact .inl (nilB_some hq)
  · exact .inr h
/-- lists of which one is empty -/
theorem nil_lists (c : Cg X) (I : Inv X pins σ H s) (so : Sok X.K ι H S) {a b : D} {ds : List D} {d1 d2 : V} {x y : Value} (e1 : LsAt S a ds) (e2 : LsAt S b []) (h1 : DR X.K ι H a d1) (h2 : DR X.K ι H b d2) (rx : RelV d1 x) (ry : RelV d2 y) : SeqAt.RcAt X.A s x y ds.isEmpty := by
  have un : X.A.units < cLine := by have := c.un; omega
  obtain ⟨a1, vs1, rfl, q1, dr1⟩ := e1.rd so h1
  obtain ⟨a2, vs2, rfl, q2, dr2⟩ := e2.rd so h2
  cases rx
  cases ry
  obtain ⟨its1, rv1, ⟨o1, m1, ho1, hc1, _, hd1⟩, _⟩ := I.list (.inl q1)
  obtain ⟨its2, rv2, ⟨o2, m2, ho2, hc2, _, hd2⟩, _⟩ := I.list (.inl q2)
  cases dr2
  cases rv2
  cases ds with
  | nil =>
    cases dr1
    cases rv1
    exact SeqAt.RcAt.lists (e := fun _ => true) ⟨_, ho1, hc1, _, hd1⟩ ⟨_, ho2, hc2, _, hd2⟩ rfl un fun j j1 _ => absurd j1 (Nat.not_lt_zero _)
  | cons d ds =>
    obtain ⟨v, vs, rfl, _, _⟩ := dr1
    cases rv1
    exact SeqAt.RcAt.lists_lengths ⟨_, ho1, hc1, _, hd1⟩ ⟨_, ho2, hc2, _, hd2⟩ (by simp) un
theorem nil_listsN (c : Cg X) (I : Inv X pins σ H s) (so : Sok X.K ι H S) {a b : D} {ds : List D} {d1 d2 : V} {x y : Value} (e1 : LsAt S a ds) (e2 : LsAt S b []) (h1 : DR X.K ι H a d1) (h2 : DR X.K ι H b d2) (rx : RelV d1 x) (ry : RelV d2 y) : SeqAt.RcNeAt X.A s x y (!ds.isEmpty) := by
  have un : X.A.units < cLine := by have := c.un; omega
  obtain ⟨a1, vs1, rfl, q1, dr1⟩ := e1.rd so h1
  obtain ⟨a2, vs2, rfl, q2, dr2⟩ := e2.rd so h2
  cases rx
  cases ry
  obtain ⟨its1, rv1, ⟨o1, m1, ho1, hc1, _, hd1⟩, _⟩ := I.list (.inl q1)
  obtain ⟨its2, rv2, ⟨o2, m2, ho2, hc2, _, hd2⟩, _⟩ := I.list (.inl q2)
  cases dr2
  cases rv2
  cases ds with
  | nil =>
    cases dr1
    cases rv1
    exact SeqAt.RcNeAt.lists (e := fun _ => true) ⟨_, ho1, hc1, _, hd1⟩ ⟨_, ho2, hc2, _, hd2⟩ rfl un fun j j1 _ => absurd j1 (Nat.not_lt_zero _)
  | cons d ds =>
    obtain ⟨v, vs, rfl, _, _⟩ := dr1
    cases rv1
    exact SeqAt.RcNeAt.lists_lengths ⟨_, ho1, hc1, _, hd1⟩ ⟨_, ho2, hc2, _, hd2⟩ (by simp) un
end
def RO (K : PySem.W.Frag) (f : D → D → Store → R D) : R2 := fun x y H Q => ∃ ι S d1 d2, Sok K ι H S ∧ DR K ι H d1 x ∧ DR K ι H d2 y ∧ Res K ι H (f d1 d2 S) Q
section
variable {X : Cx}
theorem okIf_res {K : PySem.W.Frag} {ι : List Addr} {H : Hp} {b : Bool} {d : D} {S : Store} {Q : VK} (h : Res K ι H (okIf b d S) Q) : b = true ∧ Res K ι H (.ok d S) Q := by
  unfold okIf at h
  cases b with
  | true => exact ⟨rfl, h⟩
  | false => exact h.elim
theorem op_bin (op : Operator) : OpR X (binaryOp op) (RO X.K (binD op)) := by
  intro pins s σ H x y v u Q I rx ry h
  obtain ⟨ι, S, d1, d2, so, h1, h2, res⟩ := h
  cases op with
  | Add =>
    have cat : ∀ {a b : D} {xs ys : List D}, LsAt S a xs → LsAt S b ys → DR X.K ι H a x → DR X.K ι H b y → sizeOk (xs.length + ys.length) = true → Res X.K ι H (newC (.lst (xs ++ ys)) S) Q → wpAny (model X.prog X.w) X.A (binaryOp .Add v u) (EP X pins σ Q) X.xe s := by
      intro a b xs ys l1 l2 g1 g2 hz res
      obtain ⟨a1, vs, rfl, q1, r1⟩ := l1.rd so g1
      obtain ⟨a2, ws, rfl, q2, r2⟩ := l2.rd so g2
      exact op_catF pins s σ H _ _ v u Q I rx ry ⟨a1, a2, vs, ws, rfl, rfl, q1, q2, by rw [r1.length, r2.length]; exact of_decide_eq_true hz, fun p hp => res.newL so (r1.append r2) hp⟩
    cases d1 with
    | bl b => cases d2 with
      | int j =>
        cases h1; cases h2
        obtain rfl : v = Value.bool b := rx
        obtain ⟨t, rfl⟩ := ry
        exact PySem.IntBool.add_bool_int ⟨.int _, H, I.tok _, ⟨_, rfl⟩, res.val so rfl⟩
      | _ => exact res.elim
    | int i => cases d2 with
      | int j => cases h1; cases h2; exact op_add pins s σ H _ _ v u Q I rx ry ⟨i, j, rfl, rfl, res.val so rfl⟩
      | _ => exact res.elim
    | str a => cases d2 with
      | str b =>
        cases h1; cases h2
        obtain ⟨hz, res⟩ := okIf_res res
        exact op_add_str pins s σ H _ _ v u Q I rx ry ⟨a, b, rfl, rfl, of_decide_eq_true hz, res.val so rfl⟩
      | _ => exact res.elim
    | tup xs => cases d2 with
      | tup ys =>
        obtain ⟨hz, res⟩ := okIf_res res
        obtain ⟨a, vs, rfl, q1, r1⟩ := h1
        obtain ⟨b, ws, rfl, q2, r2⟩ := h2
        refine op_catA pins s σ H _ _ v u Q I rx ry ⟨a, b, vs, ws, rfl, rfl, q1.sq, q2.sq, ?_, fun e => ?_, fun e1 e2 => ?_, fun e1 e2 p hp => ?_⟩
        · rw [r1.length, r2.length]; exact of_decide_eq_true hz
        · subst e
          have := r1.length
          have e : xs = [] := List.eq_nil_of_length_eq_zero this.symm
          subst e
          exact res.val so ⟨b, ws, rfl, q2, r2⟩
        · subst e2
          have := r2.length
          have e : ys = [] := List.eq_nil_of_length_eq_zero this.symm
          subst e
          rw [List.append_nil] at res
          exact res.val so ⟨a, vs, rfl, q1, r1⟩
        · exact res.newT so (r1.append r2) hp
      | _ => exact res.elim
    | ref m => cases d2 with
      | ref n =>
        obtain ⟨a, e1, rfl⟩ := h1
        obtain ⟨b, e2, rfl⟩ := h2
        simp only [binD] at res
        split at res
        · rename_i xs ys c1 c2
          split at res
          · rename_i hz
            obtain ⟨vs, g1, r1⟩ := so.ok _ _ _ e1 c1
            obtain ⟨ws, g2, r2⟩ := so.ok _ _ _ e2 c2
            exact op_cat pins s σ H _ _ v u Q I rx ry ⟨a, b, vs, ws, rfl, rfl, g1, g2, by rw [r1.length, r2.length]; exact of_decide_eq_true hz, fun p hp => res.newL so (r1.append r2) hp⟩
          · exact res.elim
        · exact res.elim
      | pl ys =>
        simp only [binD] at res
        split at res
        · rename_i xs c1
          split at res
          · rename_i hz
            exact cat (.inl ⟨m, rfl, c1⟩) (.inr rfl) h1 h2 hz res
          · exact res.elim
        · exact res.elim
      | _ => exact res.elim
    | pl xs => cases d2 with
      | pl ys =>
        simp only [binD] at res
        split at res
        · rename_i hz
          exact cat (.inr rfl) (.inr rfl) h1 h2 hz res
        · exact res.elim
      | ref n =>
        simp only [binD] at res
        split at res
        · rename_i ys c1
          split at res
          · rename_i hz
            exact cat (.inr rfl) (.inl ⟨n, rfl, c1⟩) h1 h2 hz res
          · exact res.elim
        · exact res.elim
      | _ => exact res.elim
    | _ => exact res.elim
  | Sub =>
    cases d1 with
    | bl b => cases d2 with
      | int j =>
        cases h1; cases h2
        obtain rfl : v = Value.bool b := rx
        obtain ⟨t, rfl⟩ := ry
        exact PySem.IntBool.sub_bool_int ⟨.int _, H, I.tok _, ⟨_, rfl⟩, res.val so rfl⟩
      | _ => exact res.elim
    | int i => cases d2 with
      | int j => cases h1; cases h2; exact op_sub pins s σ H _ _ v u Q I rx ry ⟨i, j, rfl, rfl, res.val so rfl⟩
      | bl b =>
        cases h1; cases h2
        obtain ⟨t, rfl⟩ := rx
        obtain rfl : u = Value.bool b := ry
        exact PySem.IntBool.sub_int_bool ⟨.int _, H, I.tok _, ⟨_, rfl⟩, res.val so rfl⟩
      | _ => exact res.elim
    | _ => exact res.elim
  | Mult =>
    cases d1 with
    | int i => cases d2 with
      | int j =>
        cases h1; cases h2
        obtain ⟨hz, res⟩ := okIf_res res
        rw [Bool.or_eq_true] at hz
        rcases hz with hz | hz
        · exact op_mul pins s σ H _ _ v u Q I rx ry ⟨i, j, rfl, rfl, of_decide_eq_true hz, res.val so rfl⟩
        · exact op_mulW pins s σ H _ _ v u Q I rx ry ⟨i, j, rfl, rfl, of_decide_eq_true hz, res.val so rfl⟩
      | _ => exact res.elim
    | ref m => cases d2 with
      | int j =>
        obtain ⟨a, e1, rfl⟩ := h1
        cases h2
        simp only [binD] at res
        split at res
        · rename_i xs c1
          split at res
          · rename_i hz
            simp only [Bool.and_eq_true, decide_eq_true_eq, sizeOk] at hz
            obtain ⟨vs, g1, r1⟩ := so.ok _ _ _ e1 c1
            have rep : ∀ n : Nat, DRs X.K ι H (List.replicate n xs).flatten (List.replicate n vs).flatten := fun n => by
              induction n with
              | zero => exact rfl
              | succ n ih => rw [List.replicate_succ, List.replicate_succ, List.flatten_cons, List.flatten_cons]; exact r1.append ih
            exact op_rep pins s σ H _ _ v u Q I rx ry ⟨a, j, vs, rfl, rfl, g1, by omega, hz.1.2, by rw [r1.length]; exact hz.2, fun p hp => res.newL so (rep _) hp⟩
          · exact res.elim
        · exact res.elim
      | _ => exact res.elim
    | pl xs => cases d2 with
      | int j =>
        obtain ⟨a, vs, rfl, g1, r1⟩ := h1
        cases h2
        simp only [binD] at res
        split at res
        · rename_i hz
          simp only [Bool.and_eq_true, decide_eq_true_eq, sizeOk] at hz
          have rep : ∀ n : Nat, DRs X.K ι H (List.replicate n xs).flatten (List.replicate n vs).flatten := fun n => by
              induction n with
              | zero => exact rfl
              | succ n ih => rw [List.replicate_succ, List.replicate_succ, List.flatten_cons, List.flatten_cons]; exact r1.append ih
          exact op_repF pins s σ H _ _ v u Q I rx ry ⟨a, j, vs, rfl, rfl, .inr g1, by omega, hz.1.2, by rw [r1.length]; exact hz.2, fun p hp => res.newL so (rep _) hp⟩
        · exact res.elim
      | _ => exact res.elim
    | _ => exact res.elim
  | FloorDiv =>
    cases d1 with
    | int i => cases d2 with
      | int j =>
        cases h1; cases h2
        obtain ⟨hz, res⟩ := okIf_res res
        exact op_fdivW pins s σ H _ _ v u Q I rx ry ⟨i, j, rfl, rfl, of_decide_eq_true hz, res.val so rfl⟩
      | _ => exact res.elim
    | _ => exact res.elim
  | Mod =>
    cases d1 with
    | int i => cases d2 with
      | int j =>
        cases h1; cases h2
        obtain ⟨hz, res⟩ := okIf_res res
        exact op_mod pins s σ H _ _ v u Q I rx ry ⟨i, j, rfl, rfl, of_decide_eq_true hz, res.val so rfl⟩
      | _ => exact res.elim
    | _ => exact res.elim
  | Pow =>
    cases d1 with
    | int i => cases d2 with
      | int j =>
        cases h1; cases h2
        obtain ⟨hz, res⟩ := okIf_res res
        exact op_pow pins s σ H _ _ v u Q I rx ry ⟨i, j, rfl, rfl, of_decide_eq_true hz, res.val so rfl⟩
      | _ => exact res.elim
    | _ => exact res.elim
  | _ => exact res.elim
theorem un_negD : UnR X (unaryOp .USub) (fun x H Q => ∃ ι S d, Sok X.K ι H S ∧ DR X.K ι H d x ∧ Res X.K ι H (negD d S) Q) := by
  intro pins s σ H x v Q I rx h
  obtain ⟨ι, S, d, so, h1, res⟩ := h
  cases d with
  | int i => cases h1; exact un_neg pins s σ H _ v Q I rx ⟨i, rfl, res.val so rfl⟩
  | _ => exact res.elim
theorem ofB_res {K : PySem.W.Frag} {ι : List Addr} {H : Hp} {o : Option Bool} {S : Store} {Q : VK} (h : Res K ι H (ofB o S) Q) : ∃ b, o = some b ∧ Res K ι H (.ok (.bl b) S) Q := by
  cases o with
  | none => exact h.elim
  | some b => exact ⟨b, rfl, h⟩
theorem eqD_some {S : Store} {a b : D} {r : Bool} (h : eqD S a b = some r) : ∃ p q, py S a = some p ∧ py S b = some q ∧ SeqAt.shaped p = true ∧ SeqAt.shaped q = true ∧ r = PyData.eqv p q := by
  unfold eqD at h
  cases hp : py S a with
  | none => rw [hp] at h; cases h
  | some p =>
    cases hq : py S b with
    | none => rw [hp, hq] at h; cases h
    | some q =>
      rw [hp, hq] at h
      simp only at h
      split at h
      · rename_i e
        rw [Bool.and_eq_true] at e
        cases h
        exact ⟨p, q, rfl, rfl, e.1, e.2, rfl⟩
      · cases h
theorem inD_some {S : Store} {x : D} {ds : List D} {r : Bool} (h : inD S x ds = some r) : ∃ p qs, py S x = some p ∧ allSome (ds.map (toPy 49 S)) = some qs ∧ SeqAt.shaped p = true ∧ SeqAt.shaped (.list qs) = true ∧ r = qs.any fun q => PyData.eqv q p := by
  unfold inD at h
  cases hp : py S x with
  | none => rw [hp] at h; cases h
  | some p =>
    cases hq : allSome (ds.map (toPy 49 S)) with
    | none => rw [hp, hq] at h; cases h
    | some q =>
      rw [hp, hq] at h
      simp only at h
      split at h
      · rename_i e
        rw [Bool.and_eq_true] at e
        cases h
        exact ⟨p, q, rfl, rfl, e.1, e.2, rfl⟩
      · cases h
theorem valV_lookK {κ : Type} [DecidableEq κ] {K : PySem.W.Frag} {ι : List Addr} {H : Hp} (k : κ) : ∀ {kvs : List (κ × D)} {vs : List (κ × V)}, KR K ι H kvs vs →
    (lookK kvs k = none ∧ valV vs k = none) ∨ ∃ d v, lookK kvs k = some d ∧ valV vs k = some v ∧ DR K ι H d v := by
  intro kvs
  induction kvs with
  | nil =>
    intro vs h
    cases vs with
    | nil => exact .inl ⟨rfl, rfl⟩
    | cons _ _ => have := h.1; simp at this
  | cons p r ih =>
    intro vs h
    cases vs with
    | nil => have := h.1; simp at this
    | cons q s =>
      obtain ⟨h1, v, t, e, d1, d2⟩ := h
      simp only [List.map_cons, List.cons.injEq] at h1 e
      obtain ⟨e1, e2⟩ := e
      subst e1 e2
      by_cases hk : p.1 = k
      · refine .inr ⟨p.2, q.2, by simp [lookK, hk], valV_pos (h1.1 ▸ hk), d1⟩
      · rcases ih (vs := s) ⟨h1.2, d2⟩ with ⟨a, b⟩ | ⟨d, v, a, b, c⟩
        · exact .inl ⟨by simpa [lookK, List.find?_cons, hk] using a, by rw [valV_neg (fun z => hk (h1.1.trans z)), b]⟩
        · exact .inr ⟨d, v, by simpa [lookK, List.find?_cons, hk] using a, by rw [valV_neg (fun z => hk (h1.1.trans z)), b], c⟩
theorem keyOf_kV {K : PySem.W.Frag} {ι : List Addr} {H : Hp} {d : D} {k : Key} {v : V} (e : keyOf d = some k) (h : DR K ι H d v) : v = kV k := by
  cases d with
  | int i => cases e; exact h
  | str x => cases e; exact h
  | _ => cases e
theorem DR_key {K : PySem.W.Frag} {ι : List Addr} {H : Hp} (k : Key) : DR K ι H (keyD k) (kV k) := by
  cases k <;> exact rfl
theorem keysT_tup {K : PySem.W.Frag} {ι : List Addr} {H : Hp} {d : D} {ks : List Key} {v : V} (e : keysT d = some ks) (h : DR K ι H d v) : ∃ b, v = .ref b ∧ H b = some (.tup (ks.map kV)) := by
  have all : ∀ {ds : List D} {ks : List Key} {vs : List V}, keysOfD ds = some ks → DRs K ι H ds vs → vs = ks.map kV := by
    intro ds
    induction ds with
    | nil => intro ks vs e h; cases e; cases h; rfl
    | cons d ds ih =>
      intro ks vs e h
      obtain ⟨v, r, rfl, h1, h2⟩ := h
      simp only [keysOfD] at e
      split at e
      · rename_i k ks' hk hks
        cases e
        rw [keyOf_kV hk h1, ih hks h2, List.map_cons]
      · cases e
  cases d with
  | tup ds =>
    obtain ⟨a, vs, rfl, sq, dr⟩ := h
    have := all e dr
    subst this
    exact ⟨a, rfl, sq⟩
  | _ => cases e
theorem KR.zip {κ : Type} {K : PySem.W.Frag} {ι : List Addr} {H : Hp} {ks : List κ} {ds : List D} {vs : List (κ × V)} (ek : vs.map (·.1) = ks) (dr : DRs K ι H ds (vs.map (·.2))) : KR K ι H (ks.zip ds) vs := by
  have hl : ks.length = ds.length := by rw [← ek, List.length_map, ← dr.length, List.length_map]
  exact ⟨by rw [List.map_fst_zip (by omega), ek], by rw [List.map_snd_zip (by omega)]; exact dr⟩
theorem val_same {κ : Type} [DecidableEq κ] {K : PySem.W.Frag} {ι : List Addr} {H : Hp} (k : κ) {kvs : List (κ × D)} {vs : List (κ × V)} (kr : KR K ι H kvs vs) : (valV vs k).isSome = (lookK kvs k).isSome := by
  rcases valV_lookK k kr with ⟨e1, e2⟩ | ⟨d, w, e1, e2, _⟩ <;> rw [e1, e2] <;> rfl
theorem neg_map {o : Option Bool} {b : Bool} (h : o.map (!·) = some b) : ∃ c, o = some c ∧ b = !c := by
  cases o with
  | none => cases h
  | some c => cases h; exact ⟨c, rfl, rfl⟩
theorem sign_of {c : Str} {z : Nat} (h : c.cps.toList = [z]) : c = ⟨#[z]⟩ := by
  obtain ⟨a⟩ := c
  have : a = #[z] := by
    apply Array.toList_inj.mp
    simpa using h
  rw [this]
theorem op_in (c : Cg X) {pins : List (Addr × Obj)} {s : Shared} {σ : St} {H : Hp} {x y : V} {v u : Value} {Q : VK} (neg : Bool) (I : Inv X pins σ H s) (rx : RelV x v) (ry : RelV y u)
    {ι : List Addr} {S : Store} {d1 d2 : D} {b : Bool} (so : Sok X.K ι H S) (h1 : DR X.K ι H d1 x) (h2 : DR X.K ι H d2 y) (hb : hasD d1 d2 S = some b) (res : Res X.K ι H (.ok (.bl (if neg then !b else b)) S) Q) :
    wpAny (model X.prog X.w) X.A (compareOp (if neg then .NotIn else .In) v u) (EP X pins σ Q) X.xe s := by
  have fin : EP X pins σ Q (.bool (if neg then !b else b)) s := ⟨.bl _, H, I, rfl, res.val so rfl⟩
  have un : X.A.units + 65 < cLine := by have := c.un; omega
  have un1 : X.A.units + 1 < cLine := by have := c.un; omega
  have tupc : ∀ ds, (d2 = .tup ds ∨ d2 = .kt ds) → inD S d1 ds = some b → wpAny (model X.prog X.w) X.A (compareOp (if neg then .NotIn else .In) v u) (EP X pins σ Q) X.xe s := by
    rintro ds hd2 hb
    obtain ⟨p, qs, hp, hq, sp, sq, rfl⟩ := inD_some hb
    obtain ⟨as, r1, _⟩ := reads c I so 50 d1 p x v hp h1 rx
    obtain ⟨bs, r2, _⟩ := reads c I so 50 d2 (.tuple qs) y u (by rcases hd2 with rfl | rfl <;> (simp only [toPy, hq]; rfl)) h2 ry
    have sl : PyData.canLayAll0 qs = true := SeqAt.canLay_of_shaped sq
    cases neg with
    | false => exact SeqAt.in_tuple_reads r2 r1 sl (SeqAt.canLay_of_shaped sp) (PyProof.Rows.room_in_shaped sp un) fin
    | true => exact SeqAt.notIn_tuple_reads r2 r1 sl (SeqAt.canLay_of_shaped sp) (PyProof.Rows.room_in_shaped sp un) fin
  have dkc : ∀ {a : Addr} {k : Key} {kvs : List (Key × D)} {vs : List (Key × V)}, y = .ref a → Rd H a (.dK vs) → KR X.K ι H kvs vs → keyOf d1 = some k → b = (lookK kvs k).isSome → wpAny (model X.prog X.w) X.A (compareOp (if neg then .NotIn else .In) v u) (EP X pins σ Q) X.xe s := by
    rintro a k kvs vs rfl hv kr hk rfl
    cases ry
    have hx := keyOf_kV hk h1
    subst hx
    cases neg with
    | false => exact d_in un1 I (.inl ⟨vs, k, hv, rfl, rfl⟩) rx fun s' I' => ⟨.bl _, H, I', rfl, by rw [val_same k kr]; exact res.val so rfl⟩
    | true => exact d_notIn un1 I (.inl ⟨vs, k, hv, rfl, rfl⟩) rx fun s' I' => ⟨.bl _, H, I', rfl, by rw [val_same k kr]; exact res.val so rfl⟩
  have dtc : ∀ {a : Addr} {k : List Key} {kvs : List (List Key × D)} {vs : List (List Key × V)}, y = .ref a → Rd H a (.dT vs) → KR X.K ι H kvs vs → keysT d1 = some k → b = (lookK kvs k).isSome → wpAny (model X.prog X.w) X.A (compareOp (if neg then .NotIn else .In) v u) (EP X pins σ Q) X.xe s := by
    rintro a k kvs vs rfl hv kr hk rfl
    cases ry
    obtain ⟨q, rfl, hq⟩ := keysT_tup hk h1
    cases neg with
    | false => exact d_in un1 I (.inr ⟨vs, k, q, hv, rfl, hq, rfl⟩) rx fun s' I' => ⟨.bl _, H, I', rfl, by rw [val_same k kr]; exact res.val so rfl⟩
    | true => exact d_notIn un1 I (.inr ⟨vs, k, q, hv, rfl, hq, rfl⟩) rx fun s' I' => ⟨.bl _, H, I', rfl, by rw [val_same k kr]; exact res.val so rfl⟩
  have lstc : ∀ ds, ((∃ n, d2 = .ref n ∧ (S[n]? = some (.lst ds) ∨ S[n]? = some (.frz ds))) ∨ d2 = .pl ds) → inD S d1 ds = some b → wpAny (model X.prog X.w) X.A (compareOp (if neg then .NotIn else .In) v u) (EP X pins σ Q) X.xe s := by
    rintro ds hc hb
    obtain ⟨p, qs, hp, hq, sp, sq, rfl⟩ := inD_some hb
    obtain ⟨as, r1, _⟩ := reads c I so 50 d1 p x v hp h1 rx
    obtain ⟨bs, r2, _⟩ := reads c I so 50 d2 (.list qs) y u (by rcases hc with ⟨n, rfl, hc | hc⟩ | rfl <;> first | (simp only [toPy, hc, hq]; rfl) | (simp only [toPy, hq]; rfl)) h2 ry
    have sl : PyData.canLayAll0 qs = true := SeqAt.canLay_of_shaped sq
    cases neg with
    | false => exact SeqAt.in_list_reads r2 r1 sl (SeqAt.canLay_of_shaped sp) (PyProof.Rows.room_in_shaped sp un) fin
    | true => exact SeqAt.notIn_list_reads r2 r1 sl (SeqAt.canLay_of_shaped sp) (PyProof.Rows.room_in_shaped sp un) fin
  cases d2 with
  | tup ds => exact tupc ds (.inl rfl) (by cases d1 <;> exact hb)
  | kt ds => exact tupc ds (.inr rfl) (by cases d1 <;> exact hb)
  | pl ds => exact lstc ds (.inr rfl) (by cases d1 <;> exact hb)
  | pd ks ds =>
    have hb' : ((keyOf d1).map fun k => (lookK (ks.zip ds) k).isSome) = some b := by cases d1 <;> exact hb
    obtain ⟨k, hk, e⟩ := Option.map_eq_some_iff.mp hb'
    obtain ⟨a, o, vs, rfl, e2, ek, dr⟩ := h2
    exact dkc rfl (.inr ⟨o, e2⟩) (KR.zip ek dr) hk e.symm
  | pt ks ds =>
    have hb' : ((keysT d1).map fun k => (lookK (ks.zip ds) k).isSome) = some b := by cases d1 <;> exact hb
    obtain ⟨k, hk, e⟩ := Option.map_eq_some_iff.mp hb'
    obtain ⟨a, o, vs, rfl, e2, ek, dr⟩ := h2
    exact dtc rfl (.inr ⟨o, e2⟩) (KR.zip ek dr) hk e.symm
  | str z =>
    cases d1 with
    | str w =>
      cases h1; cases h2
      simp only [hasD] at hb
      split at hb
      · rename_i sg e
        cases hb
        have e' := sign_of e
        subst e'
        cases neg with
        | false => exact op_in_sign pins s σ H _ _ v u Q I rx ry ⟨sg, z, rfl, rfl, res.val so rfl⟩
        | true => exact op_notIn_sign pins s σ H _ _ v u Q I rx ry ⟨sg, z, rfl, rfl, res.val so rfl⟩
      · cases hb
    | _ => cases hb
  | ref n =>
    have hb' : (match S[n]? with
      | some (.lst ds) => inD S d1 ds
      | some (.frz ds) => inD S d1 ds
      | some (.dK kvs) => (keyOf d1).map fun k => (lookK kvs k).isSome
      | some (.dT kvs) => (keysT d1).map fun k => (lookK kvs k).isSome
      | _ => none) = some b := by cases d1 <;> exact hb
    split at hb'
    · exact lstc _ (.inl ⟨n, rfl, .inl ‹_›⟩) hb'
    · exact lstc _ (.inl ⟨n, rfl, .inr ‹_›⟩) hb'
    · rename_i kvs hc
      obtain ⟨k, hk, e⟩ := Option.map_eq_some_iff.mp hb'
      obtain ⟨a, ea, rfl⟩ := h2
      obtain ⟨vs, hv, kr⟩ := so.ok _ _ _ ea hc
      exact dkc rfl (.inl hv) kr hk e.symm
    · rename_i kvs hc
      obtain ⟨k, hk, e⟩ := Option.map_eq_some_iff.mp hb'
      obtain ⟨a, ea, rfl⟩ := h2
      obtain ⟨vs, hv, kr⟩ := so.ok _ _ _ ea hc
      exact dtc rfl (.inl hv) kr hk e.symm
    · cases hb'
  | _ => cases d1 <;> cases hb
theorem op_cmp (c : Cg X) (op : CmpOp) : OpR X (compareOp op) (RO X.K (cmpD op)) := by
  intro pins s σ H x y v u Q I rx ry h
  obtain ⟨ι, S, d1, d2, so, h1, h2, res⟩ := h
  have un : X.A.units + 64 < cLine := by have := c.un; omega
  cases op with
  | Eq =>
    obtain ⟨b, hb, res⟩ := ofB_res (show Res X.K ι H (ofB (eqX S d1 d2) S) Q from by cases d1 <;> exact res)
    rcases eqX_some hb with ⟨ds, e1, e2, rfl⟩ | hb
    · exact nil_lists c I so e1 e2 h1 h2 rx ry _ _ _ _ ⟨.bl _, H, I, rfl, res.val so rfl⟩
    obtain ⟨p, q, hp, hq, sp, sq, rfl⟩ := eqD_some hb
    obtain ⟨as, r1, _⟩ := reads c I so 50 d1 p x v hp h1 rx
    obtain ⟨bs, r2, _⟩ := reads c I so 50 d2 q y u hq h2 ry
    exact SeqAt.compareEq_shaped r1 r2 sp sq un ⟨.bl _, H, I, rfl, res.val so rfl⟩
  | NotEq =>
    obtain ⟨b, hb, res⟩ := ofB_res (show Res X.K ι H (ofB ((eqX S d1 d2).map (!·)) S) Q from by cases d1 <;> exact res)
    obtain ⟨b', hb', rfl⟩ := neg_map hb
    rcases eqX_some hb' with ⟨ds, e1, e2, rfl⟩ | hb'
    · exact nil_listsN c I so e1 e2 h1 h2 rx ry _ _ _ _ ⟨.bl _, H, I, rfl, res.val so rfl⟩
    obtain ⟨p, q, hp, hq, sp, sq, rfl⟩ := eqD_some hb'
    obtain ⟨as, r1, _⟩ := reads c I so 50 d1 p x v hp h1 rx
    obtain ⟨bs, r2, _⟩ := reads c I so 50 d2 q y u hq h2 ry
    exact SeqAt.compareNe_shaped r1 r2 sp sq un ⟨.bl _, H, I, rfl, res.val so rfl⟩
  | Lt =>
    cases d1 with
    | int i => cases d2 with
      | int j => cases h1; cases h2; exact op_lt pins s σ H _ _ v u Q I rx ry ⟨i, j, rfl, rfl, res.val so rfl⟩
      | _ => exact res.elim
    | str i => cases d2 with
      | str j => cases h1; cases h2; exact op_lt_str pins s σ H _ _ v u Q I rx ry ⟨i, j, rfl, rfl, res.val so rfl⟩
      | _ => exact res.elim
    | _ => exact res.elim
  | LtE =>
    cases d1 with
    | int i => cases d2 with
      | int j => cases h1; cases h2; exact op_le pins s σ H _ _ v u Q I rx ry ⟨i, j, rfl, rfl, res.val so rfl⟩
      | _ => exact res.elim
    | str i => cases d2 with
      | str j => cases h1; cases h2; exact op_le_str pins s σ H _ _ v u Q I rx ry ⟨i, j, rfl, rfl, res.val so rfl⟩
      | _ => exact res.elim
    | _ => exact res.elim
  | Gt =>
    cases d1 with
    | int i => cases d2 with
      | int j => cases h1; cases h2; exact op_gt pins s σ H _ _ v u Q I rx ry ⟨i, j, rfl, rfl, res.val so rfl⟩
      | _ => exact res.elim
    | str i => cases d2 with
      | str j => cases h1; cases h2; exact op_gt_str pins s σ H _ _ v u Q I rx ry ⟨i, j, rfl, rfl, res.val so rfl⟩
      | _ => exact res.elim
    | _ => exact res.elim
  | GtE =>
    cases d1 with
    | int i => cases d2 with
      | int j => cases h1; cases h2; exact op_ge pins s σ H _ _ v u Q I rx ry ⟨i, j, rfl, rfl, res.val so rfl⟩
      | _ => exact res.elim
    | str i => cases d2 with
      | str j => cases h1; cases h2; exact op_ge_str pins s σ H _ _ v u Q I rx ry ⟨i, j, rfl, rfl, res.val so rfl⟩
      | _ => exact res.elim
    | _ => exact res.elim
  | Is =>
    cases d2 with
    | non =>
      cases h2
      refine op_isN pins s σ H _ _ v u Q I rx ry ⟨rfl, ?_⟩
      cases d1 with
      | non => cases h1; exact res.val so rfl
      | bl b => cases h1; exact res.val so rfl
      | int b => cases h1; exact res.val so rfl
      | str b => cases h1; exact res.val so rfl
      | tup b => obtain ⟨a, vs, rfl, _⟩ := h1; exact res.val so rfl
      | ref b => obtain ⟨a, vs, rfl⟩ := h1; exact res.val so rfl
      | pl b => obtain ⟨a, vs, rfl, _⟩ := h1; exact res.val so rfl
      | pd _ b => obtain ⟨a, o, vs, rfl, _⟩ := h1; exact res.val so rfl
      | pt _ b => obtain ⟨a, o, vs, rfl, _⟩ := h1; exact res.val so rfl
      | po _ _ b => exact res.elim
      | kt _ => exact res.elim
      | sta _ => exact res.elim
    | bl b => cases d1 with
      | bl a => cases h1; cases h2; exact op_isBl pins s σ H _ _ v u Q I rx ry ⟨a, b, rfl, rfl, res.val so rfl⟩
      | _ => exact res.elim
    | _ => cases d1 <;> exact res.elim
  | IsNot =>
    cases d2 with
    | non =>
      cases h2
      refine op_notN pins s σ H _ _ v u Q I rx ry ⟨rfl, ?_⟩
      cases d1 with
      | non => cases h1; exact res.val so rfl
      | bl b => cases h1; exact res.val so rfl
      | int b => cases h1; exact res.val so rfl
      | str b => cases h1; exact res.val so rfl
      | tup b => obtain ⟨a, vs, rfl, _⟩ := h1; exact res.val so rfl
      | ref b => obtain ⟨a, vs, rfl⟩ := h1; exact res.val so rfl
      | pl b => obtain ⟨a, vs, rfl, _⟩ := h1; exact res.val so rfl
      | pd _ b => obtain ⟨a, o, vs, rfl, _⟩ := h1; exact res.val so rfl
      | pt _ b => obtain ⟨a, o, vs, rfl, _⟩ := h1; exact res.val so rfl
      | po _ _ b => exact res.elim
      | kt _ => exact res.elim
      | sta _ => exact res.elim
    | bl b => cases d1 with
      | bl a => cases h1; cases h2; exact op_notBl pins s σ H _ _ v u Q I rx ry ⟨a, b, rfl, rfl, res.val so rfl⟩
      | _ => exact res.elim
    | _ => cases d1 <;> exact res.elim
  | In =>
    obtain ⟨b, hb, res⟩ := ofB_res (show Res X.K ι H (ofB (hasD d1 d2 S) S) Q from by cases d1 <;> exact res)
    exact op_in c false I rx ry so h1 h2 hb res
  | NotIn =>
    obtain ⟨b, hb, res⟩ := ofB_res (show Res X.K ι H (ofB ((hasD d1 d2 S).map (!·)) S) Q from by cases d1 <;> exact res)
    obtain ⟨b', hb', rfl⟩ := neg_map hb
    exact op_in c true I rx ry so h1 h2 hb' res
end
end Mi
namespace Mi
open PySem L2
theorem optR_res {K : PySem.W.Frag} {ι : List Addr} {H : Hp} {o : Option D} {S : Store} {Q : VK} (h : Res K ι H (optR o S) Q) : ∃ d, o = some d ∧ Res K ι H (.ok d S) Q := by
  cases o with
  | none => exact h.elim
  | some d => exact ⟨d, rfl, h⟩
section
variable {K : PySem.W.Frag} {ι : List Addr} {H : Hp}
theorem DRs.atI {ds : List D} {vs : List V} {i : Int} {d : D} (h : DRs K ι H ds vs) (e : L2.atI ds i = some d) : ∃ v, L2.atI vs i = some v ∧ DR K ι H d v := by
  unfold L2.atI at e ⊢
  rw [h.length]
  cases q : ixN ds.length i with
  | none => rw [q] at e; cases e
  | some j => rw [q] at e; exact h.get e
theorem DRs.cut {ds : List D} {vs : List V} (h : DRs K ι H ds vs) (lo hi : Option Int) : DRs K ι H (cutD ds lo hi) (cutV vs lo hi) := by
  unfold cutD cutV
  rw [h.length]
  exact (h.drop _).take _
theorem strsOf_vals : ∀ {ds : List D} {vs : List V} {xs : List Str}, DRs K ι H ds vs → strsOf ds = some xs → vs = xs.map V.str
  | [], _, _, h, e => by cases h; cases e; rfl
  | d :: ds, _, xs, h, e => by
    obtain ⟨v, r, rfl, h1, h2⟩ := h
    cases d with
    | str x =>
      simp only [strsOf] at e
      obtain ⟨ys, e1, rfl⟩ := Option.map_eq_some_iff.mp e
      cases h1
      rw [strsOf_vals h2 e1, List.map_cons]
    | _ => cases e
theorem intsOf_vals : ∀ {ds : List D} {vs : List V} {xs : List Int}, DRs K ι H ds vs → intsOf ds = some xs → vs = xs.map V.int
  | [], _, _, h, e => by cases h; cases e; rfl
  | d :: ds, _, xs, h, e => by
    obtain ⟨v, r, rfl, h1, h2⟩ := h
    cases d with
    | int x =>
      simp only [intsOf] at e
      obtain ⟨ys, e1, rfl⟩ := Option.map_eq_some_iff.mp e
      cases h1
      rw [intsOf_vals h2 e1, List.map_cons]
    | _ => cases e
theorem bolsOf_vals : ∀ {ds : List D} {vs : List V} {xs : List Bool}, DRs K ι H ds vs → bolsOf ds = some xs → vs = xs.map V.bl
  | [], _, _, h, e => by cases h; cases e; rfl
  | d :: ds, _, xs, h, e => by
    obtain ⟨v, r, rfl, h1, h2⟩ := h
    cases d with
    | bl x =>
      simp only [bolsOf] at e
      obtain ⟨ys, e1, rfl⟩ := Option.map_eq_some_iff.mp e
      cases h1
      rw [bolsOf_vals h2 e1, List.map_cons]
    | _ => cases e
theorem DRs_strs : ∀ (xs : List Str), DRs K ι H (xs.map D.str) (xs.map V.str)
  | [] => rfl
  | x :: xs => ⟨.str x, xs.map V.str, rfl, rfl, DRs_strs xs⟩
theorem keysOf_eq : ∀ {ks : List Key} {xs : List Str}, keysOf ks = some xs → ks = xs.map Sum.inr
  | [], _, e => by cases e; rfl
  | k :: ks, xs, e => by
    cases k with
    | inr x =>
      simp only [keysOf] at e
      obtain ⟨ys, e1, rfl⟩ := Option.map_eq_some_iff.mp e
      rw [keysOf_eq e1, List.map_cons]
    | inl _ => cases e
theorem DRs_keys : ∀ {kvs : List (Key × D)} {vs : List (Key × V)}, KR K ι H kvs vs → DRs K ι H (kvs.map fun kv => keyD kv.1) (vs.map fun kv => kV kv.1)
  | [], [], _ => rfl
  | [], _ :: _, h => by have := h.1; simp at this
  | _ :: _, [], h => by have := h.1; simp at this
  | p :: r, q :: s, h => by
    obtain ⟨h1, v, t, e, d1, d2⟩ := h
    simp only [List.map_cons, List.cons.injEq] at h1 e
    obtain ⟨e1, e2⟩ := e
    subst e1 e2
    refine ⟨kV q.1, _, rfl, ?_, DRs_keys ⟨h1.2, d2⟩⟩
    show DR K ι H (keyD p.1) (kV q.1)
    rw [h1.1]
    exact DR_key _
theorem KR.put {κ : Type} [DecidableEq κ] {kvs : List (κ × D)} {vs : List (κ × V)} (h : KR K ι H kvs vs) (k : κ) {d : D} {v : V} (r : DR K ι H d v) : KR K ι H (putD kvs k d) (putK vs k v) := by
  have any : (kvs.any fun kv => decide (kv.1 = k)) = vs.any fun kv => decide (kv.1 = k) := by
    have e1 : ∀ l : List (κ × D), (l.any fun kv => decide (kv.1 = k)) = (l.map (·.1)).any fun x => decide (x = k) := fun l => by rw [List.any_map]; rfl
    have e2 : ∀ l : List (κ × V), (l.any fun kv => decide (kv.1 = k)) = (l.map (·.1)).any fun x => decide (x = k) := fun l => by rw [List.any_map]; rfl
    rw [e1, e2, h.1]
  have mp : ∀ {kvs : List (κ × D)} {vs : List (κ × V)}, KR K ι H kvs vs → KR K ι H (kvs.map fun kv => if kv.1 = k then (kv.1, d) else kv) (vs.map fun kv => if kv.1 = k then (kv.1, v) else kv) := by
    intro kvs
    induction kvs with
    | nil =>
      intro vs h
      cases vs with
      | nil => exact ⟨rfl, rfl⟩
      | cons _ _ => have := h.1; simp at this
    | cons p r' ih =>
      intro vs h
      cases vs with
      | nil => have := h.1; simp at this
      | cons q s =>
        obtain ⟨h1, w, t, e, d1, d2⟩ := h
        simp only [List.map_cons, List.cons.injEq] at h1 e
        obtain ⟨e1, e2⟩ := e
        subst e1 e2
        obtain ⟨i1, i2⟩ := ih (vs := s) ⟨h1.2, d2⟩
        by_cases hk : p.1 = k
        · refine ⟨?_, ?_⟩
          · rw [List.map_cons, List.map_cons, List.map_cons, List.map_cons, i1, if_pos hk, if_pos (h1.1 ▸ hk)]
            exact congrArg (· :: _) h1.1
          · rw [List.map_cons, List.map_cons, List.map_cons, List.map_cons, if_pos hk, if_pos (h1.1 ▸ hk)]
            exact ⟨v, _, rfl, r, i2⟩
        · refine ⟨?_, ?_⟩
          · rw [List.map_cons, List.map_cons, List.map_cons, List.map_cons, i1, if_neg hk, if_neg (fun z => hk (h1.1.trans z))]
            exact congrArg (· :: _) h1.1
          · rw [List.map_cons, List.map_cons, List.map_cons, List.map_cons, if_neg hk, if_neg (fun z => hk (h1.1.trans z))]
            exact ⟨q.2, _, rfl, d1, i2⟩
  unfold putD putK
  rw [any]
  split
  · exact mp h
  · refine ⟨by rw [List.map_append, List.map_append, h.1]; rfl, ?_⟩
    rw [List.map_append, List.map_append]
    exact h.2.append (DRs.one r)
theorem KR.merge : ∀ {more : List (Key × D)} {mv : List (Key × V)} {kvs : List (Key × D)} {vs : List (Key × V)}, KR K ι H kvs vs → KR K ι H more mv → KR K ι H (mergeD kvs more) (mergeK vs mv)
  | [], [], _, _, h, _ => h
  | [], _ :: _, _, _, _, m => by have := m.1; simp at this
  | _ :: _, [], _, _, _, m => by have := m.1; simp at this
  | p :: r, q :: s, kvs, vs, h, m => by
    obtain ⟨m1, w, t, e, d1, d2⟩ := m
    simp only [List.map_cons, List.cons.injEq] at m1 e
    obtain ⟨e1, e2⟩ := e
    subst e1 e2
    show KR K ι H (mergeD (putD kvs p.1 p.2) r) (mergeK (putK vs q.1 q.2) s)
    refine KR.merge ?_ ⟨m1.2, d2⟩
    rw [m1.1]
    exact h.put q.1 d1
theorem KR.mono {κ : Type} {ι' : List Addr} {H' : Hp} {kvs : List (κ × D)} {vs : List (κ × V)} (h : KR K ι H kvs vs) (p : ι <+: ι') (x : Xt H H') : KR K ι' H' kvs vs := ⟨h.1, h.2.mono p x⟩
theorem KR.length {κ : Type} {kvs : List (κ × D)} {vs : List (κ × V)} (h : KR K ι H kvs vs) : vs.length = kvs.length := by
  have := congrArg List.length h.1
  simpa using this.symm
end
theorem insSt_perm (x : Str) : ∀ l : List Str, (insSt x l).Perm (x :: l)
  | [] => List.Perm.refl _
  | y :: r => by
    unfold insSt
    split
    · exact ((insSt_perm x r).cons y).trans (List.Perm.swap x y r)
    · exact List.Perm.refl _
theorem sortSt_perm : ∀ l : List Str, (sortSt l).Perm l
  | [] => List.Perm.refl _
  | x :: r => (insSt_perm x (sortSt r)).trans ((sortSt_perm r).cons x)
def leSt (a b : Str) : Prop := a.cps.toList ≤ b.cps.toList
theorem leSt_anti {a b : Str} (h : leSt a b) (g : leSt b a) : a = b := by
  have e : a.cps.toList = b.cps.toList := List.le_antisymm h g
  cases a; cases b
  simp only [Str.mk.injEq]
  exact Array.toList_inj.mp e
theorem leSt_trans {a b c : Str} (h : leSt a b) (g : leSt b c) : leSt a c := List.le_trans h g
theorem leSt_of_not {a b : Str} (h : ¬ b.cps.toList < a.cps.toList) : leSt a b := List.not_lt.mp h
theorem leSt_of_lt {a b : Str} (h : a.cps.toList < b.cps.toList) : leSt a b := List.not_lt.mp fun z => List.lt_asymm h z
theorem insSt_pw (x : Str) : ∀ {l : List Str}, l.Pairwise leSt → (insSt x l).Pairwise leSt
  | [], _ => by simp [insSt]
  | y :: r, h => by
    obtain ⟨h1, h2⟩ := List.pairwise_cons.mp h
    unfold insSt
    split
    · rename_i hlt
      refine List.pairwise_cons.mpr ⟨fun z hz => ?_, insSt_pw x h2⟩
      rcases List.mem_cons.mp ((insSt_perm x r).mem_iff.mp hz) with rfl | hz
      · exact leSt_of_lt hlt
      · exact h1 z hz
    · rename_i hn
      refine List.pairwise_cons.mpr ⟨fun z hz => ?_, h⟩
      rcases List.mem_cons.mp hz with rfl | hz
      · exact leSt_of_not hn
      · exact leSt_trans (leSt_of_not hn) (h1 z hz)
theorem sortSt_pw : ∀ l : List Str, (sortSt l).Pairwise leSt
  | [] => List.Pairwise.nil
  | x :: r => insSt_pw x (sortSt_pw r)
theorem rising_pw : ∀ {l : List Str} {x : Str}, PyProof.Rows.risingS x l = true → (x :: l).Pairwise leSt
  | [], x, _ => by simp
  | y :: r, x, h => by
    simp only [PyProof.Rows.risingS, Bool.and_eq_true, Bool.not_eq_true'] at h
    have ih := rising_pw h.2
    have hxy : leSt x y := leSt_of_not fun z => by
      have e := h.1
      rw [PyProof.Rows.ltCps_eq, decide_eq_true z] at e
      cases e
    refine List.pairwise_cons.mpr ⟨fun z hz => ?_, ih⟩
    rcases List.mem_cons.mp hz with rfl | hz
    · exact hxy
    · exact leSt_trans hxy ((List.pairwise_cons.mp ih).1 z hz)
theorem sorted_eq {ys xs : List Str} (p : ys.Perm xs) (h : PyProof.Rows.sortedS ys = true) : ys = sortSt xs := by
  have pw : ys.Pairwise leSt := by
    cases ys with
    | nil => exact List.Pairwise.nil
    | cons y r => exact rising_pw h
  exact List.Perm.eq_of_pairwise (fun _ _ _ _ a b => leSt_anti a b) pw (sortSt_pw xs) (p.trans (sortSt_perm xs).symm)
section
variable {X : Cx}
theorem ixD (c : Cg X) : IxR X (RO X.K idxD) := by
  intro value slice pins s σ H x y v u Q I rx ry h hs
  obtain ⟨ι, S, d1, d2, so, h1, h2, res⟩ := h
  have un1 : X.A.units + 1 < cLine := by have := c.un; omega
  have dk : ∀ {a : Addr} {kvs : List (Key × D)} {vs : List (Key × V)}, x = .ref a → Rd H a (.dK vs) → KR X.K ι H kvs vs → Res X.K ι H (optR ((keyOf d2).bind (lookK kvs)) S) Q → wpAny (model X.prog X.w) X.A (PyProof.Rows.subscriptTail value slice v u) (EP X pins σ Q) X.xe s := by
    rintro a kvs vs rfl e kr res2
    obtain ⟨d, hd, res2⟩ := optR_res res2
    obtain ⟨k, hk, hl⟩ := Option.bind_eq_some_iff.mp hd
    have hx := keyOf_kV hk h2
    subst hx
    cases rx
    rcases valV_lookK k kr with ⟨e1, e2⟩ | ⟨d', w, e1, e2, e3⟩
    · rw [e1] at hl; cases hl
    · rw [e1] at hl; cases hl
      have g : DGet H a (kV k) (some w) := by rw [← e2]; exact .inl ⟨vs, k, e, rfl, rfl⟩
      exact PyProof.Rows.tail_any (dict_typeIs I g) PySem.F.slot_dict_getitem.lookup (d_getItem un1 I g ry fun w' s' I' rw' => ⟨w, H, I', rw', res2.val so e3⟩) hs
  have dt : ∀ {a : Addr} {kvs : List (List Key × D)} {vs : List (List Key × V)}, x = .ref a → Rd H a (.dT vs) → KR X.K ι H kvs vs → Res X.K ι H (optR ((keysT d2).bind (lookK kvs)) S) Q → wpAny (model X.prog X.w) X.A (PyProof.Rows.subscriptTail value slice v u) (EP X pins σ Q) X.xe s := by
    rintro a kvs vs rfl e kr res2
    obtain ⟨d, hd, res2⟩ := optR_res res2
    obtain ⟨k, hk, hl⟩ := Option.bind_eq_some_iff.mp hd
    obtain ⟨q, rfl, hq⟩ := keysT_tup hk h2
    cases rx
    rcases valV_lookK k kr with ⟨e1, e2⟩ | ⟨d', w, e1, e2, e3⟩
    · rw [e1] at hl; cases hl
    · rw [e1] at hl; cases hl
      have g : DGet H a (.ref q) (some w) := by rw [← e2]; exact .inr ⟨vs, k, q, e, rfl, hq, rfl⟩
      exact PyProof.Rows.tail_any (dict_typeIs I g) PySem.F.slot_dict_getitem.lookup (d_getItem un1 I g ry fun w' s' I' rw' => ⟨w, H, I', rw', res2.val so e3⟩) hs
  cases d1 with
  | kt ds =>
    cases d2 with
    | int i =>
      cases h2
      obtain ⟨a, vs, rfl, sq, dr⟩ := h1
      obtain ⟨d, hd, res⟩ := optR_res res
      obtain ⟨w, hw, rw'⟩ := dr.atI hd
      exact ix_tup value slice pins s σ H _ _ v u Q I rx ry ⟨a, vs, i, w, rfl, rfl, sq.sq, hw, res.val so rw'⟩ hs
    | _ => exact res.elim
  | pl ds =>
    cases d2 with
    | int i =>
      cases h2
      obtain ⟨a, vs, rfl, sq, dr⟩ := h1
      obtain ⟨d, hd, res⟩ := optR_res res
      obtain ⟨w, hw, rw'⟩ := dr.atI hd
      exact ix_list value slice pins s σ H _ _ v u Q I rx ry ⟨a, vs, i, w, rfl, rfl, sq.seq, hw, res.val so rw'⟩ hs
    | _ => exact res.elim
  | pd ks ds =>
    obtain ⟨a, o, vs, e1, e2, ek, dr⟩ := h1
    exact dk e1 (.inr ⟨o, e2⟩) (KR.zip ek dr) (by cases d2 <;> exact res)
  | pt ks ds =>
    obtain ⟨a, o, vs, e1, e2, ek, dr⟩ := h1
    exact dt e1 (.inr ⟨o, e2⟩) (KR.zip ek dr) (by cases d2 <;> exact res)
  | tup ds =>
    cases d2 with
    | int i =>
      cases h2
      obtain ⟨a, vs, rfl, sq, dr⟩ := h1
      obtain ⟨d, hd, res⟩ := optR_res res
      obtain ⟨w, hw, rw'⟩ := dr.atI hd
      exact ix_tup value slice pins s σ H _ _ v u Q I rx ry ⟨a, vs, i, w, rfl, rfl, sq.sq, hw, res.val so rw'⟩ hs
    | _ => exact res.elim
  | str z =>
    cases d2 with
    | int i =>
      cases h1; cases h2
      simp only [idxD] at res
      split at res
      · rename_i hz
        obtain ⟨d, hd, res⟩ := optR_res res
        obtain ⟨c', hc, rfl⟩ := Option.map_eq_some_iff.mp hd
        exact ix_str value slice pins s σ H _ _ v u Q I rx ry ⟨z, i, c', rfl, rfl, of_decide_eq_true hz, hc, res.val so rfl⟩ hs
      · exact res.elim
    | _ => exact res.elim
  | ref n =>
    obtain ⟨a, ea, rfl⟩ := h1
    have res' : Res X.K ι H (idxC S[n]? d2 S) Q := by cases d2 <;> exact res
    have list : ∀ ds vs i, d2 = .int i → SqL X.K H a vs → DRs X.K ι H ds vs → Res X.K ι H (optR (L2.atI ds i) S) Q → wpAny (model X.prog X.w) X.A (PyProof.Rows.subscriptTail value slice v u) (EP X pins σ Q) X.xe s := by
      rintro ds vs i rfl sq dr res
      cases h2
      obtain ⟨d, hd, res⟩ := optR_res res
      obtain ⟨w, hw, rw'⟩ := dr.atI hd
      exact ix_list value slice pins s σ H _ _ v u Q I rx ry ⟨a, vs, i, w, rfl, rfl, sq, hw, res.val so rw'⟩ hs
    cases hc : S[n]? with
    | none => rw [hc] at res'; exact res'.elim
    | some cell =>
      rw [hc] at res'
      have ok := so.ok _ _ _ ea hc
      cases cell with
      | lst ds =>
        cases d2 with
        | int i =>
          obtain ⟨vs, e, dr⟩ := ok
          exact list ds vs i rfl (SqL.of e) dr res'
        | _ => exact res'.elim
      | frz ds =>
        cases d2 with
        | int i =>
          obtain ⟨vs, e, dr⟩ := ok
          exact list ds vs i rfl e.seq dr res'
        | _ => exact res'.elim
      | dK kvs =>
        obtain ⟨vs, e, kr⟩ := ok
        exact dk rfl (.inl e) kr (by cases d2 <;> exact res')
      | dT kvs =>
        obtain ⟨vs, e, kr⟩ := ok
        exact dt rfl (.inl e) kr (by cases d2 <;> exact res')
      | _ => cases d2 <;> exact res'.elim
  | _ => cases d2 <;> exact res.elim
theorem slD : SlR X (fun x lo hi H Q => ∃ ι S d, Sok X.K ι H S ∧ DR X.K ι H d x ∧ Res X.K ι H (slcD d lo hi S) Q) := by
  intro pins s σ H x v vl vu lo hi sl Q I rx hs pl pu h
  obtain ⟨ι, S, d, so, h1, res⟩ := h
  cases d with
  | tup ds =>
    obtain ⟨a, vs, rfl, sq, dr⟩ := h1
    refine sl_tupA pins s σ H _ v vl vu lo hi sl Q I rx hs pl pu ⟨a, vs, rfl, sq.sq, fun hw => ?_, fun hw p hp => ?_⟩
    · refine res.val so ⟨a, vs, rfl, sq, ?_⟩
      have e : cutV vs lo hi = vs := by
        unfold cutV
        rw [hw.1, hw.2, List.drop_zero, Nat.sub_zero, List.take_length]
      have := dr.cut lo hi
      rw [e] at this
      exact this
    · exact res.newT so (dr.cut lo hi) hp
  | str z =>
    cases h1
    simp only [slcD] at res
    split at res
    · rename_i hz
      refine sl_str pins s σ H _ v vl vu lo hi sl Q I rx hs pl pu ⟨z, rfl, of_decide_eq_true hz, ?_⟩
      have e : cutS z lo hi = ⟨(cutD z.cps.toList lo hi).toArray⟩ := by
        unfold cutS cutD Str.length
        rw [Array.length_toList]
      rw [e]
      exact res.val so rfl
    · exact res.elim
  | pl ds =>
    obtain ⟨a, vs, rfl, sq, dr⟩ := h1
    exact sl_list pins s σ H _ v vl vu lo hi sl Q I rx hs pl pu ⟨a, vs, rfl, sq.seq, fun p hp => res.newL so (dr.cut lo hi) hp⟩
  | ref n =>
    obtain ⟨a, ea, rfl⟩ := h1
    simp only [slcD] at res
    split at res
    · rename_i ds hl
      obtain ⟨b, vs, eb, sq, dr⟩ := lstAt_at so hl
      rw [ea] at eb; cases eb
      exact sl_list pins s σ H _ v vl vu lo hi sl Q I rx hs pl pu ⟨a, vs, rfl, sq, fun p hp => res.newL so (dr.cut lo hi) hp⟩
    · exact res.elim
  | _ => exact res.elim
def biV : Bi → Value
  | .len => .builtin "len" | .isi => .builtin "isinstance" | .abs => .builtin "abs" | .min => .builtin "min" | .max => .builtin "max"
  | .sum => .builtin "sum" | .all => .builtin "all" | .any => .builtin "any" | .list => .type "list" | .tuple => .type "tuple"
  | .str => .type "str" | .int => .type "int" | .repr => .builtin "repr" | .sorted => .builtin "sorted" | .dict => .type "dict" | .bool => .type "bool"
theorem tyX_of {K : PySem.W.Frag} {ι : List Addr} {H : Hp} {S : Store} (so : Sok K ι H S) {d : D} {v : V} {t : String} (h : DR K ι H d v) (e : tyOf S d = some t) : TyX K H v (.type t) := by
  cases d with
  | non => cases h; cases e; exact .base .non
  | bl b => cases h; cases e; exact .base (.bl b)
  | int b => cases h; cases e; exact .base (.int b)
  | str b => cases h; cases e; exact .base (.str b)
  | tup ds =>
    obtain ⟨a, vs, rfl, sq, dr⟩ := h
    cases e
    exact .base (.tup sq)
  | kt ds =>
    obtain ⟨a, vs, rfl, ⟨o, its, n, hk, hc, _⟩, dr⟩ := h
    cases e
    exact .kTuple hk hc
  | pl ds =>
    obtain ⟨a, vs, rfl, ⟨o, sq⟩, dr⟩ := h
    cases e
    exact .base (.frz sq)
  | pd ks ds =>
    obtain ⟨a, o, vs, rfl, sq, _⟩ := h
    cases e
    exact .fDict sq
  | pt ks ds => cases e
  | po C fs ds => cases e
  | sta w => cases e
  | ref n =>
    obtain ⟨a, ea, rfl⟩ := h
    simp only [tyOf] at e
    split at e
    · rename_i ds hc
      cases e
      obtain ⟨vs, e, dr⟩ := so.ok _ _ _ ea hc
      exact .base (.lst e)
    · rename_i ds hc
      cases e
      obtain ⟨vs, e, dr⟩ := so.ok _ _ _ ea hc
      rcases e with ⟨o, e⟩ | ⟨o, its, n, hk, hc, _⟩
      · exact .base (.frz e)
      · exact .kList hk hc
    · rename_i ds hc
      cases e
      obtain ⟨vs, e, dr⟩ := so.ok _ _ _ ea hc
      exact .base (.dK e)
    · rename_i ds hc
      cases e
      obtain ⟨vs, e, dr⟩ := so.ok _ _ _ ea hc
      exact .base (.dT e)
    · cases e
theorem kit_sub {K : PySem.W.Frag} {a b : String} {r : Bool} (h : subTy a b = some r) : PySem.W.kitOne K (.type a) (.type b) = some r := by
  refine kit_ty ?_
  unfold subTy at h
  split at h <;> first | (cases h; decide +kernel) | cases h
theorem DRs.nil_iff {K : PySem.W.Frag} {ι : List Addr} {H : Hp} {vs : List V} (h : DRs K ι H [] vs) : vs = [] := h
theorem DRs.two {K : PySem.W.Frag} {ι : List Addr} {H : Hp} {d e : D} {vs : List V} (h : DRs K ι H [d, e] vs) : ∃ v w, vs = [v, w] ∧ DR K ι H d v ∧ DR K ι H e w := by
  obtain ⟨v, r, rfl, h1, w, t, rfl, h2, h3⟩ := h
  cases h3
  exact ⟨v, w, rfl, h1, h2⟩
theorem DRs.one' {K : PySem.W.Frag} {ι : List Addr} {H : Hp} {d : D} {vs : List V} (h : DRs K ι H [d] vs) : ∃ v, vs = [v] ∧ DR K ι H d v := by
  obtain ⟨v, r, rfl, h1, h3⟩ := h
  cases h3
  exact ⟨v, rfl, h1⟩
theorem isi_ok (c : Cg X) {pins : List (Addr × Obj)} {s : Shared} {σ : St} {H : Hp} {us : List Value} {Q : VK} {ι : List Addr} {S : Store} {d e : D} {v w : V} {b : Bool} (I : Inv X pins σ H s) (r : Vals [v, w] us)
    (so : Sok X.K ι H S) (h1 : DR X.K ι H d v) (h2 : DR X.K ι H e w) (hb : isiD S d e = some b) (res : Res X.K ι H (.ok (.bl b) S) Q) : wpAny (model X.prog X.w) X.A (call (.builtin "isinstance") us) (EP X pins σ Q) X.xe s := by
  unfold isiD at hb
  obtain ⟨t, ht, hb⟩ := Option.bind_eq_some_iff.mp hb
  have ty := tyX_of so h1 ht
  split at hb
  · rename_i q hq
    cases h2
    exact call_isi pins s σ H _ us Q I r ⟨v, _, _, _, b, rfl, .ty q, ty, kit_sub hb, res.val so rfl⟩
  · rename_i p q hq
    obtain ⟨a, vs, rfl, sq, dr⟩ := h2
    obtain ⟨v1, v2, rfl, g1, g2⟩ := dr.two
    cases g1; cases g2
    split at hb
    · rename_i x y hx hy
      cases hb
      have any : PySem.W.kitAny X.K (.type t) [.type p, .type q] = some (x || y) :=
        kitAny_cons (kit_sub hx) (fun z => by subst z; exact kitAny_cons (kit_sub hy) (fun z => by subst z; exact kitAny_nil) (fun z => by subst z; rfl)) (fun z => by subst z; rfl)
      exact call_isiT pins s σ H _ us Q I r ⟨v, a, _, _, _, _, rfl, sq, .cons (.ty p) (.cons (.ty q) .nil), ty, any, res.val so rfl⟩
    · cases hb
  · rename_i p q hq
    obtain ⟨a, vs, rfl, ⟨o, its, n, hk, hc, hd, hz, rv⟩, dr⟩ := h2
    obtain ⟨v1, v2, rfl, g1, g2⟩ := dr.two
    cases g1; cases g2
    split at hb
    · rename_i x y hx hy
      cases hb
      have any : PySem.W.kitAny X.K (.type t) [.type p, .type q] = some (x || y) :=
        kitAny_cons (kit_sub hx) (fun z => by subst z; exact kitAny_cons (kit_sub hy) (fun z => by subst z; exact kitAny_nil) (fun z => by subst z; rfl)) (fun z => by subst z; rfl)
      · obtain ⟨cl, dd, dt, sl⟩ := o
        simp only at hc hd
        subst hc hd
        have ei : its = [Value.type p, Value.type q].toArray := by
          obtain ⟨l⟩ := its
          simp only at rv
          cases rv with
          | cons g1 rv =>
            cases rv with
            | cons g2 rv =>
              cases rv
              cases g1; cases g2
              rfl
        subst ei
        exact call_isiK pins s σ H _ us Q I r ⟨v, a, dd, _, n, sl, _, _, rfl, hk, ty, any, res.val so rfl⟩
    · cases hb
  · cases hb
end
end Mi
namespace Mi
open PySem L2
section
variable {X : Cx}
theorem vals1' {x : V} {us : List Value} (h : Vals [x] us) : ∃ u, us = [u] ∧ RelV x u := by
  cases h with
  | cons a b => cases b; exact ⟨_, rfl, a⟩
theorem pairs_vals {K : PySem.W.Frag} {ι : List Addr} {H : Hp} : ∀ {ds : List D} {vs : List V} {kvs : List (Key × D)}, DRs K ι H ds vs → pairsOf ds = some kvs →
    ∃ (ps : List Addr) (kv : List (Key × V)), vs = ps.map V.ref ∧ Paired (fun p q => SqT K H p [kV q.1, q.2]) ps kv ∧ KR K ι H kvs kv
  | [], _, _, h, e => by
    cases h; cases e
    exact ⟨[], [], rfl, .nil, rfl, rfl⟩
  | d :: ds, _, kvs, h, e => by
    obtain ⟨v, r, rfl, h1, h2⟩ := h
    unfold pairsOf at e
    split at e
    · rename_i heq; cases heq
    · rename_i k w r' heq
      cases heq
      split at e
      · rename_i k' r2 hk hr
        cases e
        obtain ⟨a, vs, rfl, sq, dr⟩ := h1
        obtain ⟨v1, v2, rfl, g1, g2⟩ := dr.two
        obtain ⟨ps, kv, rfl, p, q⟩ := pairs_vals h2 hr
        have e1 := keyOf_kV hk g1
        subst e1
        refine ⟨a :: ps, (k', v2) :: kv, rfl, .cons sq.sq p, ?_, ?_⟩
        · rw [List.map_cons, List.map_cons, q.1]
        · exact ⟨v2, _, rfl, g2, q.2⟩
      · cases e
    · cases e
theorem bi_repr (c : Cg X) {pins : List (Addr × Obj)} {s : Shared} {σ : St} {H : Hp} {u : Value} {v : V} {Q : VK} {ι : List Addr} {S : Store} {d : D} {p : PyData} (I : Inv X pins σ H s) (r : RelV v u)
    (so : Sok X.K ι H S) (h1 : DR X.K ι H d v) (hp : py S d = some p) (sh : p.showable = true) (sz : p.shown.length ≤ sizeLine) (res : Res X.K ι H (.ok (.str p.shown) S) Q) :
    wpAny (model X.prog X.w) X.A (call (.builtin "repr") [u]) (EP X pins σ Q) X.xe s := by
  have fin : ∀ t s', Inv X pins σ H s' → EP X pins σ Q (.str p.shown t) s' := fun t s' I' => ⟨.str p.shown, H, I', ⟨_, rfl⟩, res.val so rfl⟩
  have ref : ∀ a, v = .ref a → wpAny (model X.prog X.w) X.A (call (.builtin "repr") [u]) (EP X pins σ Q) X.xe s := by
    rintro a rfl
    cases r
    obtain ⟨as, ra, hs⟩ := reads c I so 50 d p _ _ hp h1 rfl
    refine repr_of_reads' ra sh (fun _ => hs) c.gu ?_ (fun b o e => e) (fun h' u' tk hk => fin u' _ (I.kept (t' := tk) hk)) sz
    have dep : ∀ k d p, toPy k S d = some p → p.depth ≤ k := by
      intro k
      induction k with
      | zero =>
        intro d p e
        cases d <;> (first | (cases e; simp [PyData.depth]; done) | cases e)
      | succ k ih =>
        have all : ∀ (ds : List D) (ps : List PyData), allSome (ds.map (toPy k S)) = some ps → PyData.depthAll ps ≤ k := by
          intro ds
          induction ds with
          | nil => intro ps e; cases e; simp [PyData.depthAll]
          | cons d ds ihd =>
            intro ps e
            rw [List.map_cons] at e
            obtain ⟨q, qs, e1, e2, rfl⟩ := allSome_cons e
            have a1 := ih d q e1
            have a2 := ihd qs e2
            simp only [PyData.depthAll]
            omega
        intro d p e
        cases d with
        | tup ds =>
          simp only [toPy] at e
          obtain ⟨ps, e1, rfl⟩ := Option.map_eq_some_iff.mp e
          have := all ds ps e1
          simp only [PyData.depth]; omega
        | kt ds =>
          simp only [toPy] at e
          obtain ⟨ps, e1, rfl⟩ := Option.map_eq_some_iff.mp e
          have := all ds ps e1
          simp only [PyData.depth]; omega
        | pl ds =>
          simp only [toPy] at e
          obtain ⟨ps, e1, rfl⟩ := Option.map_eq_some_iff.mp e
          have := all ds ps e1
          simp only [PyData.depth]; omega
        | pd ks ds =>
          simp only [toPy] at e
          obtain ⟨ps, e1, rfl⟩ := Option.map_eq_some_iff.mp e
          have h1 := all ds ps e1
          have kk : ∀ (ks : List Key) (ps : List PyData), PyData.depthAll ps ≤ k → PyData.depthKv ((ks.map keyPy).zip ps) ≤ k := by
            intro ks
            induction ks with
            | nil => intro ps _; simp [PyData.depthKv]
            | cons x ks ih =>
              intro ps h
              cases ps with
              | nil => simp [PyData.depthKv]
              | cons p ps =>
                simp only [PyData.depthAll] at h
                have := ih ps (by omega)
                have a3 : (keyPy x).depth = 0 := by cases x <;> simp [keyPy, PyData.depth]
                rw [List.map_cons, List.zip_cons_cons]
                simp only [PyData.depthKv]
                omega
          have := kk ks ps h1
          simp only [PyData.depth]; omega
        | ref n =>
          simp only [toPy] at e
          split at e
          · obtain ⟨ps, e1, rfl⟩ := Option.map_eq_some_iff.mp e
            have := all _ ps e1
            simp only [PyData.depth]; omega
          · obtain ⟨ps, e1, rfl⟩ := Option.map_eq_some_iff.mp e
            have := all _ ps e1
            simp only [PyData.depth]; omega
          · rename_i kvs hc
            obtain ⟨ps, e1, rfl⟩ := Option.map_eq_some_iff.mp e
            have kk : ∀ (kvs : List (Key × D)) (ps : List PyData), allSome (kvs.map fun kv => toPy k S kv.2) = some ps → PyData.depthKv ((kvs.map fun kv => keyPy kv.1).zip ps) ≤ k := by
              intro kvs
              induction kvs with
              | nil => intro ps e; cases e; simp [PyData.depthKv]
              | cons kv kvs ihk =>
                intro ps e
                rw [List.map_cons] at e
                obtain ⟨q, qs, e1, e2, rfl⟩ := allSome_cons e
                have a1 := ih kv.2 q e1
                have a2 := ihk qs e2
                have a3 : (keyPy kv.1).depth = 0 := by cases kv.1 <;> simp [keyPy, PyData.depth]
                rw [List.map_cons, List.zip_cons_cons]
                simp only [PyData.depthKv]
                omega
            have := kk kvs ps e1
            simp only [PyData.depth]; omega
          · cases e
        | _ => first | (cases e; simp [PyData.depth]) | cases e
    have h50 := dep 50 d p hp
    have := c.un
    omega
  cases d with
  | non => cases hp; cases h1; cases r; exact P.repr_of_none (fin _ _ (I.tok _))
  | bl b => cases hp; cases h1; cases r; exact P.repr_of_bool (by cases b <;> exact fin _ _ (I.tok _))
  | int i => cases hp; cases h1; obtain ⟨t, rfl⟩ := r; exact P.repr_of_int (by simpa [PyData.showable] using sh) (fin _ _ (I.tok _))
  | str x => cases hp; cases h1; obtain ⟨t, rfl⟩ := r; exact P.repr_of_str (fin _ _ (I.tok _)) sz
  | sta w => cases hp
  | pt _ _ => cases hp
  | po _ _ _ => cases hp
  | tup ds => obtain ⟨a, vs, e, _⟩ := h1; exact ref a e
  | kt ds => obtain ⟨a, vs, e, _⟩ := h1; exact ref a e
  | pl ds => obtain ⟨a, vs, e, _⟩ := h1; exact ref a e
  | pd ks ds => obtain ⟨a, o, vs, e, _⟩ := h1; exact ref a e
  | ref n => obtain ⟨a, _, e⟩ := h1; exact ref a e
def RC (K : PySem.W.Frag) (f : List D → Store → R D) : List V → Hp → VK → Prop := fun xs H Q => ∃ ι S ds, Sok K ι H S ∧ DRs K ι H ds xs ∧ Res K ι H (f ds S) Q
theorem bi_ok (c : Cg X) (f : Bi) : CallR X (biV f) (RC X.K (biD f)) := by
  intro pins s σ H xs us Q I r h
  obtain ⟨ι, S, ds, so, dr, res⟩ := h
  cases f with
  | int =>
    simp only [biD] at res
    split at res
    · rename_i a
      obtain ⟨v, rfl, h1⟩ := dr.one'
      cases h1
      split at res
      · rename_i n hn
        split at res
        · rename_i hz
          exact call_int_str pins s σ H _ us Q I r ⟨a, n, rfl, hn, hz, res.val so rfl⟩
        · exact res.elim
      · exact res.elim
    · exact res.elim
  | bool => exact res.elim
  | len =>
    simp only [biD] at res
    split at res
    · rename_i d
      obtain ⟨v, rfl, h1⟩ := dr.one'
      obtain ⟨e, he, res⟩ := optR_res res
      obtain ⟨n, hn, rfl⟩ := Option.map_eq_some_iff.mp he
      cases d with
      | tup es =>
        obtain ⟨a, vs, rfl, sq, dr⟩ := h1
        cases hn
        exact call_len_seq pins s σ H _ us Q I r ⟨a, vs, rfl, .inr sq.sq, by rw [dr.length]; exact res.val so rfl⟩
      | kt es =>
        obtain ⟨a, vs, rfl, sq, dr⟩ := h1
        cases hn
        exact call_len_seq pins s σ H _ us Q I r ⟨a, vs, rfl, .inr sq.sq, by rw [dr.length]; exact res.val so rfl⟩
      | pl es =>
        obtain ⟨a, vs, rfl, sq, dr⟩ := h1
        cases hn
        exact call_len_seq pins s σ H _ us Q I r ⟨a, vs, rfl, .inl sq.seq, by rw [dr.length]; exact res.val so rfl⟩
      | str z =>
        cases h1
        simp only [lenD] at hn
        split at hn
        · rename_i hz
          cases hn
          exact call_len_str pins s σ H _ us Q I r ⟨z, rfl, of_decide_eq_true hz, res.val so rfl⟩
        · cases hn
      | ref k =>
        obtain ⟨a, ea, rfl⟩ := h1
        simp only [lenD] at hn
        split at hn
        · rename_i es hc
          cases hn
          obtain ⟨vs, e, dr⟩ := so.ok _ _ _ ea hc
          exact call_len_seq pins s σ H _ us Q I r ⟨a, vs, rfl, .inl (SqL.of e), by rw [dr.length]; exact res.val so rfl⟩
        · rename_i es hc
          cases hn
          obtain ⟨vs, e, dr⟩ := so.ok _ _ _ ea hc
          exact call_len_seq pins s σ H _ us Q I r ⟨a, vs, rfl, .inl e.seq, by rw [dr.length]; exact res.val so rfl⟩
        · rename_i kvs hc
          cases hn
          obtain ⟨vs, e, kr⟩ := so.ok _ _ _ ea hc
          exact call_lenD pins s σ H _ us Q I r ⟨a, vs, rfl, e, by rw [KR.length kr]; exact res.val so rfl⟩
        · cases hn
      | _ => cases hn
    · exact res.elim
  | isi =>
    simp only [biD] at res
    split at res
    · obtain ⟨v, w, rfl, h1, h2⟩ := dr.two
      obtain ⟨b, hb, res⟩ := ofB_res res
      exact isi_ok c I r so h1 h2 hb res
    · exact res.elim
  | abs =>
    simp only [biD] at res
    split at res
    · rename_i i
      obtain ⟨v, rfl, h1⟩ := dr.one'
      cases h1
      exact call_abs pins s σ H _ us Q I r ⟨i, rfl, res.val so rfl⟩
    · exact res.elim
  | min =>
    simp only [biD] at res
    split at res
    · rename_i i j
      obtain ⟨v, w, rfl, h1, h2⟩ := dr.two
      cases h1; cases h2
      exact call_min2 c.calm pins s σ H _ us Q I r ⟨i, j, rfl, res.val so rfl⟩
    · exact res.elim
  | max =>
    simp only [biD] at res
    split at res
    · rename_i i j
      obtain ⟨v, w, rfl, h1, h2⟩ := dr.two
      cases h1; cases h2
      exact call_max2 c.calm pins s σ H _ us Q I r ⟨i, j, rfl, res.val so rfl⟩
    · exact res.elim
  | sum =>
    simp only [biD] at res
    split at res
    · rename_i n
      obtain ⟨v, rfl, h1⟩ := dr.one'
      obtain ⟨e, he, res⟩ := optR_res res
      obtain ⟨es, hl, he⟩ := Option.bind_eq_some_iff.mp he
      obtain ⟨ns, hn, rfl⟩ := Option.map_eq_some_iff.mp he
      obtain ⟨a, ea, rfl⟩ := h1
      obtain ⟨b, vs, eb, sq, dr2⟩ := lstAt_at so hl
      rw [ea] at eb; cases eb
      have e1 := intsOf_vals dr2 hn
      subst e1
      exact cr_sum c.calm pins s σ H _ us Q I r ⟨a, ns, rfl, sq, res.val so rfl⟩
    · rename_i es
      obtain ⟨v, rfl, h1⟩ := dr.one'
      obtain ⟨e, he, res⟩ := optR_res res
      obtain ⟨es', hl, he⟩ := Option.bind_eq_some_iff.mp he
      cases hl
      obtain ⟨ns, hn, rfl⟩ := Option.map_eq_some_iff.mp he
      obtain ⟨a, vs, rfl, sq, dr2⟩ := h1
      have e1 := intsOf_vals dr2 hn
      subst e1
      exact cr_sum c.calm pins s σ H _ us Q I r ⟨a, ns, rfl, sq.seq, res.val so rfl⟩
    · exact res.elim
  | all =>
    simp only [biD] at res
    split at res
    · rename_i n
      obtain ⟨v, rfl, h1⟩ := dr.one'
      obtain ⟨e, he, res⟩ := ofB_res res
      obtain ⟨es, hl, he⟩ := Option.bind_eq_some_iff.mp he
      obtain ⟨ns, hn, rfl⟩ := Option.map_eq_some_iff.mp he
      obtain ⟨a, ea, rfl⟩ := h1
      obtain ⟨b, vs, eb, sq, dr2⟩ := lstAt_at so hl
      rw [ea] at eb; cases eb
      have e1 := bolsOf_vals dr2 hn
      subst e1
      exact cr_all c.calm pins s σ H _ us Q I r ⟨a, ns, rfl, sq, res.val so rfl⟩
    · rename_i es
      obtain ⟨v, rfl, h1⟩ := dr.one'
      obtain ⟨e, he, res⟩ := ofB_res res
      obtain ⟨es', hl, he⟩ := Option.bind_eq_some_iff.mp he
      cases hl
      obtain ⟨ns, hn, rfl⟩ := Option.map_eq_some_iff.mp he
      obtain ⟨a, vs, rfl, sq, dr2⟩ := h1
      have e1 := bolsOf_vals dr2 hn
      subst e1
      exact cr_all c.calm pins s σ H _ us Q I r ⟨a, ns, rfl, sq.seq, res.val so rfl⟩
    · exact res.elim
  | any =>
    simp only [biD] at res
    split at res
    · rename_i n
      obtain ⟨v, rfl, h1⟩ := dr.one'
      obtain ⟨e, he, res⟩ := ofB_res res
      obtain ⟨es, hl, he⟩ := Option.bind_eq_some_iff.mp he
      obtain ⟨ns, hn, rfl⟩ := Option.map_eq_some_iff.mp he
      obtain ⟨a, ea, rfl⟩ := h1
      obtain ⟨b, vs, eb, sq, dr2⟩ := lstAt_at so hl
      rw [ea] at eb; cases eb
      have e1 := bolsOf_vals dr2 hn
      subst e1
      exact cr_any c.calm pins s σ H _ us Q I r ⟨a, ns, rfl, sq, res.val so rfl⟩
    · rename_i es
      obtain ⟨v, rfl, h1⟩ := dr.one'
      obtain ⟨e, he, res⟩ := ofB_res res
      obtain ⟨es', hl, he⟩ := Option.bind_eq_some_iff.mp he
      cases hl
      obtain ⟨ns, hn, rfl⟩ := Option.map_eq_some_iff.mp he
      obtain ⟨a, vs, rfl, sq, dr2⟩ := h1
      have e1 := bolsOf_vals dr2 hn
      subst e1
      exact cr_any c.calm pins s σ H _ us Q I r ⟨a, ns, rfl, sq.seq, res.val so rfl⟩
    · exact res.elim
  | list =>
    simp only [biD] at res
    split at res
    · rename_i es
      obtain ⟨v, rfl, h1⟩ := dr.one'
      obtain ⟨a, vs, rfl, sq, dr2⟩ := h1
      exact call_list_of pins s σ H _ us Q I r ⟨a, vs, rfl, .inr sq.sq, fun l hl => res.newL so dr2 hl⟩
    · rename_i es
      obtain ⟨v, rfl, h1⟩ := dr.one'
      obtain ⟨a, vs, rfl, sq, dr2⟩ := h1
      exact call_list_of pins s σ H _ us Q I r ⟨a, vs, rfl, .inl sq.seq, fun l hl => res.newL so dr2 hl⟩
    · rename_i n
      obtain ⟨v, rfl, h1⟩ := dr.one'
      obtain ⟨a, ea, rfl⟩ := h1
      split at res
      · rename_i es hc
        obtain ⟨vs, e, dr2⟩ := so.ok _ _ _ ea hc
        exact call_list_of pins s σ H _ us Q I r ⟨a, vs, rfl, .inl (SqL.of e), fun l hl => res.newL so dr2 hl⟩
      · rename_i es hc
        obtain ⟨vs, e, dr2⟩ := so.ok _ _ _ ea hc
        exact call_list_of pins s σ H _ us Q I r ⟨a, vs, rfl, .inl e.seq, fun l hl => res.newL so dr2 hl⟩
      · rename_i kvs hc
        obtain ⟨vs, e, kr⟩ := so.ok _ _ _ ea hc
        exact call_list_dK c.calm pins s σ H _ us Q I r ⟨a, vs, rfl, e, fun l hl => res.newL so (DRs_keys kr) hl⟩
      · exact res.elim
    · exact res.elim
  | tuple =>
    simp only [biD] at res
    split at res
    · rename_i es
      obtain ⟨v, rfl, h1⟩ := dr.one'
      have h1' := h1
      obtain ⟨a, vs, rfl, sq, dr2⟩ := h1
      exact call_tuple_of pins s σ H _ us Q I r ⟨a, vs, rfl, .inr ⟨sq.sq, res.val so h1'⟩⟩
    · rename_i es
      obtain ⟨v, rfl, h1⟩ := dr.one'
      obtain ⟨a, vs, rfl, sq, dr2⟩ := h1
      exact call_tuple_of pins s σ H _ us Q I r ⟨a, vs, rfl, .inl ⟨sq.seq, fun l hl => res.newT so dr2 hl⟩⟩
    · rename_i n
      obtain ⟨v, rfl, h1⟩ := dr.one'
      obtain ⟨a, ea, rfl⟩ := h1
      split at res
      · rename_i es hl
        obtain ⟨b, vs, eb, sq, dr2⟩ := lstAt_at so hl
        rw [ea] at eb; cases eb
        exact call_tuple_of pins s σ H _ us Q I r ⟨a, vs, rfl, .inl ⟨sq, fun l hl => res.newT so dr2 hl⟩⟩
      · exact res.elim
    · exact res.elim
  | str =>
    simp only [biD] at res
    split at res
    · rename_i i
      obtain ⟨v, rfl, h1⟩ := dr.one'
      cases h1
      split at res
      · rename_i hz
        exact call_str_int pins s σ H _ us Q I r ⟨i, rfl, hz, res.val so rfl⟩
      · exact res.elim
    · rename_i b
      obtain ⟨v, rfl, h1⟩ := dr.one'
      cases h1
      obtain ⟨u, rfl, ru⟩ := vals1' r
      obtain rfl : u = Value.bool b := ru
      exact P.str_of_bool ⟨.str _, H, I.tok _, ⟨_, rfl⟩, res.val so rfl⟩
    · rename_i a
      obtain ⟨v, rfl, h1⟩ := dr.one'
      cases h1
      exact SkE.call_str_str pins s σ H _ us Q I r ⟨a, rfl, res.val so rfl⟩
    · exact res.elim
  | repr =>
    simp only [biD] at res
    split at res
    · rename_i d
      obtain ⟨v, rfl, h1⟩ := dr.one'
      obtain ⟨u, rfl, ru⟩ := vals1' r
      split at res
      · rename_i p hp
        split at res
        · rename_i hz
          exact bi_repr c I ru so h1 hp hz.1 (of_decide_eq_true hz.2) res
        · exact res.elim
      · exact res.elim
    · exact res.elim
  | sorted =>
    simp only [biD] at res
    split at res
    · rename_i es
      obtain ⟨v, rfl, h1⟩ := dr.one'
      obtain ⟨a, vs, rfl, sq, dr2⟩ := h1
      split at res
      · rename_i xs hx
        split at res
        · rename_i hz
          have e1 := strsOf_vals dr2 hx
          subst e1
          refine cr_sortedS pins s σ H _ us Q I r ⟨a, xs, rfl, sq.seq, hz, fun ys p hp hs hn => ?_⟩
          rw [sorted_eq hp hs]
          exact res.newL so (DRs_strs _) hn
        · exact res.elim
      · exact res.elim
    · rename_i ks es
      obtain ⟨v, rfl, h1⟩ := dr.one'
      obtain ⟨a, o, vs, rfl, e, ek, dr2⟩ := h1
      split at res
      · split at res
        · rename_i xs hx
          split at res
          · rename_i hz
            refine call_sortedD c.calm pins s σ H _ us Q I r ⟨a, vs, xs, rfl, .inr ⟨o, e⟩, ek.trans (keysOf_eq hx), hz, fun ys p hp hs hn => ?_⟩
            rw [sorted_eq hp hs]
            exact res.newL so (DRs_strs _) hn
          · exact res.elim
        · exact res.elim
      · exact res.elim
    · rename_i n
      obtain ⟨v, rfl, h1⟩ := dr.one'
      obtain ⟨a, ea, rfl⟩ := h1
      split at res
      · rename_i es hc
        split at res
        · rename_i xs hx
          split at res
          · rename_i hz
            obtain ⟨vs, e, dr2⟩ := so.ok _ _ _ ea hc
            have e1 := strsOf_vals dr2 hx
            subst e1
            refine cr_sortedS pins s σ H _ us Q I r ⟨a, xs, rfl, SqL.of e, hz, fun ys p hp hs hn => ?_⟩
            rw [sorted_eq hp hs]
            exact res.newL so (DRs_strs _) hn
          · exact res.elim
        · exact res.elim
      · rename_i kvs hc
        split at res
        · rename_i xs hx
          split at res
          · rename_i hz
            obtain ⟨vs, e, kr⟩ := so.ok _ _ _ ea hc
            refine call_sortedD c.calm pins s σ H _ us Q I r ⟨a, vs, xs, rfl, .inl e, kr.1.symm.trans (keysOf_eq hx), hz, fun ys p hp hs hn => ?_⟩
            rw [sorted_eq hp hs]
            exact res.newL so (DRs_strs _) hn
          · exact res.elim
        · exact res.elim
      · exact res.elim
    · exact res.elim
  | dict =>
    simp only [biD] at res
    split at res
    · rename_i es
      obtain ⟨v, rfl, h1⟩ := dr.one'
      obtain ⟨a, vs, rfl, sq, dr2⟩ := h1
      split at res
      · rename_i kvs hk
        obtain ⟨ps, kv, rfl, pp, kr⟩ := pairs_vals dr2 hk
        refine call_dictP c.calm pins s σ H _ us Q I r ⟨a, ps, kv, rfl, sq.seq, pp, fun p hp => ?_⟩
        have k0 : KR X.K ι H ([] : List (Key × D)) ([] : List (Key × V)) := ⟨rfl, rfl⟩
        exact res.newC so hp ⟨_, upd_same, (k0.merge kr).mono (List.prefix_append ι [p]) (Xt.new hp)⟩
      · exact res.elim
    · rename_i n
      obtain ⟨v, rfl, h1⟩ := dr.one'
      obtain ⟨a, ea, rfl⟩ := h1
      split at res
      · rename_i es hl
        split at res
        · rename_i kvs hk
          obtain ⟨b, vs, eb, sq, dr2⟩ := lstAt_at so hl
          rw [ea] at eb; cases eb
          obtain ⟨ps, kv, rfl, pp, kr⟩ := pairs_vals dr2 hk
          refine call_dictP c.calm pins s σ H _ us Q I r ⟨a, ps, kv, rfl, sq, pp, fun p hp => ?_⟩
          have k0 : KR X.K ι H ([] : List (Key × D)) ([] : List (Key × V)) := ⟨rfl, rfl⟩
          exact res.newC so hp ⟨_, upd_same, (k0.merge kr).mono (List.prefix_append ι [p]) (Xt.new hp)⟩
        · exact res.elim
      · exact res.elim
    · exact res.elim
def mtT : Mt → String
  | .join => "str" | .upper => "str" | .split => "str" | .partition => "str" | .get => "dict" | _ => "list"
def mtId : Mt → String
  | .clear => "list.clear" | .append => "list.append" | .pop => "list.pop" | .insert => "list.insert" | .extend => "list.extend" | .join => "str.join" | .upper => "str.upper" | .split => "str.split" | .partition => "str.partition" | .get => "dict.get" | _ => ""
def RM (K : PySem.W.Frag) (f : D → List D → Store → R D) : V → List V → Hp → VK → Prop := fun x xs H Q => ∃ ι S d ds, Sok K ι H S ∧ DR K ι H d x ∧ DRs K ι H ds xs ∧ Res K ι H (f d ds S) Q
/-- a list written -/
theorem Res.setL {K : PySem.W.Frag} {ι : List Addr} {H : Hp} {S : Store} {Q : VK} {n : Nat} {c : Cell} {c' : Cell} {d : D} {a : Addr} (res : Res K ι H (setC S n c' d) Q) (so : Sok K ι H S) (ea : ι[n]? = some a) (hc : S[n]? = some c) (m : c.mu = true) {o : HO}
    (new : Xt H (upd H a o) → CellOk K ι (upd H a o) a c') {v : V} (dr : DR K ι H d v) : Q v (upd H a o) := by
  obtain ⟨s', x⟩ := so.put (o := o) (c' := c') ea hc m new
  exact res ι _ v (List.prefix_refl ι) x s' (dr.mono (List.prefix_refl ι) x)
theorem strs_dr (K : PySem.W.Frag) (ι : List Addr) (H : Hp) : ∀ {ys : List Str}, DRs K ι H (ys.map .str) (ys.map V.str)
  | [] => rfl
  | y :: ys => ⟨_, _, rfl, rfl, strs_dr K ι H⟩
theorem mt_ok (c : Cg X) (m : Mt) : MtR X (mtId m) (RM X.K (mtD m)) := by
  intro pins s σ H x xs v us Q I rx rs h
  obtain ⟨ι, S, d, ds, so, h1, dr, res⟩ := h
  have un1 : X.A.units + 1 < cLine := by have := c.un; omega
  cases m with
  | append =>
    simp only [mtD] at res
    split at res
    · rename_i n y
      obtain ⟨w, rfl, hw⟩ := dr.one'
      obtain ⟨a, ea, rfl⟩ := h1
      split at res
      · rename_i es hc
        split at res
        · rename_i hz
          obtain ⟨vs, e, dr2⟩ := so.ok _ _ _ ea hc
          exact mt_append pins s σ H _ _ v us Q I rx rs ⟨a, vs, w, rfl, rfl, e, by rw [dr2.length]; exact hz,
            res.setL so ea hc rfl (fun x => ⟨_, upd_same, (dr2.append (DRs.one hw)).mono (List.prefix_refl ι) x⟩) rfl⟩
        · exact res.elim
      · exact res.elim
    · exact res.elim
  | pop =>
    simp only [mtD] at res
    split at res
    · rename_i n i
      obtain ⟨w, rfl, hw⟩ := dr.one'
      cases hw
      obtain ⟨a, ea, rfl⟩ := h1
      split at res
      · rename_i es hc
        split at res
        · rename_i k hk
          split at res
          · rename_i y hy
            split at res
            · rename_i hz
              obtain ⟨vs, e, dr2⟩ := so.ok _ _ _ ea hc
              obtain ⟨q1, q2, q3, q4⟩ := ixN_seq hk
              obtain ⟨w, hw, rw'⟩ := dr2.get hy
              exact mt_popAt pins s σ H _ _ v us Q I rx rs ⟨a, vs, i, k, w, rfl, rfl, e, hz.1, hz.2, by rw [dr2.length]; exact q1, hw,
                res.setL so ea hc rfl (fun x => ⟨_, upd_same, (dr2.eraseIdx k).mono (List.prefix_refl ι) x⟩) rw'⟩
            · exact res.elim
          · exact res.elim
        · exact res.elim
      · exact res.elim
    · rename_i n
      cases dr.nil_iff
      obtain ⟨a, ea, rfl⟩ := h1
      split at res
      · rename_i es hc
        split at res
        · rename_i y hy
          obtain ⟨vs, e, dr2⟩ := so.ok _ _ _ ea hc
          obtain ⟨w, hw, rw'⟩ := dr2.get hy
          have dl : DRs X.K ι H es.dropLast vs.dropLast := by
            rw [List.dropLast_eq_take, List.dropLast_eq_take, dr2.length]
            exact dr2.take _
          exact mt_pop pins s σ H _ _ v us Q I rx rs ⟨a, vs, w, rfl, rfl, e, by rw [dr2.length]; exact hw, res.setL so ea hc rfl (fun x => ⟨_, upd_same, dl.mono (List.prefix_refl ι) x⟩) rw'⟩
        · exact res.elim
      · exact res.elim
    · exact res.elim
  | insert =>
    simp only [mtD] at res
    split at res
    · rename_i n i y
      obtain ⟨w1, w, rfl, hw1, hw⟩ := dr.two
      cases hw1
      obtain ⟨a, ea, rfl⟩ := h1
      split at res
      · rename_i es hc
        split at res
        · rename_i hz
          obtain ⟨vs, e, dr2⟩ := so.ok _ _ _ ea hc
          exact mt_insert pins s σ H _ _ v us Q I rx rs ⟨a, vs, i, w, rfl, rfl, e, by rw [dr2.length]; exact hz.1, hz.2.1, hz.2.2,
            res.setL so ea hc rfl (fun x => ⟨_, upd_same, (((dr2.take _).append (DRs.one hw)).append (dr2.drop _)).mono (List.prefix_refl ι) x⟩) rfl⟩
        · exact res.elim
      · exact res.elim
    · exact res.elim
  | clear =>
    simp only [mtD] at res
    split at res
    · rename_i n
      cases dr.nil_iff
      obtain ⟨a, ea, rfl⟩ := h1
      split at res
      · rename_i es hc
        obtain ⟨vs, e, dr2⟩ := so.ok _ _ _ ea hc
        exact mt_clear pins s σ H _ _ v us Q I rx rs ⟨a, vs, rfl, rfl, e, res.setL so ea hc rfl (fun x => ⟨_, upd_same, rfl⟩) rfl⟩
      · exact res.elim
    · exact res.elim
  | extend =>
    simp only [mtD] at res
    split at res
    · rename_i n fs
      obtain ⟨w, rfl, hw⟩ := dr.one'
      obtain ⟨b, ws, rfl, q2, dr3⟩ := hw
      obtain ⟨a, ea, rfl⟩ := h1
      split at res
      · rename_i es hc
        split at res
        · rename_i hz
          obtain ⟨vs, e, dr2⟩ := so.ok _ _ _ ea hc
          exact mt_extF pins s σ H _ _ v us Q I rx rs ⟨a, b, vs, ws, rfl, rfl, e, .inr q2, by rw [dr2.length, dr3.length]; exact hz,
            res.setL so ea hc rfl (fun x => ⟨_, upd_same, (dr2.append dr3).mono (List.prefix_refl ι) x⟩) rfl⟩
        · exact res.elim
      · exact res.elim
    · rename_i n m
      obtain ⟨w, rfl, hw⟩ := dr.one'
      obtain ⟨b, eb, rfl⟩ := hw
      obtain ⟨a, ea, rfl⟩ := h1
      split at res
      · rename_i es fs hc hc2
        split at res
        · rename_i hz
          obtain ⟨vs, e, dr2⟩ := so.ok _ _ _ ea hc
          obtain ⟨ws, e2, dr3⟩ := so.ok _ _ _ eb hc2
          exact mt_extend pins s σ H _ _ v us Q I rx rs ⟨a, b, vs, ws, rfl, rfl, e, e2, by rw [dr2.length, dr3.length]; exact hz,
            res.setL so ea hc rfl (fun x => ⟨_, upd_same, (dr2.append dr3).mono (List.prefix_refl ι) x⟩) rfl⟩
        · exact res.elim
      · exact res.elim
    · exact res.elim
  | join =>
    simp only [mtD] at res
    split at res
    · rename_i z es
      obtain ⟨w, rfl, hw⟩ := dr.one'
      obtain ⟨a, vs, rfl, sq, dr2⟩ := hw
      cases h1
      split at res
      · rename_i ys hy
        split at res
        · rename_i hz
          have e1 := strsOf_vals dr2 hy
          subst e1
          exact mt_join pins s σ H _ _ v us Q I rx rs ⟨z, a, ys, rfl, rfl, .inl sq.seq, hz, res.val so rfl⟩
        · exact res.elim
      · exact res.elim
    · rename_i z n
      obtain ⟨w, rfl, hw⟩ := dr.one'
      obtain ⟨a, ea, rfl⟩ := hw
      cases h1
      split at res
      · rename_i es hl
        split at res
        · rename_i ys hy
          split at res
          · rename_i hz
            obtain ⟨b, vs, eb, sq, dr2⟩ := lstAt_at so hl
            rw [ea] at eb; cases eb
            have e1 := strsOf_vals dr2 hy
            subst e1
            exact mt_join pins s σ H _ _ v us Q I rx rs ⟨z, a, ys, rfl, rfl, .inl sq, hz, res.val so rfl⟩
          · exact res.elim
        · exact res.elim
      · exact res.elim
    · exact res.elim
  | upper =>
    simp only [mtD] at res
    split at res
    · rename_i z
      cases dr.nil_iff
      cases h1
      split at res
      · rename_i hz
        exact mt_upper pins s σ H _ _ v us Q I rx rs ⟨z, rfl, rfl, hz, res.val so rfl⟩
      · exact res.elim
    · exact res.elim
  | split =>
    simp only [mtD] at res
    split at res
    · rename_i a b
      obtain ⟨w, rfl, hw⟩ := dr.one'
      cases h1
      cases hw
      split at res
      · rename_i hz
        refine mt_split pins s σ H _ _ v us Q I rx rs ⟨a, b, rfl, rfl, hz.1, hz.2, fun p hp => ?_⟩
        exact res.newC so hp ⟨_, upd_same, strs_dr _ _ _⟩
      · exact res.elim
    · exact res.elim
  | partition =>
    simp only [mtD] at res
    split at res
    · rename_i a b
      obtain ⟨w, rfl, hw⟩ := dr.one'
      cases h1
      cases hw
      split at res
      · rename_i hz
        refine mt_partition pins s σ H _ _ v us Q I rx rs ⟨a, b, rfl, rfl, hz.1, hz.2, fun p hp => ?_⟩
        exact res.newT so (ds := [.str (Txt.partition a b).1, .str (Txt.partition a b).2.1, .str (Txt.partition a b).2.2]) (vs := [.str (Txt.partition a b).1, .str (Txt.partition a b).2.1, .str (Txt.partition a b).2.2]) ⟨_, _, rfl, rfl, _, _, rfl, rfl, _, _, rfl, rfl, rfl⟩ hp
      · exact res.elim
    · exact res.elim
  | get =>
    simp only [mtD] at res
    split at res
    · rename_i ks es k
      obtain ⟨w, rfl, hw⟩ := dr.one'
      obtain ⟨a, o, vs, rfl, e, ek, dr2⟩ := h1
      have kr := KR.zip ek dr2
      split at res
      · rename_i k' hk
        have e1 := keyOf_kV hk hw
        subst e1
        cases rx
        obtain ⟨u, rfl, ru⟩ := vals1' rs
        refine d_get1 un1 I (.inl ⟨vs, k', .inr ⟨o, e⟩, rfl, rfl⟩) ru fun w' s' I' rw' => ⟨_, H, I', rw', ?_⟩
        rcases valV_lookK k' kr with ⟨e1, e2⟩ | ⟨d', w, e1, e2, e3⟩
        · rw [e1] at res; rw [e2]; exact res.val so rfl
        · rw [e1] at res; rw [e2]; exact res.val so e3
      · exact res.elim
    · rename_i ks es k dd
      obtain ⟨w, w2, rfl, hw, hw2⟩ := dr.two
      obtain ⟨a, o, vs, rfl, e, ek, dr2⟩ := h1
      have kr := KR.zip ek dr2
      split at res
      · rename_i k' hk
        have e1 := keyOf_kV hk hw
        subst e1
        cases rx
        obtain ⟨u, u2, rfl, ru, ru2⟩ := vals2 rs
        refine d_get2 un1 I (.inl ⟨vs, k', .inr ⟨o, e⟩, rfl, rfl⟩) ru ru2 fun w' s' I' rw' => ⟨_, H, I', rw', ?_⟩
        rcases valV_lookK k' kr with ⟨e1, e2⟩ | ⟨d', w, e1, e2, e3⟩
        · rw [e1] at res; rw [e2]; exact res.val so hw2
        · rw [e1] at res; rw [e2]; exact res.val so e3
      · exact res.elim
    · rename_i n k
      obtain ⟨w, rfl, hw⟩ := dr.one'
      obtain ⟨a, ea, rfl⟩ := h1
      split at res
      · rename_i kvs k' hc hk
        obtain ⟨vs, e, kr⟩ := so.ok _ _ _ ea hc
        have e1 := keyOf_kV hk hw
        subst e1
        cases rx
        obtain ⟨u, rfl, ru⟩ := vals1' rs
        refine d_get1 un1 I (DGet.k (k := k') e) ru fun w' s' I' rw' => ⟨_, H, I', rw', ?_⟩
        rcases valV_lookK k' kr with ⟨e1, e2⟩ | ⟨d', w, e1, e2, e3⟩
        · rw [e1] at res; rw [e2]; exact res.val so rfl
        · rw [e1] at res; rw [e2]; exact res.val so e3
      · exact res.elim
    · rename_i n k dd
      obtain ⟨w, w2, rfl, hw, hw2⟩ := dr.two
      obtain ⟨a, ea, rfl⟩ := h1
      split at res
      · rename_i kvs k' hc hk
        obtain ⟨vs, e, kr⟩ := so.ok _ _ _ ea hc
        have e1 := keyOf_kV hk hw
        subst e1
        cases rx
        obtain ⟨u, u2, rfl, ru, ru2⟩ := vals2 rs
        refine d_get2 un1 I (DGet.k (k := k') e) ru ru2 fun w' s' I' rw' => ⟨_, H, I', rw', ?_⟩
        rcases valV_lookK k' kr with ⟨e1, e2⟩ | ⟨d', w, e1, e2, e3⟩
        · rw [e1] at res; rw [e2]; exact res.val so hw2
        · rw [e1] at res; rw [e2]; exact res.val so e3
      · exact res.elim
    · exact res.elim
  | _ => exact res.elim
/-- methods that are served -/
def mtHas : Mt → Bool
  | .append | .pop | .insert | .extend | .join | .upper | .split | .partition | .get | .clear => true
  | _ => false
def mtName : Mt → Str
  | .clear => "clear" | .append => "append" | .pop => "pop" | .insert => "insert" | .extend => "extend" | .join => "join" | .upper => "upper" | .split => "split" | .partition => "partition" | .get => "get" | _ => ""
theorem mt_pa : ∀ m, mtHas m = true → PlainAttrs (mtT m) := by
  intro m h
  cases m <;> first
    | exact PySem.F.plainAttrs_list
    | exact PySem.F.plainAttrs_str
    | exact PySem.F.plainAttrs_dict
    | cases h
theorem mt_slot : ∀ m, mtHas m = true → Slot (mtT m) (mtName m) (mtId m) ∧ typeOf (.builtin (mtId m)) = pure (.type "method_descriptor") := by
  intro m h
  cases m with
  | append => exact ⟨PySem.F.slot_list_append, PySem.F.type_list_append⟩
  | pop => exact ⟨PySem.F.slot_list_pop, PySem.F.type_list_pop⟩
  | insert => exact ⟨PySem.F.slot_list_insert, PySem.F.type_list_insert⟩
  | extend => exact ⟨PySem.F.slot_list_extend, PySem.F.type_list_extend⟩
  | join => exact ⟨PySem.F.slot_str_join, PySem.F.type_str_join⟩
  | upper => exact ⟨PySem.F.slot_str_upper, PySem.F.type_str_upper⟩
  | split => exact ⟨PySem.F.slot_str_split, PySem.F.type_str_split⟩
  | partition => exact ⟨PySem.F.slot_str_partition, PySem.F.type_str_partition⟩
  | get => exact ⟨PySem.F.slot_dict_get, PySem.F.type_dict_get⟩
  | clear => exact ⟨PySem.F.slot_list_clear, PySem.F.type_list_clear⟩
  | _ => cases h
theorem mt_ty {K : PySem.W.Frag} {ι : List Addr} {H : Hp} {S : Store} {m : Mt} {d : D} {v : V} (so : Sok K ι H S) (h : mtTy m d S = true) (r : DR K ι H d v) : tyV K (mtT m) v H := by
  have lst : ∀ n, d = .ref n → (lstAt S (.ref n)).isSome = true → tyV K "list" v H := by
    rintro n rfl e
    obtain ⟨ds, hd⟩ := Option.isSome_iff_exists.mp e
    obtain ⟨a, vs, ea, sq, _⟩ := lstAt_at so hd
    obtain ⟨b, eb, rfl⟩ := r
    rw [ea] at eb; cases eb
    exact .inl ⟨rfl, vs, sq⟩
  cases m with
  | join => cases d with
    | str z => cases r; exact rfl
    | _ => cases h
  | upper => cases d with
    | str z => cases r; exact rfl
    | _ => cases h
  | split => cases d with
    | str z => cases r; exact rfl
    | _ => cases h
  | partition => cases d with
    | str z => cases r; exact rfl
    | _ => cases h
  | get => cases d with
    | ref n =>
      obtain ⟨b, eb, rfl⟩ := r
      simp only [mtTy] at h
      split at h
      · rename_i kvs hc
        obtain ⟨vs, e, _⟩ := so.ok _ _ _ eb hc
        exact .inr (.inr (.inl ⟨rfl, .inl ⟨vs, e⟩⟩))
      · cases h
    | _ => cases h
  | clear => cases d with
    | ref n => exact lst n rfl h
    | _ => cases h
  | append => cases d with
    | ref n => exact lst n rfl h
    | _ => cases h
  | pop => cases d with
    | ref n => exact lst n rfl h
    | _ => cases h
  | insert => cases d with
    | ref n => exact lst n rfl h
    | _ => cases h
  | extend => cases d with
    | ref n => exact lst n rfl h
    | _ => cases h
  | _ => cases d <;> cases h
theorem set_ok (c : Cg X) {pins : List (Addr × Obj)} {s : Shared} {σ : St} {H : Hp} {o i v : V} {ov iv u : Value} {Q : Hp → Prop} {ι : List Addr} {S S' : Store} {d k e : D} (I : Inv X pins σ H s) (ro : RelV o ov) (ri : RelV i iv) (rv : RelV v u)
    (so : Sok X.K ι H S) (h1 : DR X.K ι H d o) (h2 : DR X.K ι H k i) (h3 : DR X.K ι H e v) (hs : subD d k e S = some S') (q : ∀ H', Xt H H' → Sok X.K ι H' S' → Q H') :
    wpAny (model X.prog X.w) X.A (setItem ov iv u) (fun _ s' => ∃ H', Inv X pins σ H' s' ∧ Q H') X.xe s := by
  have un1 : X.A.units + 1 < cLine := by have := c.un; omega
  cases d with
  | ref n =>
    obtain ⟨a, ea, rfl⟩ := h1
    simp only [subD] at hs
    split at hs
    · rename_i ds j hc
      cases h2
      obtain ⟨m, hm, rfl⟩ := Option.map_eq_some_iff.mp hs
      obtain ⟨vs, e, dr⟩ := so.ok _ _ _ ea hc
      obtain ⟨s2, x⟩ := so.put (o := .lst (vs.set m v)) (c' := .lst (ds.set m _)) ea hc rfl fun x => ⟨_, upd_same, (dr.set m h3).mono (List.prefix_refl ι) x⟩
      exact set_list pins s σ H _ _ v ov iv u Q I ro ri rv ⟨a, vs, j, m, rfl, rfl, e, by rw [dr.length]; exact hm, q _ x s2⟩
    · rename_i kvs hc
      split at hs
      · rename_i k' hk
        split at hs
        · rename_i hz
          cases hs
          obtain ⟨vs, e, kr⟩ := so.ok _ _ _ ea hc
          have e1 := keyOf_kV hk h2
          subst e1
          cases ro
          obtain ⟨s2, x⟩ := so.put (o := .dK (putK vs k' v)) (c' := .dK (putD kvs k' _)) ea hc rfl fun x => ⟨_, upd_same, (kr.put k' h3).mono (List.prefix_refl ι) x⟩
          exact d_setItem un1 I (DPut.k e (by rw [KR.length kr]; exact hz)) ri rv fun s' I' => ⟨_, I', q _ x s2⟩
        · cases hs
      · cases hs
    · rename_i kvs hc
      split at hs
      · rename_i k' hk
        split at hs
        · rename_i hz
          cases hs
          obtain ⟨vs, e, kr⟩ := so.ok _ _ _ ea hc
          obtain ⟨q0, rfl, hq⟩ := keysT_tup hk h2
          cases ro
          obtain ⟨s2, x⟩ := so.put (o := .dT (putK vs k' v)) (c' := .dT (putD kvs k' _)) ea hc rfl fun x => ⟨_, upd_same, (kr.put k' h3).mono (List.prefix_refl ι) x⟩
          exact d_setItem un1 I (DPut.t e hq (by rw [KR.length kr]; exact hz)) ri rv fun s' I' => ⟨_, I', q _ x s2⟩
        · cases hs
      · cases hs
    · cases hs
  | _ => cases hs
end
end Mi
namespace Mi
open PySem L2
/-- what is wished of an exception that leaves -/
def WX0 (K : PySem.W.Frag) (W : WT) : XK := fun cls d H => ∃ x C o, ClsN K x C ∧ cls = .ref C ∧ XD H d o ∧ W x o H
def ResX (K : PySem.W.Frag) (ι : List Addr) (H : Hp) (r : R D) (Q : VK) (W : WT) : Prop := match r with
  | .ok d S' => ∀ ι' H' v, ι <+: ι' → Xt H H' → Sok K ι' H' S' → DR K ι' H' d v → Q v H'
  | .exc x S' => ∀ ι' H' o, ι <+: ι' → Xt H H' → Sok K ι' H' S' → XF K ι' H' x.fld o → W x.cls o H'
  | .bad => False
theorem Res.x {K : PySem.W.Frag} {ι : List Addr} {H : Hp} {r : R D} {Q : VK} {W : WT} (h : Res K ι H r Q) : ResX K ι H r Q W := by
  cases r with
  | ok d S' => exact h
  | exc x S' => exact h.elim
  | bad => exact h
structure FnG (P : Program) (w : World) (K : PySem.W.Frag) (mg : Str → Option Value) (base : Heap) (k : Nat) (f : Addr) (fd : FuncData) (ps : List Str) (F : List D → Store → R D) : Prop where
  run : ∀ (A : Around) (outer : List Env) (s : Shared) (H : Hp) (args : Args) (us : List Value) (vs : List V) (Q : VK) (W : WT), Room (2 * k + 2) A → A.guards = some [] → Env0 P w K mg base A outer s H →
    BindsTo s fd args (ps.zip us) → Vals vs us → vs.length = ps.length →
    (∃ ι S ds, Sok K ι H S ∧ DRs K ι H ds vs ∧ ResX K ι H (F ds S) Q W) →
    codeAny (model P w) A (.call (.ref f) args) (CR (L2.CX P w) outer P w H s Q (WX0 K W)) s
/-- what a call needs of a def -/
structure FnAt (X : Cx) (k : Nat) (x : Str) (F : List D → Store → R D) : Prop where
  ex : ∃ f fd ps, X.mg x = some (.ref f) ∧ PySem.W.keepIn X.K (.ref f) = true ∧ FnG X.prog X.w X.K X.mg X.base k f fd ps F ∧ Binds X.K fd ps [] ∧ ∀ ds S, ds.length ≠ ps.length → F ds S = .bad
section
variable {X : Cx} {k : Nat} {x : Str} {F : List D → Store → R D}
theorem run_g {f : Addr} {fd : FuncData} {ps : List Str} (G : FnG X.prog X.w X.K X.mg X.base k f fd ps F) (hr : Room (2 * k + 2) X.A) (hg : X.A.guards = some []) (hb : Binds X.K fd ps []) (har : ∀ ds S, ds.length ≠ ps.length → F ds S = .bad)
    {pins : List (Addr × Obj)} {σ : St} {H : Hp} {s : Shared} {Q : VK} {us : List Value} {vs : List V} (I : Inv X pins σ H s) (r : Vals vs us) (h : RC X.K F vs H Q) :
    wpAny (model X.prog X.w) X.A (call (.ref f) us) (EP X pins σ Q) X.xe s := by
  obtain ⟨ι, S, ds, so, dr, res⟩ := h
  have hl : ds.length = ps.length := Classical.byContradiction fun z => by
    rw [har ds S z] at res
    exact res.elim
  have hv : vs.length = ps.length := by rw [dr.length]; exact hl
  have hu : (us ++ ([] : List Value)).length = ps.length := by rw [List.append_nil, ← r.length]; exact hv
  have bd := hb s us I.kIn hu
  rw [List.append_nil] at bd
  refine wpAny_call (codeAny_mono (G.run X.A X.stack s H ⟨us, []⟩ us vs Q (fun _ _ _ => False) hr hg I.env0 bd r hv ⟨ι, S, ds, so, dr, res.x⟩) fun r s' hq => ?_)
  cases r with
  | error e =>
    obtain ⟨_, _, _, _, _, _, _, _, _, _, _, _, _, _, _, _, _, _, no⟩ := (show L2.CX X.prog X.w X.stack H s (WX0 X.K fun _ _ _ => False) e s' from hq)
    exact no.elim
  | ok fl =>
    cases fl with
    | ret u => exact I.after hq
    | next => exact False.elim hq
    | brk => exact False.elim hq
    | cont => exact False.elim hq
variable {p pos : Pos} {e : Expr} {es : List Expr} {t : TA}
theorem pe_callG (G : FnAt X k x F) (hr : Room (2 * k + 2) X.A) (hg : X.A.guards = some []) (gl : L2.Gl X x) (hdb : (x == ("__debug__" : Str)) = false) (ha : PA X (e :: es) t)
    (he : starEach (e :: es) X.env = (false, eval e X.env) :: starEach es X.env) (hpl : (backTo pos (starEach es X.env)).any (·.1) = false) : PE X (.Call (.Name x p) (e :: es) [] pos) (tCB (RC X.K F) t) := by
  obtain ⟨f, fd, ps, hm, hk, G, hb, har⟩ := G.ex
  refine ⟨fun pins s σ H Q I h => ?_⟩
  refine wpAny_Call_Name_kw (ld_glob I gl hm ?_ hdb)
  refine PySem.W.callWith_K (h₀ := X.base) I.ok.mod.kin hk (thn (ha.run pos pins s σ H _ I h) fun us s1 ⟨vs, H1, I1, r, q⟩ => ⟨I1.kIn, ?_⟩) he hpl
  exact run_g G hr hg hb har I1 r q
/-- a call that may raise -/
def RXC (K : PySem.W.Frag) (F : List D → Store → R D) (W : WT) : List V → Hp → VK → Prop := fun vs H Q => ∃ ι S ds, Sok K ι H S ∧ DRs K ι H ds vs ∧ ResX K ι H (F ds S) Q W
abbrev WXs (K : PySem.W.Frag) (W : St → WT) : L2.WX := fun cls d σ H => WX0 K (W σ) cls d H
theorem run_x {f : Addr} {fd : FuncData} {ps : List Str} {Wf : WT} {W' : L2.WX} (tk : L2.Takes X W') (G : FnG X.prog X.w X.K X.mg X.base k f fd ps F) (hr : Room (2 * k + 2) X.A) (hg : X.A.guards = some []) (hb : Binds X.K fd ps []) (har : ∀ ds S, ds.length ≠ ps.length → F ds S = .bad)
    {pins : List (Addr × Obj)} {σ : St} {H : Hp} {s : Shared} {Q : VK} {us : List Value} {vs : List V} (hW : ∀ x C o d H2, ClsN X.K x C → XD H2 d o → Wf x o H2 → W' (.ref C) d σ H2) (I : Inv X pins σ H s) (r : Vals vs us) (h : RXC X.K F Wf vs H Q) :
    wpAny (model X.prog X.w) X.A (call (.ref f) us) (EP X pins σ Q) X.xe s := by
  obtain ⟨ι, S, ds, so, dr, res⟩ := h
  have hl : ds.length = ps.length := Classical.byContradiction fun z => by
    rw [har ds S z] at res
    exact res.elim
  have hv : vs.length = ps.length := by rw [dr.length]; exact hl
  have bd := hb s us I.kIn (by rw [List.append_nil, ← r.length]; exact hv)
  rw [List.append_nil] at bd
  refine wpAny_call (codeAny_mono (G.run X.A X.stack s H ⟨us, []⟩ us vs Q Wf hr hg I.env0 bd r hv ⟨ι, S, ds, so, dr, res⟩) fun q s' hq => ?_)
  cases q with
  | error e => exact tk _ _ (L2.XE.of_call I (fun cls d H' ⟨x, C, o, hC, e1, e2, w⟩ => by subst e1; exact hW x C o d H' hC e2 w) hq)
  | ok fl =>
    cases fl with
    | ret u => exact I.after hq
    | next => exact hq.elim
    | brk => exact hq.elim
    | cont => exact hq.elim
theorem pe_callX {Wf : St → WT} {W' : L2.WX} (tk : L2.Takes X W') (hW : ∀ σ x C o d H2, ClsN X.K x C → XD H2 d o → Wf σ x o H2 → W' (.ref C) d σ H2) (G : FnAt X k x F) (hr : Room (2 * k + 2) X.A) (hg : X.A.guards = some []) (gl : L2.Gl X x) (hdb : (x == ("__debug__" : Str)) = false) (ha : PA X (e :: es) t)
    (he : starEach (e :: es) X.env = (false, eval e X.env) :: starEach es X.env) (hpl : (backTo pos (starEach es X.env)).any (·.1) = false) : PE X (.Call (.Name x p) (e :: es) [] pos) (fun σ H Q => t σ H fun vs H1 => RXC X.K F (Wf σ) vs H1 Q) := by
  obtain ⟨f, fd, ps, hm, hk, G, hb, har⟩ := G.ex
  refine ⟨fun pins s σ H Q I h => ?_⟩
  refine wpAny_Call_Name_kw (ld_glob I gl hm ?_ hdb)
  exact PySem.W.callWith_K (h₀ := X.base) I.ok.mod.kin hk (thn (ha.run pos pins s σ H _ I h) fun us s1 ⟨vs, H1, I1, r, q⟩ => ⟨I1.kIn, run_x tk G hr hg hb har (hW σ) I1 r q⟩) he hpl
theorem pe_callG0 (G : FnAt X k x F) (hr : Room (2 * k + 2) X.A) (hg : X.A.guards = some []) (gl : L2.Gl X x) (hdb : (x == ("__debug__" : Str)) = false) : PE X (.Call (.Name x p) [] [] pos) (tCB (RC X.K F) tNil) := by
  obtain ⟨f, fd, ps, hm, hk, G, hb, har⟩ := G.ex
  refine ⟨fun pins s σ H Q I h => ?_⟩
  refine wpAny_Call_Name_kw (ld_glob I gl hm ?_ hdb)
  exact PySem.W.callWith_K0 I.kIn hk (run_g (us := []) G hr hg hb har I .nil h)
end
def Lok (K : PySem.W.Frag) (ι : List Addr) (H : Hp) (L : Lcs) (σ : St) : Prop := L.length = σ.length ∧ ∀ (i : Nat) (d : D), L[i]? = some (some d) → ∃ v, σ[i]? = some (some v) ∧ DR K ι H d v
section
variable {K : PySem.W.Frag} {ι ι' : List Addr} {H H' : Hp} {L : Lcs} {σ : St}
theorem Lok.mono (h : Lok K ι H L σ) (p : ι <+: ι') (x : Xt H H') : Lok K ι' H' L σ := ⟨h.1, fun i d e => by
  obtain ⟨v, a, b⟩ := h.2 i d e
  exact ⟨v, a, b.mono p x d⟩⟩
theorem Lok.set (h : Lok K ι H L σ) (i : Nat) {d : D} {v : V} (r : DR K ι H d v) : Lok K ι H (L.set i (some d)) (σ.set i (some v)) := by
  refine ⟨by simp [h.1], fun j e hj => ?_⟩
  rw [List.getElem?_set] at hj ⊢
  by_cases hi : i = j
  · subst hi
    rw [if_pos rfl] at hj ⊢
    by_cases hl : i < L.length
    · rw [if_pos hl] at hj
      cases hj
      rw [if_pos (by rw [← h.1]; exact hl)]
      exact ⟨v, rfl, r⟩
    · rw [if_neg hl] at hj; cases hj
  · rw [if_neg hi] at hj ⊢
    exact h.2 j e hj
theorem Lok.wipe (h : Lok K ι H L σ) : ∀ vs : List Nat, Lok K ι H (wipeL L vs) (L2.wipe σ vs)
  | [] => h
  | v :: vs => by
    have ih := Lok.wipe h vs
    show Lok K ι H ((wipeL L vs).set v none) ((L2.wipe σ vs).set v none)
    refine ⟨by simp [ih.1], fun j e hj => ?_⟩
    rw [List.getElem?_set] at hj ⊢
    by_cases hi : v = j
    · subst hi
      rw [if_pos rfl] at hj
      split at hj <;> cases hj
    · rw [if_neg hi] at hj ⊢
      exact ih.2 j e hj
theorem Lok.start {N : List Str} {ds : List D} {vs : List V} (h : DRs K ι H ds vs) {n : Nat} (hn : n = N.length - ds.length) : Lok K ι H (ds.map some ++ List.replicate n none) (L2.start N vs) := by
  unfold L2.start
  subst hn
  refine ⟨by simp [h.length], fun i d e => ?_⟩
  rw [List.getElem?_append] at e ⊢
  simp only [List.length_map] at e ⊢
  rw [h.length]
  by_cases hi : i < ds.length
  · rw [if_pos hi] at e ⊢
    rw [List.getElem?_map] at e ⊢
    obtain ⟨d', e1, e2⟩ := Option.map_eq_some_iff.mp e
    cases e2
    obtain ⟨v, a, b⟩ := h.get e1
    exact ⟨v, by rw [a]; rfl, b⟩
  · rw [if_neg hi, List.getElem?_replicate] at e
    split at e <;> cases e
end
def TEc (G : Gv) (K : PySem.W.Frag) (c : CE) : TE := fun σ H Q => ∃ ι S L, Sok K ι H S ∧ Lok K ι H L σ ∧ Res K ι H (evE G c L S) Q
def TTc (G : Gv) (K : PySem.W.Frag) (c : CE) : TT := fun σ H Q => ∃ ι S L, Sok K ι H S ∧ Lok K ι H L σ ∧ Res K ι H (evE G c L S) fun v H' => ∃ b, v = .bl b ∧ Q b H'
def ResA (K : PySem.W.Frag) (ι : List Addr) (H : Hp) (r : R (List D)) (Q : List V → Hp → Prop) : Prop := match r with
  | .ok ds S' => ∀ ι' H' vs, ι <+: ι' → Xt H H' → Sok K ι' H' S' → DRs K ι' H' ds vs → Q vs H'
  | _ => False
def TAc (G : Gv) (K : PySem.W.Frag) (as : CA) : TA := fun σ H Q => ∃ ι S L, Sok K ι H S ∧ Lok K ι H L σ ∧ ResA K ι H (evA G as L S) Q
theorem ResA.mono {K : PySem.W.Frag} {ι ι1 : List Addr} {H H1 : Hp} {r : R (List D)} {Q : List V → Hp → Prop} (h : ResA K ι H r Q) (p : ι <+: ι1) (x : Xt H H1) : ResA K ι1 H1 r Q := by
  cases r with
  | ok d S' => exact fun ι' H' v a b c e => h ι' H' v (p.trans a) (x.trans b) c e
  | exc _ _ => exact h
  | bad => exact h
theorem ResA.step {α : Type} {K : PySem.W.Frag} {ι : List Addr} {H : Hp} {r : R α} {f : α → Store → R (List D)} {Q : List V → Hp → Prop} (h : ResA K ι H (r.bind f) Q) : ∃ d S1, r = .ok d S1 ∧ ResA K ι H (f d S1) Q := by
  cases r with
  | ok d S' => exact ⟨d, S', rfl, h⟩
  | exc _ _ => exact h.elim
  | bad => exact h.elim
theorem _root_.L2.PE.imp {X : Cx} {e : Expr} {t t' : TE} (h : PE X e t) (i : ∀ σ H Q, t' σ H Q → t σ H Q) : PE X e t' := ⟨fun pins s σ H Q I q => h.run pins s σ H Q I (i σ H Q q)⟩
theorem _root_.L2.PT.imp {X : Cx} {e : Expr} {t t' : TT} (h : PT X e t) (i : ∀ σ H Q, t' σ H Q → t σ H Q) : PT X e t' := ⟨fun pins s σ H Q I q => h.run pins s σ H Q I (i σ H Q q)⟩
theorem _root_.L2.PW.imp {X : Cx} {e : Expr} {t t' : TT} (h : PW X e t) (i : ∀ σ H Q, t' σ H Q → t σ H Q) : PW X e t' := ⟨fun wh pins s σ H Q I q => h.run wh pins s σ H Q I (i σ H Q q)⟩
theorem _root_.L2.PA.imp {X : Cx} {es : List Expr} {t t' : TA} (h : PA X es t) (i : ∀ σ H Q, t' σ H Q → t σ H Q) : PA X es t' := ⟨fun pos pins s σ H Q I q => h.run pos pins s σ H Q I (i σ H Q q)⟩
theorem _root_.L2.PS.imp {X : Cx} {e : Stmt} {t t' : TS} (h : PS X e t) (i : ∀ D σ H, t' D σ H → t D σ H) : PS X e t' := ⟨fun pins s σ H D I q => h.run pins s σ H D I (i D σ H q)⟩
theorem _root_.L2.PSs.imp {X : Cx} {e : List Stmt} {t t' : TS} (h : PSs X e t) (i : ∀ D σ H, t' D σ H → t D σ H) : PSs X e t' := ⟨fun pins s σ H D I q => h.run pins s σ H D I (i D σ H q)⟩
section
variable {G : Gv} {K : PySem.W.Frag} {ι : List Addr} {H : Hp} {S : Store} {L : Lcs} {σ : St} {c : CE}
/-- a value is there: whatever comes behind -/
theorem TEc.of {d : D} {S1 : Store} {Q : VK} (so : Sok K ι H S) (lo : Lok K ι H L σ) (e : evE G c L S = .ok d S1) (q : ∀ ι' H' v, ι <+: ι' → Xt H H' → Sok K ι' H' S1 → DR K ι' H' d v → Q v H') : TEc G K c σ H Q :=
  ⟨ι, S, L, so, lo, by rw [e]; exact q⟩
theorem TAc.of {as : CA} {ds : List D} {S1 : Store} {Q : List V → Hp → Prop} (so : Sok K ι H S) (lo : Lok K ι H L σ) (e : evA G as L S = .ok ds S1) (q : ∀ ι' H' v, ι <+: ι' → Xt H H' → Sok K ι' H' S1 → DRs K ι' H' ds v → Q v H') : TAc G K as σ H Q :=
  ⟨ι, S, L, so, lo, by rw [e]; exact q⟩
theorem TTc.of {b : Bool} {S1 : Store} {Q : Bool → Hp → Prop} (so : Sok K ι H S) (lo : Lok K ι H L σ) (e : evE G c L S = .ok (.bl b) S1) (q : ∀ ι' H', ι <+: ι' → Xt H H' → Sok K ι' H' S1 → Q b H') : TTc G K c σ H Q :=
  ⟨ι, S, L, so, lo, by rw [e]; exact fun ι' H' v p x s r => ⟨b, r, q ι' H' p x s⟩⟩
theorem ifB_res {d : D} {x y : R D} {Q : VK} (h : Res K ι H (ifB d x y) Q) : ∃ b, d = .bl b ∧ Res K ι H (if b = true then x else y) Q := by
  cases d with
  | bl b => exact ⟨b, rfl, h⟩
  | _ => exact h.elim
end
mutual
def CT.ixs : CT → List Nat
  | .nm i => [i]
  | .tp ts => CT.ixss ts
def CT.ixss : List CT → List Nat
  | [] => []
  | t :: ts => CT.ixs t ++ CT.ixss ts
end
/-- nothing but these places is written -/
def Sm (is : List Nat) (σ σ' : St) : Prop := σ'.length = σ.length ∧ ∀ i : Nat, i ∉ is → σ'[i]? = σ[i]?
theorem Sm.refl (is : List Nat) (σ : St) : Sm is σ σ := ⟨rfl, fun _ _ => rfl⟩
theorem Sm.set (σ : St) (i : Nat) (v : Option V) : Sm [i] σ (σ.set i v) := ⟨by simp, fun j hj => by rw [List.getElem?_set_ne (by intro e; subst e; simp at hj)]⟩
theorem Sm.trans {a b : List Nat} {σ σ1 σ2 : St} (h : Sm a σ σ1) (g : Sm b σ1 σ2) : Sm (a ++ b) σ σ2 := ⟨g.1.trans h.1, fun i hi => by
  rw [List.mem_append, not_or] at hi
  rw [g.2 i hi.2, h.2 i hi.1]⟩
theorem wipe_get (σ : St) : ∀ (vs : List Nat) (i : Nat), (L2.wipe σ vs)[i]? = if i ∈ vs then σ[i]?.map fun _ => none else σ[i]?
  | [], i => by simp [L2.wipe]
  | v :: vs, i => by
    show ((L2.wipe σ vs).set v none)[i]? = _
    rw [List.getElem?_set]
    have len := L2.wipe_length σ vs
    by_cases hi : v = i
    · subst hi
      rw [if_pos rfl, len, if_pos (List.mem_cons_self (a := v) (l := vs))]
      by_cases hl : v < σ.length
      · rw [if_pos hl, List.getElem?_eq_getElem hl] <;> rfl
      · rw [if_neg hl, List.getElem?_eq_none (by omega)] <;> rfl
    · rw [if_neg hi, wipe_get σ vs i]
      by_cases hm : i ∈ vs
      · rw [if_pos hm, if_pos (List.mem_cons_of_mem _ hm)]
      · rw [if_neg hm, if_neg (by simp [hm, Ne.symm hi])]
theorem Sm.wipe {is vs : List Nat} {σ σ' : St} (h : Sm is (L2.wipe σ vs) σ') (sub : ∀ i ∈ is, i ∈ vs) : L2.wipe σ' vs = L2.wipe σ vs := by
  refine List.ext_getElem? fun i => ?_
  have hl := h.1
  rw [L2.wipe_length] at hl
  rw [wipe_get, wipe_get]
  by_cases hm : i ∈ vs
  · rw [if_pos hm, if_pos hm]
    by_cases hi : i < σ.length
    · rw [List.getElem?_eq_getElem hi, List.getElem?_eq_getElem (by omega)] <;> rfl
    · rw [List.getElem?_eq_none (by omega), List.getElem?_eq_none (by omega)]
  · rw [if_neg hm, if_neg hm, h.2 i fun z => hm (sub i z), wipe_get, if_neg hm]
def TGc (K : PySem.W.Frag) (t : CT) : TG := fun v σ H Q => ∃ ι S L d L', Sok K ι H S ∧ Lok K ι H L σ ∧ DR K ι H d v ∧ asgT t d S L = some L' ∧ ∀ σ', Lok K ι H L' σ' → Sm t.ixs σ σ' → Q σ' H
def TGsc (K : PySem.W.Frag) (ts : List CT) : TGs := fun vs σ H Q => ∃ ι S L ds L', Sok K ι H S ∧ Lok K ι H L σ ∧ DRs K ι H ds vs ∧ asgTs ts ds S L = some L' ∧ ds.length = ts.length ∧ ∀ σ', Lok K ι H L' σ' → Sm (CT.ixss ts) σ σ' → Q σ' H
/-- the place of a name -/
def ixOf (N : List Str) (x : Str) : Option Nat := N.findIdx? (fun y => decide (y = x))
theorem ixOf_get {N : List Str} {x : Str} {i : Nat} (h : ixOf N x = some i) : N[i]? = some x := by
  unfold ixOf at h
  obtain ⟨hi, e, _⟩ := List.findIdx?_eq_some_iff_getElem.mp h
  rw [List.getElem?_eq_getElem hi, of_decide_eq_true e]
/-- targets: names and tuples of targets -/
def erT (N : List Str) (sc : Scope) (tc : Str → Bool) : Nat → Expr → Option CT
  | 0, _ => none
  | n + 1, e => match e with
    | .Name x _ => match sc.names.lookup x with
      | some .local => (ixOf N x).map .nm
      | some .cell => if tc x then (ixOf N x).map .nm else none
      | _ => none
    | .Tuple es _ _ => (allSome (es.map (erT N sc tc n))).map .tp
    | _ => none
section
variable {X : Cx}
theorem assign_len (es : List Expr) (env : Env) : (assignEach es env).length = es.length := by
  induction es with
  | nil => rfl
  | cons e es ih => cases e <;> (unfold assignEach; simp [ih])
theorem er_tgt (hc : X.calm = true) (nd : X.N.Nodup) {sc : Scope} (hsc : X.env.scope = sc) {tc : Str → Bool} (hf : ∀ x, tc x = true → X.fn x = true) : ∀ (n : Nat) (e : Expr) (t : CT), erT X.N sc tc n e = some t → PG X e (TGc X.K t) := by
  intro n
  induction n with
  | zero => intro e t h; cases h
  | succ n ih =>
    intro e t h
    have name : ∀ x i p, (sc.names.lookup x = some .local ∨ (sc.names.lookup x = some .cell ∧ tc x = true)) → ixOf X.N x = some i → PG X (.Name x p) (TGc X.K (.nm i)) := by
      intro x i p hx hi
      have hN := ixOf_get hi
      have loc : L2.Loc X.env.scope x := by
        rw [L2.Loc, hsc]
        rcases hx with hx | hx
        · exact .inl hx
        · exact .inr hx.1
      have hfn : X.fn x = true ∨ X.env.scope.names.lookup x = some .local := by
        rcases hx with hx | hx
        · exact .inr (by rw [hsc]; exact hx)
        · exact .inl (hf x hx.2)
      have g := pg_name (pos := p) nd hN loc hfn
      refine ⟨fun pins s σ H v u Q I r hw => g.run pins s σ H v u Q I r ?_⟩
      obtain ⟨ι, S, L, d, L', so, lo, dr, ha, q⟩ := hw
      simp only [asgT] at ha
      split at ha
      · cases ha
        exact q _ (lo.set i dr) (Sm.set σ i _)
      · cases ha
    have tup : ∀ es k p ts, allSome (es.map (erT X.N sc tc n)) = some ts → PG X (.Tuple es k p) (TGc X.K (.tp ts)) := by
      intro es k p ts hts
      have gs : ∀ (es : List Expr) (ts : List CT), allSome (es.map (erT X.N sc tc n)) = some ts → PGs X es (TGsc X.K ts) ∧ es.length = ts.length ∧ (assignEach es X.env).findIdx? (·.1) = none := by
        intro es
        induction es with
        | nil =>
          intro ts h
          cases h
          refine ⟨⟨fun pins s σ H vs us Q I r hw => pgs_nil.run pins s σ H vs us Q I r ?_⟩, rfl, rfl⟩
          obtain ⟨ι, S, L, ds, L', so, lo, dr, ha, hl, q⟩ := hw
          cases ds with
          | cons _ _ => cases hl
          | nil =>
            cases ha
            exact ⟨dr.nil_iff, q σ lo (Sm.refl _ σ)⟩
        | cons e es ihs =>
          intro ts h
          rw [List.map_cons] at h
          obtain ⟨t, ts', h1, h2, rfl⟩ := allSome_cons h
          obtain ⟨g2, l2, st⟩ := ihs ts' h2
          have g1 := ih e t h1
          have ns : ∀ (env : Env), assignEach (e :: es) env = (false, assign e env) :: assignEach es env := by
            intro env
            cases e <;> first
              | rfl
              | (cases n with
                | zero => cases h1
                | succ n => simp only [erT] at h1; cases h1)
          have g := pgs_cons g1 g2 (by rw [ns]; rfl)
          refine ⟨⟨fun pins s σ H vs us Q I r hw => g.run pins s σ H vs us Q I r ?_⟩, by simp [l2], by rw [ns, List.findIdx?_cons]; simp [st]⟩
          obtain ⟨ι, S, L, ds, L', so, lo, dr, ha, hl, q⟩ := hw
          cases ds with
          | nil => cases hl
          | cons d ds =>
            obtain ⟨v, vr, rfl, d1, d2⟩ := dr
            simp only [asgTs] at ha
            obtain ⟨L1, a1, a2⟩ := Option.bind_eq_some_iff.mp ha
            exact ⟨v, vr, rfl, ι, S, L, d, L1, so, lo, d1, a1, fun σ' lo' sm => ⟨ι, S, L1, ds, L', so, lo', d2, a2, by simpa using hl, fun σ'' lo'' sm' => q σ'' lo'' (sm.trans sm')⟩⟩
      obtain ⟨g, hl, st⟩ := gs es ts hts
      have gt := pg_tup (pos := p) (k := k) (n := ts.length) hc g (by rw [assign_len, hl]) st
      have gu := pg_unl (pos := p) (k := k) (n := ts.length) hc g (by rw [assign_len, hl]) st
      refine ⟨fun pins s σ H v u Q I r hw => ?_⟩
      obtain ⟨ι, S, L, d, L', so, lo, dr, ha, q⟩ := hw
      simp only [asgT] at ha
      split at ha
      · rename_i ds hs
        split at ha
        · rename_i hlen
          cases d with
          | tup es' =>
            cases hs
            obtain ⟨a, vs, rfl, sq, dr⟩ := dr
            exact gt.run pins s σ H _ u Q I r ⟨a, vs, rfl, sq.sq, by rw [dr.length]; exact hlen, ι, S, L, ds, L', so, lo, dr, ha, hlen, q⟩
          | kt es' =>
            cases hs
            obtain ⟨a, vs, rfl, sq, dr⟩ := dr
            exact gt.run pins s σ H _ u Q I r ⟨a, vs, rfl, sq.sq, by rw [dr.length]; exact hlen, ι, S, L, ds, L', so, lo, dr, ha, hlen, q⟩
          | pl es' =>
            cases hs
            obtain ⟨a, vs, rfl, sq, dr⟩ := dr
            exact gu.run pins s σ H _ u Q I r ⟨a, vs, rfl, sq.seq, by rw [dr.length]; exact hlen, ι, S, L, ds, L', so, lo, dr, ha, hlen, q⟩
          | ref m =>
            obtain ⟨a, vs, ea, sq, dr2⟩ := lstAt_at so (show lstAt S (.ref m) = some ds from hs)
            obtain ⟨b, eb, rfl⟩ := dr
            rw [ea] at eb; cases eb
            exact gu.run pins s σ H _ u Q I r ⟨a, vs, rfl, sq, by rw [dr2.length]; exact hlen, ι, S, L, ds, L', so, lo, dr2, ha, hlen, q⟩
          | _ => cases hs
        · cases ha
      · cases ha
    cases e with
    | Name x p =>
      simp only [erT] at h
      split at h
      · obtain ⟨i, hi, rfl⟩ := Option.map_eq_some_iff.mp h
        exact name x i p (.inl ‹_›) hi
      · split at h
        · obtain ⟨i, hi, rfl⟩ := Option.map_eq_some_iff.mp h
          exact name x i p (.inr ⟨‹_›, ‹_›⟩) hi
        · cases h
      · cases h
    | Tuple es k p =>
      simp only [erT] at h
      obtain ⟨ts, hts, rfl⟩ := Option.map_eq_some_iff.mp h
      exact tup es k p ts hts
    | _ => cases h
end
end Mi
namespace Mi
open PySem L2
theorem meets_enumB {v : Value} {o : Obj} {H : Heap → Prop} (B : Begins v o H) :
    Meets (Builtin.«enumerate.__new__» ⟨[.type "enumerate", v], []⟩) (fun _ R s => H s.heap ∧
      R (.ok (.ret (.ref (s.heap.push o).objs.size)))
        { s with heap := (s.heap.push o).push { cls := .type "enumerate", data := .fields #[.none, .bool false, .ref s.heap.objs.size, rawInt 0, .none, .none] } }) :=
  .of_wp fun prog w A R s h => by
    obtain ⟨hp, g, d, tk, os⟩ := s; obtain ⟨h1, h⟩ := h
    have hsub := sub_enumerate
    have q1 : ∀ {A' : Around} {E : Value → Shared → Prop} {Q : Value → Shared → Prop}, Q (.ref hp.objs.size) ⟨(hp.push o), g, d, tk, os⟩ → wpAny (model prog w) A' (pyIter v) Q E ⟨hp, g, d, tk, os⟩ :=
      fun q => B.iter prog w _ _ ⟨hp, g, d, tk, os⟩ _ (B.keeps _ _ h1 fun b o' e => e) q
    wp_walk using q1
    refine wpAny_stack_any fun st => wpAny_pure ?_
    split
    · rename_i c _ _ _ _ _
      cases (c == Value.type "enumerate")
      · wp_walk using q1
        exact ⟨_, rfl, h⟩
      · wp_walk using q1
        exact ⟨_, rfl, h⟩
    · wp_walk using q1
      exact ⟨_, rfl, h⟩
theorem call_enumB {prog : Program} {w : World} {A : Around} {E : Value → Shared → Prop} {s : Shared} {v : Value} {o : Obj} {H : Heap → Prop} (B : Begins v o H) {Q : Value → Shared → Prop} (hH : H s.heap)
    (h : ∀ h', IsEnum h' (s.heap.objs.size + 1) s.heap.objs.size 0 .none → h'.get? s.heap.objs.size = some o → h'.objs.size = s.heap.objs.size + 2 →
      (∀ b o, s.heap.get? b = some o → h'.get? b = some o) → Q (.ref (s.heap.objs.size + 1)) { s with heap := h' }) :
    wpAny (model prog w) A (call (.type "enumerate") [v]) Q E s := by
  refine callType_new F.called_enumerate (by decide) (F.typeCall_enumerate_1 _) (F.newCall_enumerate_1 _) (fun obj => F.args_object_init_2 obj _) F.entry_enumerate_new
    (meets_enumB B) ⟨hH, ?_⟩
  have hz : (s.heap.push o).objs.size = s.heap.objs.size + 1 := Heap.size_push ..
  show _ ∧ _
  rw [hz]
  have he : IsEnum ((s.heap.push o).push { cls := .type "enumerate", data := .fields #[.none, .bool false, .ref s.heap.objs.size, rawInt 0, .none, .none] }) (s.heap.objs.size + 1) s.heap.objs.size 0 .none := by
    have := Heap.get?_push_size (s.heap.push o) (o := { cls := .type "enumerate", data := .fields #[.none, .bool false, .ref s.heap.objs.size, rawInt 0, .none, .none] }) rfl
    rw [hz] at this; exact this
  refine ⟨⟨_, he, rfl⟩, h _ he (Heap.get?_push_of_some _ (Heap.get?_push_size _ B.free)) (by rw [Heap.size_push, hz]) fun b o x => Heap.get?_push_of_some _ (Heap.get?_push_of_some _ x)⟩
def IteT (K : PySem.W.Frag) (a : Addr) : It :=
  ⟨fun i H => ∃ (xs : List V) (x : V), SqT K H a xs ∧ xs[i]? = some x, fun i H v H' => ∃ T x, v = .ref T ∧ H T = none ∧ H' = upd H T (.tup [.int (i : Nat), x]) ∧ ∀ xs, SqT K H a xs → xs[i]? = some x, fun i H => ∃ xs : List V, SqT K H a xs ∧ xs.length ≤ i⟩
theorem turn_enumT {P : Program} {w : World} {K : PySem.W.Frag} {elts : List Expr} {kk : Nat} {tpos : Pos} (a e it : Addr) :
    L2.Turn P w K (.Tuple elts kk tpos) (IteT K a) [e, it] e (fun i h => (∃ old, IsEnum h e it ((i : Nat) : Int) old) ∧ h.IsTupleIter it a i ∧ e ≠ it ∧ a ≠ it ∧ e ≠ a) where
  mem := by simp
  obj := fun i h st b hb => by
    obtain ⟨⟨old, he⟩, ⟨o, ho, hc, hd⟩, _⟩ := st
    have e' : b = e ∨ b = it := by simpa using hb
    rcases e' with z | z
    · rw [z]; exact ⟨_, he, fun v q => nomatch q⟩
    · rw [z]; exact ⟨o, ho, fun v q => by rw [hd] at q; cases q⟩
  keep := fun i h h' st k => let ⟨⟨old, he⟩, hi, hne⟩ := st; ⟨⟨old, k e (by simp) _ he⟩, hi.at fun o q => k it (by simp) o q, hne⟩
  item := by
    intro X hP hw hK hc i pins s σ H E I hf st hg
    subst hP hw hK
    obtain ⟨⟨old, he⟩, hit, hne, hai, hea⟩ := st
    obtain ⟨xs, x, hq, hx⟩ := hg
    obtain ⟨its, rv, p, hz⟩ := I.tuple hq
    have hel : e < s.heap.objs.size := Heap.lt_size he
    have hil : it < s.heap.objs.size := by obtain ⟨_, q, _⟩ := hit; exact Heap.lt_size q
    have hlt : i < its.toArray.size := by
      have := (List.getElem?_eq_some_iff.mp hx).1
      rw [List.size_toArray, ← rv.length]; exact this
    refine wpAny_pyNext_enum_itemD (Draws.tuple (A := X.A.in1) (I.ok.hd hc) it a hai its.toArray) he ⟨hit, show s.heap.IsTuple a its.toArray from p⟩ hlt hne (by simp [hne, hea]) fun u h' tk hu ho hit' hT hsz hk => ?_
    obtain ⟨u', hu', ru⟩ := rv.get hx
    have eu : u' = u := by
      rw [List.getElem?_toArray] at hu
      rw [hu] at hu'
      exact (Option.some.inj hu').symm
    subst eu
    refine ⟨_, rfl, wpAny_letOwnedTupleGo_enum (s := { s with heap := h', toks := tk + 1 }) ho fun h'' he' sb => ?_⟩
    have hT2 : h''.get? s.heap.objs.size = some { cls := .type "tuple", data := .seq #[.int i tk, u'] } := (sb.2 _ (Nat.ne_of_gt hel)).trans hT
    have new : ObjOk X.prog X.w (upd H s.heap.objs.size (.tup [.int (i : Nat), x])) h'' s.heap.objs.size (.tup [.int (i : Nat), x]) :=
      ⟨by show 2 ≤ sizeLine; decide, [.int i tk, u'], .cons ⟨_, rfl⟩ (.cons ru .nil), ⟨_, hT2, rfl, _, rfl⟩⟩
    have I1 : Inv X pins σ (upd H s.heap.objs.size (.tup [.int (i : Nat), x])) { s with heap := h'', toks := tk + 1 } :=
      I.turnedNew (ch := [e, it]) (fun b ob hb q => (sb.2 b (fun z => hb (by simp [z]))).trans (hk b ob (fun z => hb (by simp [z])) (fun z => hb (by simp [z])) q)) hf (Nat.le_refl _) new
    refine ⟨.ref s.heap.objs.size, _, I1, rfl, ⟨_, x, rfl, I.hok.fresh (Nat.le_refl _), rfl, fun ys hy => by rw [I.tuple_inj hy hq]; exact hx⟩, ⟨⟨u', ?_⟩, hit'.1.at fun o q => (sb.2 it (Ne.symm hne)).trans q, hne, hai, hea⟩, fun b hb => ?_⟩
    · have e1 : ((i + 1 : Nat) : Int) = (i : Int) + 1 := by omega
      rw [e1]; exact he'
    · have hb' : b < s.heap.objs.size := by
        have e' : b = e ∨ b = it := by simpa using hb
        rcases e' with z | z
        · rw [z]; exact hel
        · rw [z]; exact hil
      rw [upd_ne (Nat.ne_of_lt hb')]
      exact (hf b hb).1
  done := by
    intro X hP hw hK hc i pins s σ H E I hf st hg
    subst hP hw hK
    obtain ⟨⟨old, he⟩, hit, hne, hai, hea⟩ := st
    obtain ⟨xs, hq, hx⟩ := hg
    obtain ⟨its, rv, p, hz⟩ := I.tuple hq
    obtain ⟨f0, f1, f2, f3, f4, f5⟩ := hf it (by simp)
    have hl := rv.length
    refine wpAny_pyNext_enum_end' (I.ok.hd hc) he hit (show s.heap.IsTuple a its.toArray from p) (by simp; omega) fun h' eb => ⟨rfl, I.turned (t' := s.toks) (fun b o hb q => eb b o hb q) f0 f1 f3 f4 f5⟩
  self := fun A i s Q E st h => let ⟨⟨_, he⟩, _⟩ := st; wpAny_pyIter_enum he h
where
  wpAny_pyNext_enum_end' {prog : Program} {w : World} {A : Around} {E : Value → Shared → Prop} {s : Shared} {e it l : Addr} {i : Nat} {j : Int} {items : Array Value} {old : Value} {Q : Option Value → Shared → Prop} (hh : A.handled = none)
      (he : IsEnum s.heap e it j old) (hit : s.heap.IsTupleIter it l i) (hl : s.heap.IsTuple l items) (hx : items[i]? = none)
      (hQ : ∀ h', Heap.ExtBut it s.heap h' → Q none { s with heap := h' }) : wpAny (model prog w) A (pyNext (.ref e)) Q E s := by
    have hT : s.TypeIs (.ref e) "enumerate" := ⟨_, he, rfl⟩
    unfold pyNext
    refine wpAny_bind (wpAny_attempt (wpAny_callSpecial?_slot (name := Str.ofString "__next__") hT F.slot_enumerate_next
      (wpAny_call_entry F.slot_enumerate_next hT F.entry_enumerate_next ?_ (F.args_enumerate_next_1 _))))
    show wpAny _ _ (field (.ref e) 2 >>= _) _ _ _
    refine wpAny_bind (wpAny_field he rfl (x := .ref it) rfl ?_)
    refine wpAny_bind (wpAny_nextOf_tuple_end hh hit hl hx fun h' x he' hx' => ?_)
    obtain ⟨o, ho, hc⟩ := hx'
    refine wpAny_bind (wpAny_isInstance (T := "StopIteration") (b := true) ⟨o, ho, hc⟩ isSubtype_stop ?_)
    exact wpAny_pure (hQ _ he')
def iEnumT (K : PySem.W.Frag) (ta : TA) : TI := fun σ H R => ta σ H fun vs H1 => ∃ a xs, vs = [.ref a] ∧ SqT K H1 a xs ∧ R (IteT K a) H1
theorem pi_enumT {X : Cx} {e : Expr} {ta : TA} {p pos tpos : Pos} {elts : List Expr} {kk : Nat} (hg : L2.Gl X "enumerate") (hm : X.mg "enumerate" = none) (ha : PA X [e] ta) (hs : starEach [e] X.env = [(false, eval e X.env)]) :
    PI X (.Tuple elts kk tpos) (.Call (.Name "enumerate" p) [e] [] pos) (iEnumT X.K ta) := by
  refine ⟨fun pins s σ H R I h => ?_⟩
  refine PyProof.Rows.Call_ (ld_blt I hg hm PyProof.Rows.boot_enumerate (PyProof.Rows.callWith_type1 (thn (ha.run pos pins s σ H _ I h) fun us s1 ⟨vs, H1, I1, r1, q1⟩ => ?_) hs rfl))
  obtain ⟨a, xs, ex, hq, q⟩ := q1
  subst ex
  cases r1 with
  | cons r rr =>
    cases rr
    cases r
    obtain ⟨its, rv, p', hz⟩ := I1.tuple hq
    obtain ⟨oa, hoa, _⟩ := id p'
    have hal : a < s1.heap.objs.size := Heap.lt_size hoa
    refine call_enumB (begins_tuple a its.toArray) (show s1.heap.IsTuple a its.toArray from p') fun h' he hit hsz hk => wpAny_pyIter_enum he ?_
    have I2 : Inv X pins σ H1 { s1 with heap := h' } := I1.kept (t' := s1.toks) hk
    refine ⟨s1.heap.objs.size + 1, [s1.heap.objs.size + 1, s1.heap.objs.size], _, _, H1, rfl, I2, turn_enumT a (s1.heap.objs.size + 1) s1.heap.objs.size, ⟨⟨.none, he⟩, ⟨_, hit, rfl, rfl⟩, Nat.succ_ne_self _, Nat.ne_of_lt hal, Nat.ne_of_gt (Nat.lt_succ_of_lt hal)⟩, fun b hb => ?_, q⟩
    have e' : b = s1.heap.objs.size + 1 ∨ b = s1.heap.objs.size := by simpa using hb
    have hle : s1.heap.objs.size ≤ b := by
      rcases e' with z | z
      · rw [z]; exact Nat.le_add_right _ _
      · rw [z]; exact Nat.le_refl _
    exact I1.fpOk hle (I1.hok.fresh hle)
def tRevT (K : PySem.W.Frag) (te : TE) : TE := fun σ H Q => te σ H fun x H1 => ∃ a xs, x = .ref a ∧ SqT K H1 a xs ∧ ∀ p, H1 p = none → Q (.ref p) (upd H1 p (.tup xs.reverse))
structure Wk (K : PySem.W.Frag) (ι : List Addr) (H : Hp) (J : It) (ds : List D) (g : Guard) : Prop where
  run : ∀ (ι' : List Addr) (H' : Hp) (S' : Store) (i : Nat), ι <+: ι' → Xt H H' → Sok K ι' H' S' → Gok g S' →
    (ds.length ≤ i → J.stop i H') ∧ ∀ d, ds[i]? = some d → J.go i H' ∧ ∀ x H2, J.yld i H' x H2 → Xt H' H2 ∧ Sok K ι' H2 S' ∧ DR K ι' H2 d x
def ResI (K : PySem.W.Frag) (ι : List Addr) (H : Hp) (r : R (List D × Guard)) (Q : It → Hp → Prop) : Prop := match r with
  | .ok p S' => ∀ ι' H' J, ι <+: ι' → Xt H H' → Sok K ι' H' S' → Wk K ι' H' J p.1 p.2 → Q J H'
  | _ => False
def TIc (G : Gv) (K : PySem.W.Frag) (it : CI) : TI := fun σ H R => ∃ ι S L, Sok K ι H S ∧ Lok K ι H L σ ∧ ResI K ι H (evI G it L S) R
theorem ResI.step {α : Type} {K : PySem.W.Frag} {ι : List Addr} {H : Hp} {r : R α} {f : α → Store → R (List D × Guard)} {Q : It → Hp → Prop} (h : ResI K ι H (r.bind f) Q) : ∃ d S1, r = .ok d S1 ∧ ResI K ι H (f d S1) Q := by
  cases r with
  | ok d S' => exact ⟨d, S', rfl, h⟩
  | exc _ _ => exact h.elim
  | bad => exact h.elim
theorem ResI.mono {K : PySem.W.Frag} {ι ι1 : List Addr} {H H1 : Hp} {r : R (List D × Guard)} {Q : It → Hp → Prop} (h : ResI K ι H r Q) (p : ι <+: ι1) (x : Xt H H1) : ResI K ι1 H1 r Q := by
  cases r with
  | ok d S' => exact fun ι' H' v a b c e => h ι' H' v (p.trans a) (x.trans b) c e
  | exc _ _ => exact h
  | bad => exact h
theorem ofO_step {α : Type} {o : Option α} {S : Store} {K : PySem.W.Frag} {ι : List Addr} {H : Hp} {f : α → Store → R (List D × Guard)} {Q : It → Hp → Prop} (h : ResI K ι H ((ofO o S).bind f) Q) : ∃ a, o = some a ∧ ResI K ι H (f a S) Q := by
  cases o with
  | some a => exact ⟨a, rfl, h⟩
  | none => exact h.elim
theorem ofO_res {S : Store} {K : PySem.W.Frag} {ι : List Addr} {H : Hp} {o : Option (List D × Guard)} {Q : It → Hp → Prop} (h : ResI K ι H (ofO o S) Q) : ∃ a, o = some a ∧ ResI K ι H (.ok a S) Q := by
  cases o with
  | some a => exact ⟨a, rfl, h⟩
  | none => exact h.elim
section
variable {K : PySem.W.Frag} {ι : List Addr} {H : Hp} {S : Store}
theorem lst_at (s : Sok K ι H S) {n : Nat} {ds : List D} {c : Cell} (hc : c = .lst ds ∨ c = .frz ds) (e : S[n]? = some c) {ι0 : List Addr} (p0 : ι0 <+: ι) {a : Addr} (ea : ι0[n]? = some a) : ∃ vs, SqL K H a vs ∧ DRs K ι H ds vs := by
  have el : lstAt S (.ref n) = some ds := by
    rcases hc with rfl | rfl <;> simp only [lstAt, e]
  obtain ⟨b, vs, eb, sq, dr⟩ := lstAt_at s el
  rw [pre_get p0 ea] at eb
  cases eb
  exact ⟨vs, sq, dr⟩
theorem sql_get {a : Addr} {ds : List D} {vs : List V} (dr : DRs K ι H ds vs) {i : Nat} {d : D} (hd : ds[i]? = some d) : ∃ v, vs[i]? = some v ∧ DR K ι H d v := dr.get hd
/-- a list, a tuple, that stands as long as the guard holds -/
def StL (K : PySem.W.Frag) (ι : List Addr) (H : Hp) (a : Addr) (ds : List D) (g : Guard) : Prop := ∀ (ι' : List Addr) (H' : Hp) (S' : Store), ι <+: ι' → Xt H H' → Sok K ι' H' S' → Gok g S' → ∃ vs, SqL K H' a vs ∧ DRs K ι' H' ds vs
def StT (K : PySem.W.Frag) (ι : List Addr) (H : Hp) (a : Addr) (ds : List D) : Prop := ∀ (ι' : List Addr) (H' : Hp), ι <+: ι' → Xt H H' → ∃ vs, SqT K H' a vs ∧ DRs K ι' H' ds vs
theorem stl_of {S : Store} (s : Sok K ι H S) {d : D} {v : V} {p : List D × Guard} (h : lsG S d = some p) (r : DR K ι H d v) : ∃ a vs, v = .ref a ∧ SqL K H a vs ∧ StL K ι H a p.1 p.2 := by
  cases d with
  | pl ds =>
    cases h
    obtain ⟨a, vs, rfl, sq, dr⟩ := r
    exact ⟨a, vs, rfl, sq.seq, fun ι' H' S' q x _ _ => ⟨vs, (sq.mono x).seq, dr.mono q x⟩⟩
  | ref n =>
    obtain ⟨a, ea, rfl⟩ := r
    have h : lstG S n = some p := h
    unfold lstG at h
    split at h
    · rename_i ds e
      cases h
      obtain ⟨vs, sq, _⟩ := lst_at s (.inl rfl) e (List.prefix_refl _) ea
      exact ⟨a, vs, rfl, sq, fun ι' H' S' q x so g => lst_at so (.inl rfl) (g (n, .lst ds) (by simp)) q ea⟩
    · rename_i ds e
      cases h
      obtain ⟨vs, sq, _⟩ := lst_at s (.inr rfl) e (List.prefix_refl _) ea
      exact ⟨a, vs, rfl, sq, fun ι' H' S' q x so g => lst_at so (.inr rfl) (g (n, .frz ds) (by simp)) q ea⟩
    · cases h
  | _ => cases h
theorem stt_of {d : D} {v : V} {ds : List D} (h : tpG d = some ds) (r : DR K ι H d v) : ∃ a vs, v = .ref a ∧ SqT K H a vs ∧ StT K ι H a ds := by
  cases d with
  | tup ds =>
    cases h
    obtain ⟨a, vs, rfl, sq, dr⟩ := r
    exact ⟨a, vs, rfl, sq.sq, fun ι' H' q x => ⟨vs, (sqT_mono x sq).sq, dr.mono q x⟩⟩
  | kt ds =>
    cases h
    obtain ⟨a, vs, rfl, sq, dr⟩ := r
    exact ⟨a, vs, rfl, sq.sq, fun ι' H' q x => ⟨vs, sq.sq, dr.mono q x⟩⟩
  | _ => cases h
theorem wk_list {a : Addr} {ds : List D} {gd : Guard} (st : StL K ι H a ds gd) : Wk K ι H (Itl K a) ds gd := by
  refine ⟨fun ι' H' S' i p x so g => ?_⟩
  obtain ⟨vs, sq, dr⟩ := st ι' H' S' p x so g
  refine ⟨fun hi => ⟨vs, sq, by rw [dr.length]; exact hi⟩, fun d hd => ?_⟩
  obtain ⟨v, hv, r⟩ := dr.get hd
  refine ⟨⟨vs, v, sq, hv⟩, fun y H2 ⟨e1, e2⟩ => ?_⟩
  subst e1
  have := e2 vs sq
  rw [hv] at this
  cases this
  exact ⟨Xt.refl _, so, r⟩
theorem wk_tup {a : Addr} {ds : List D} (st : StT K ι H a ds) : Wk K ι H (Itt K a) ds [] := by
  refine ⟨fun ι' H' S' i p x so g => ?_⟩
  obtain ⟨vs, sq', dr'⟩ := st ι' H' p x
  refine ⟨fun hi => ⟨vs, sq', by rw [dr'.length]; exact hi⟩, fun d hd => ?_⟩
  obtain ⟨v, hv, r⟩ := dr'.get hd
  refine ⟨⟨vs, v, sq', hv⟩, fun y H2 ⟨e1, e2⟩ => ?_⟩
  subst e1
  have := e2 vs sq'
  rw [hv] at this
  cases this
  exact ⟨Xt.refl _, so, r⟩
theorem wk_str {z : Str} : Wk K ι H (Its z) (z.cps.toList.map fun c => .str ⟨#[c]⟩) [] := by
  refine ⟨fun ι' H' S' i p x so g => ⟨fun hi => (show z.cps.size ≤ i by simpa using hi), fun d hd => ?_⟩⟩
  rw [List.getElem?_map] at hd
  obtain ⟨c, hc, rfl⟩ := Option.map_eq_some_iff.mp hd
  have hi : i < z.cps.size := by
    have := (List.getElem?_eq_some_iff.mp hc).1
    simpa using this
  refine ⟨hi, fun y H2 ⟨e1, c', e2, e3⟩ => ?_⟩
  subst e1 e3
  have e4 : z.cps[i]? = some c := by rw [← Array.getElem?_toList]; exact hc
  rw [e4] at e2
  cases e2
  exact ⟨Xt.refl _, so, rfl⟩
theorem wk_rng {lo : Int} {n : Nat} : Wk K ι H (Itr lo n) ((List.range n).map fun (k : Nat) => D.int (lo + (k : Int))) [] := by
  refine ⟨fun ι' H' S' i p x so g => ⟨fun hi => (show n ≤ i by simpa using hi), fun d hd => ?_⟩⟩
  rw [List.getElem?_map] at hd
  obtain ⟨c, hc, rfl⟩ := Option.map_eq_some_iff.mp hd
  have hi : i < n ∧ c = i := by
    obtain ⟨h1, h2⟩ := List.getElem?_eq_some_iff.mp hc
    rw [List.getElem_range] at h2
    exact ⟨by simpa using h1, h2.symm⟩
  obtain ⟨hi, rfl⟩ := hi
  refine ⟨hi, fun y H2 ⟨e1, e2⟩ => ?_⟩
  subst e1 e2
  exact ⟨Xt.refl _, so, rfl⟩
theorem wk_rngC {lo c : Int} {n : Nat} : Wk K ι H (Itc lo c n) ((List.range n).map fun (k : Nat) => D.int (lo + (k : Int) * c)) [] := by
  refine ⟨fun ι' H' S' i p x so g => ⟨fun hi => (show n ≤ i by simpa using hi), fun d hd => ?_⟩⟩
  rw [List.getElem?_map] at hd
  obtain ⟨c', hc, rfl⟩ := Option.map_eq_some_iff.mp hd
  have hi : i < n ∧ c' = i := by
    obtain ⟨h1, h2⟩ := List.getElem?_eq_some_iff.mp hc
    rw [List.getElem_range] at h2
    exact ⟨by simpa using h1, h2.symm⟩
  obtain ⟨hi, rfl⟩ := hi
  refine ⟨hi, fun y H2 ⟨e1, e2⟩ => ?_⟩
  subst e1 e2
  exact ⟨Xt.refl _, so, rfl⟩
theorem enu_get : ∀ (ds : List D) (k i : Nat), (enuFrom k ds)[i]? = (ds[i]?).map fun d => .tup [.int ((k + i : Nat) : Int), d]
  | [], k, i => by simp [enuFrom]
  | d :: ds, k, 0 => by simp [enuFrom]
  | d :: ds, k, i + 1 => by
    show (enuFrom (k + 1) ds)[i]? = _
    rw [enu_get ds (k + 1) i]
    have : k + 1 + i = k + (i + 1) := by omega
    rw [this] <;> rfl
theorem enu_len : ∀ (ds : List D) (k : Nat), (enuFrom k ds).length = ds.length
  | [], _ => rfl
  | d :: ds, k => by simp [enuFrom, enu_len ds (k + 1)]
/-- a new pair is laid -/
theorem pair_new {ι' : List Addr} {H' : Hp} {S' : Store} (so : Sok K ι' H' S') {T : Addr} (hT : H' T = none) {d1 d2 : D} {v1 v2 : V} (r1 : DR K ι' H' d1 v1) (r2 : DR K ι' H' d2 v2) :
    Xt H' (upd H' T (.tup [v1, v2])) ∧ Sok K ι' (upd H' T (.tup [v1, v2])) S' ∧ DR K ι' (upd H' T (.tup [v1, v2])) (.tup [d1, d2]) (.ref T) := by
  have x := Xt.new (o := .tup [v1, v2]) hT
  exact ⟨x, so.tup hT, T, [v1, v2], rfl, upd_same, v1, [v2], rfl, r1.mono (List.prefix_refl _) x _, v2, [], rfl, r2.mono (List.prefix_refl _) x _, rfl⟩
theorem wk_enuL {a : Addr} {ds : List D} {gd : Guard} (st : StL K ι H a ds gd) : Wk K ι H (Ite K a) (enuFrom 0 ds) gd := by
  refine ⟨fun ι' H' S' i p x so g => ?_⟩
  obtain ⟨vs, sq, dr⟩ := st ι' H' S' p x so g
  refine ⟨fun hi => ⟨vs, sq, by rw [dr.length, ← enu_len ds 0]; exact hi⟩, fun d hd => ?_⟩
  rw [enu_get] at hd
  obtain ⟨d', hd', rfl⟩ := Option.map_eq_some_iff.mp hd
  obtain ⟨v, hv, r⟩ := dr.get hd'
  refine ⟨⟨vs, v, sq, hv⟩, fun y H2 ⟨T, y', e1, hT, e2, e3⟩ => ?_⟩
  have := e3 vs sq
  rw [hv] at this
  cases this
  subst e1 e2
  rw [Nat.zero_add]
  exact pair_new so hT (show DR K ι' H' (.int (i : Nat)) (.int (i : Nat)) from rfl) r
theorem wk_enuT {a : Addr} {ds : List D} (st : StT K ι H a ds) : Wk K ι H (IteT K a) (enuFrom 0 ds) [] := by
  refine ⟨fun ι' H' S' i p x so g => ?_⟩
  obtain ⟨vs, sq', dr'⟩ := st ι' H' p x
  refine ⟨fun hi => ⟨vs, sq', by rw [dr'.length, ← enu_len ds 0]; exact hi⟩, fun d hd => ?_⟩
  rw [enu_get] at hd
  obtain ⟨d', hd', rfl⟩ := Option.map_eq_some_iff.mp hd
  obtain ⟨v, hv, r⟩ := dr'.get hd'
  refine ⟨⟨vs, v, sq', hv⟩, fun y H2 ⟨T, y', e1, hT, e2, e3⟩ => ?_⟩
  have := e3 vs sq'
  rw [hv] at this
  cases this
  subst e1 e2
  rw [Nat.zero_add]
  exact pair_new so hT (show DR K ι' H' (.int (i : Nat)) (.int (i : Nat)) from rfl) r
theorem wk_zipT {a b : Addr} {ds es : List D} (st : StT K ι H a ds) (st2 : StT K ι H b es) : Wk K ι H (RZ.ItzT K a b) (zipL ds es) [] := by
  refine ⟨fun ι' H' S' i p x so g => ?_⟩
  obtain ⟨vs, sqa, dra⟩ := st ι' H' p x
  obtain ⟨us, sqb, drb⟩ := st2 ι' H' p x
  refine ⟨fun hi => ⟨vs, us, sqa, sqb, ?_⟩, fun d hd => ?_⟩
  · unfold zipL at hi
    rw [List.length_map, List.length_zip] at hi
    rw [dra.length, drb.length]
    omega
  · unfold zipL at hd
    rw [List.getElem?_map] at hd
    obtain ⟨q, hq, rfl⟩ := Option.map_eq_some_iff.mp hd
    rw [List.getElem?_zip_eq_some] at hq
    obtain ⟨v, hv, r⟩ := dra.get hq.1
    obtain ⟨u, hu, r2⟩ := drb.get hq.2
    refine ⟨⟨vs, us, v, u, sqa, sqb, hv, hu⟩, fun y H2 ⟨T, y1, y2, e1, hT, e2, e3, e4⟩ => ?_⟩
    have h3 := e3 vs sqa
    have h4 := e4 us sqb
    rw [hv] at h3
    rw [hu] at h4
    cases h3; cases h4
    subst e1 e2
    exact pair_new so hT r r2
theorem wk_zipL {a b : Addr} {ds es : List D} {g1 g2 : Guard} (st : StL K ι H a ds g1) (st2 : StL K ι H b es g2) : Wk K ι H (Itz K a b) (zipL ds es) (g1 ++ g2) := by
  refine ⟨fun ι' H' S' i p x so g => ?_⟩
  obtain ⟨vs, sqa, dra⟩ := st ι' H' S' p x so fun q hq => g q (by simp [hq])
  obtain ⟨us, sqb, drb⟩ := st2 ι' H' S' p x so fun q hq => g q (by simp [hq])
  refine ⟨fun hi => ⟨vs, us, sqa, sqb, ?_⟩, fun d hd => ?_⟩
  · unfold zipL at hi
    rw [List.length_map, List.length_zip] at hi
    rw [dra.length, drb.length]
    omega
  · unfold zipL at hd
    rw [List.getElem?_map] at hd
    obtain ⟨q, hq, rfl⟩ := Option.map_eq_some_iff.mp hd
    rw [List.getElem?_zip_eq_some] at hq
    obtain ⟨v, hv, r⟩ := dra.get hq.1
    obtain ⟨u, hu, r2⟩ := drb.get hq.2
    refine ⟨⟨vs, us, v, u, sqa, sqb, hv, hu⟩, fun y H2 ⟨T, y1, y2, e1, hT, e2, e3, e4⟩ => ?_⟩
    have h3 := e3 vs sqa
    have h4 := e4 us sqb
    rw [hv] at h3
    rw [hu] at h4
    cases h3; cases h4
    subst e1 e2
    exact pair_new so hT r r2
end
end Mi
namespace Mi
open PySem L2 PyProof.Rows
theorem adjust_rev (n : Nat) : Builtin.Slice.sliceAdjust none none (-1) (n : Int) = ((n : Int) - 1, -1) := by
  unfold Builtin.Slice.sliceAdjust
  simp
theorem places_rev (n : Nat) : Builtin.Slice.slicePlaces ((n : Int) - 1) (-1) (-1) = n := by
  unfold Builtin.Slice.slicePlaces
  simp
  try omega
theorem pick_rev (xs : Array Value) : ((List.range xs.size).filterMap fun (m : Nat) => xs[(((xs.size : Int) - 1) + (m : Int) * -1).toNat]?).toArray = xs.toList.reverse.toArray := by
  have gen : ∀ k, k ≤ xs.size → ((List.range k).filterMap fun (m : Nat) => xs[(((xs.size : Int) - 1) + (m : Int) * -1).toNat]?) = xs.toList.reverse.take k := by
    intro k
    induction k with
    | zero => intro _; simp
    | succ k ih =>
      intro hk
      rw [List.range_succ, List.filterMap_append, ih (by omega)]
      have h1 : (((xs.size : Int) - 1) + (k : Int) * -1).toNat = xs.size - 1 - k := by omega
      have h2 : k < xs.toList.reverse.length := by simp; omega
      have h4 : xs.toList.reverse[k]? = xs[xs.size - 1 - k]? := by
        rw [List.getElem?_reverse (by simpa using h2), Array.length_toList, Array.getElem?_toList]
      have h3 : xs.size - 1 - k < xs.size := by omega
      rw [List.take_succ, h4, Array.getElem?_eq_getElem h3]
      simp only [List.filterMap_cons, h1, Array.getElem?_eq_getElem h3, List.filterMap_nil]
      rfl
  rw [gen _ (Nat.le_refl _)]
  congr 1
  rw [List.take_of_length_le (by simp)]
theorem getItem_tuple_rev {prog : Program} {w : World} {A : Around} {E : Value → Shared → Prop} {s : Shared} {t sl : Addr} {items : Array Value} {vl vu vs : Value} {Q : Value → Shared → Prop} (ht : IsTup s.heap t items) (hs : s.heap.IsSliceOf sl vl vu vs) (pl : IsPart vl none) (pu : IsPart vu none) (ps : IsPart vs (some (-1)))
    (h : Q (.ref s.heap.objs.size) { s with heap := s.heap.push { cls := .type "tuple", data := .seq items.toList.reverse.toArray } })
    (hsz : items.size ≤ sizeLine) : wpAny (model prog w) A (getItem (.ref t) (.ref sl)) Q E s := by
  have htake : PySem.sizeOk (.seq items.toList.reverse.toArray) := by
    show items.toList.reverse.toArray.size ≤ sizeLine
    simpa using hsz
  obtain ⟨os, hos, hcs, hds⟩ := id hs
  have hTs : s.TypeIs (.ref sl) "slice" := ⟨os, hos, hcs⟩
  have ap : ∀ {A' : Around} {E' : Value → Shared → Prop} {Q' : Int × Int × Nat → Shared → Prop}, Q' ((items.size : Int) - 1, -1, items.size) s → wpAny (model prog w) A' (Builtin.Slice.sliceApplied (.ref sl) (pure (items.size : Int))) Q' E' s := by
    intro A' E' Q' hq
    unfold Builtin.Slice.sliceApplied Builtin.Slice.sliceFields
    refine wpAny_bind (wpAny_bind (wpAny_field hos hds (x := vl) rfl (wpAny_bind (wpAny_field hos hds (x := vu) rfl (wpAny_bind (wpAny_field hos hds (x := vs) rfl (wpAny_pure ?_)))))))
    refine wpAny_bind (HT.slicePart_ ps ?_)
    show wpAny _ _ (if ((-1 : Int) == 0) = true then _ else _) _ _ s
    rw [if_neg (by decide)]
    refine wpAny_bind (HT.slicePart_ pl (wpAny_bind (HT.slicePart_ pu (wpAny_bind (wpAny_pure ?_)))))
    show wpAny _ _ (match Builtin.Slice.sliceAdjust none none (-1) (items.size : Int) with | (lo, hi) => pure (lo, (-1 : Int), Builtin.Slice.slicePlaces lo hi (-1))) _ _ s
    rw [adjust_rev]
    show wpAny _ _ (pure (((items.size : Int) - 1), (-1 : Int), Builtin.Slice.slicePlaces ((items.size : Int) - 1) (-1) (-1))) _ _ s
    rw [places_rev]
    exact wpAny_pure hq
  unfold getItem
  try with_reducible refine wpAny_holding ?_
  first | refine wpAny_bind (wpAny_pure ?_) | skip
  refine wpAny_bind (wpAny_sequenceKey ht.typeIs (by decide) ?_)
  refine wpAny_bind (wpAny_callSpecial?_slot (name := Str.ofString "__getitem__") ht.typeIs PyProof.Rows.slot_tuple_getitem
    (wpAny_call_entry PyProof.Rows.slot_tuple_getitem ht.typeIs entry_tuple_getitem ?_ (args_tuple_getitem _ _)))
  show wpAny _ _ (Builtin.Tuple.tupleItemsOf (.ref t) >>= _) _ _ s
  refine wpAny_bind (tupleItemsOf_ ht ?_)
  refine wpAny_bind (wpAny_typeOf hTs ?_)
  rw [if_pos (by decide)]
  refine wpAny_bind (ap ?_)
  have hno : ¬ ((((items.size : Int) - 1) == 0 && (-1 : Int) == 1 && items.size == items.size) = true) := by
    rw [show ((-1 : Int) == 1) = false from rfl, Bool.and_false, Bool.false_and]
    exact Bool.false_ne_true
  show wpAny _ _ (if (((items.size : Int) - 1) == 0 && (-1 : Int) == 1 && items.size == items.size) = true then _ else _) _ _ s
  rw [if_neg hno, pick_rev]
  first
    | exact wpAny_bind (m := Builtin.Tuple.tupleExact _) (wpAny_newObj_type (wpAny_pure ⟨_, rfl, wpAny_pure h⟩) htake)
    | exact wpAny_bind (m := Builtin.Tuple.tupleExact _) (wpAny_newObj_type (wpAny_bind (wpAny_pure (wpAny_pure ⟨_, rfl, wpAny_pure h⟩))) htake)
    | exact wpAny_bind (wpAny_bind (m := Builtin.Tuple.tupleExact _) (wpAny_newObj_type (wpAny_pure (wpAny_pure ⟨_, rfl, wpAny_pure h⟩)) htake))
    | exact wpAny_bind (wpAny_bind (m := Builtin.Tuple.tupleExact _) (wpAny_newObj_type (wpAny_pure ⟨_, rfl, wpAny_pure h⟩) htake))
def RU1 (K : PySem.W.Frag) (f : D → Store → R D) : V → Hp → VK → Prop := fun x H Q => ∃ ι S d, Sok K ι H S ∧ DR K ι H d x ∧ Res K ι H (f d S) Q
theorem pe_revD {X : Cx} {e : Expr} {te : TE} {k : Nat} {p1 p2 p3 pos : Pos} (he : PE X e te) : PE X (.Subscript e (.Slice none none (some (.UnaryOp .USub (.Constant (.int 1) k p1) p2)) p3) pos) (tUn (RU1 X.K revD) te) := by
  refine ⟨fun pins s σ H Q I h => ?_⟩
  refine Subscript_ (thn (he.run pins s σ H _ I h) fun v s1 ⟨x, H1, I1, r1, q1⟩ => ?_)
  have hst : PO X (some (.UnaryOp .USub (.Constant (.int 1) k p1) p2)) (tPart (tUn (rU fun i => .int (-i)) (tC (.int 1)))) := po_some (pe_un un_neg pe_int)
  refine wpAny_Slice (thn (po_none.run pins s1 σ H1 (fun o H2 => o = none ∧ H2 = H1) I1 ⟨rfl, rfl⟩) fun vl s2 ⟨l, H2, I2, pl, el, e2⟩ => ?_)
  subst el e2
  refine thn (po_none.run pins s2 σ H2 (fun o H3 => o = none ∧ H3 = H2) I2 ⟨rfl, rfl⟩) fun vu s3 ⟨u, H3, I3, pu, eu, e3⟩ => ?_
  subst eu e3
  refine thn (hst.run pins s3 σ H3 (fun o H4 => o = some (-1) ∧ H4 = H3) I3 ⟨1, rfl, -1, rfl, rfl, rfl⟩) fun vs s4 ⟨o, H4, I4, ps, eo, e4⟩ => ?_
  subst eo e4
  have I5 : Inv X pins σ H4 { s4 with heap := s4.heap.push { cls := .type "slice", data := .fields #[vl, vu, vs] } } := I4.kept (t' := s4.toks) fun b ob q => Heap.get?_push_of_some _ q
  obtain ⟨ι, S, d, so, dr, res⟩ := q1
  show wpAny (model X.prog X.w) X.A (subscriptTail e (.Slice none none (some (.UnaryOp .USub (.Constant (.int 1) k p1) p2)) p3) v (.ref s4.heap.objs.size)) (EP X pins σ Q) X.xe { s4 with heap := s4.heap.push { cls := .type "slice", data := .fields #[vl, vu, vs] } }
  cases d with
  | tup ds =>
    obtain ⟨a, xs, rfl, sq, dr⟩ := dr
    cases r1
    obtain ⟨its, r, ht, hz⟩ := I5.tuple sq.sq
    have hlen := r.length
    refine tail_any (ops := [.ref a, .ref s4.heap.objs.size]) ht.typeIs (PyProof.Rows.slot_tuple_getitem.lookup) ?_ (by with_unfolding_all rfl)
    refine getItem_tuple_rev ht (Heap.IsSliceOf.new _ vl vu vs) pl pu ps ?_ (by rw [List.size_toArray]; omega)
    refine ⟨.ref _, _, I5.laid (t' := s4.toks) (o := .tup xs.reverse) (fun b ob q => Heap.get?_push_of_some _ q) (Nat.le_refl _) ?_, rfl, res.newT so dr.reverse (I5.hok.fresh (Nat.le_refl _))⟩
    exact ⟨by rw [List.length_reverse]; exact hz, _, r.reverse, IsTup.new _ _⟩
  | pl ds =>
    obtain ⟨a, xs, rfl, sq, dr2⟩ := dr
    have sq := sq.seq (K := X.K)
    cases r1
    obtain ⟨its, r, ht, hz⟩ := I5.list sq
    have hlen := r.length
    refine tail_any (ops := [.ref a, .ref s4.heap.objs.size]) ht.isList.typeIs (PySem.slot_list_getitem.lookup) ?_ (by with_unfolding_all rfl)
    refine wpAny_getItem_list_slice ht.isList (Heap.IsSliceOf.new _ vl vu vs) pl pu ps (by decide) ?_ (by rw [List.size_toArray]; omega)
    rw [PySem.W.krv_pick]
    refine ⟨.ref _, _, I5.laid (t' := s4.toks) (o := .lst xs.reverse) (fun b ob q => Heap.get?_push_of_some _ q) (Nat.le_refl _) ?_, rfl, res.newL so dr2.reverse (I5.hok.fresh (Nat.le_refl _))⟩
    exact ⟨by rw [List.length_reverse]; exact hz, _, 0, r.reverse, Heap.get?_push_size _ rfl⟩
  | ref n =>
    simp only [revD] at res
    split at res
    · rename_i ds hl
      obtain ⟨a, xs, ea, sq, dr2⟩ := lstAt_at so hl
      obtain ⟨b, eb, rfl⟩ := dr
      rw [ea] at eb; cases eb
      cases r1
      obtain ⟨its, r, ht, hz⟩ := I5.list sq
      have hlen := r.length
      refine tail_any (ops := [.ref a, .ref s4.heap.objs.size]) ht.isList.typeIs (PySem.slot_list_getitem.lookup) ?_ (by with_unfolding_all rfl)
      refine wpAny_getItem_list_slice ht.isList (Heap.IsSliceOf.new _ vl vu vs) pl pu ps (by decide) ?_ (by rw [List.size_toArray]; omega)
      rw [PySem.W.krv_pick]
      refine ⟨.ref _, _, I5.laid (t' := s4.toks) (o := .lst xs.reverse) (fun b ob q => Heap.get?_push_of_some _ q) (Nat.le_refl _) ?_, rfl, res.newL so dr2.reverse (I5.hok.fresh (Nat.le_refl _))⟩
      exact ⟨by rw [List.length_reverse]; exact hz, _, 0, r.reverse, Heap.get?_push_size _ rfl⟩
    · exact res.elim
  | _ => exact res.elim
end Mi
namespace Mi
open PySem L2
structure Nm where
  fn : Str → Option Nat
  ct : Str → Option Nat
  bl : List Str
  /-- classes that are raised, defs that may raise; of classes asked: those raised ones that are such -/
  xs : List Str
  rx : List Str
  yes : List Str → Option (List Str)
  /-- classes that catch all of xs -/
  cat : List Str
  /-- classes that keep one field -/
  fx : List (Str × Str)
  /-- dicts of the top that are only read -/
  dt : List (Str × List (Str × Str))
  /-- where what is new becomes a value: expressions, and names ahead of statements, by their places -/
  fzp : List Nat
  fzs : List (Nat × Nat)
  /-- classes of except clauses, with those of held that they catch -/
  hd : List (Str × List Str) := []
  /-- places of calls that may raise, whose value is kept or told -/
  xap : List Nat := []
  /-- classes whose instances are made, by the number of their __init__ -/
  mks : List (Str × Nat) := []
  /-- methods by their names: class, number -/
  me : List (Str × List (Str × Nat)) := []
  /-- fields by their names: classes of which they are no attribute -/
  fl : List (Str × List Str) := []
/-- all classes whose exceptions are held -/
abbrev Nm.held (nm : Nm) : List Str := nm.xs ++ nm.fx.map (·.1)
def biName : Bi → Str
  | .len => "len" | .isi => "isinstance" | .abs => "abs" | .min => "min" | .max => "max" | .sum => "sum" | .all => "all" | .any => "any"
  | .list => "list" | .tuple => "tuple" | .str => "str" | .int => "int" | .repr => "repr" | .sorted => "sorted" | .dict => "dict" | .bool => "bool"
def allBi : List Bi := [.len, .isi, .abs, .min, .max, .sum, .all, .any, .list, .tuple, .str, .int, .repr, .sorted, .dict, .bool]
def biOf (x : Str) : Option Bi := allBi.find? fun f => decide (biName f = x)
theorem biOf_eq {x : Str} {f : Bi} (h : biOf x = some f) : x = biName f := by
  have := List.find?_some h
  exact (of_decide_eq_true this).symm
theorem bi_boot : ∀ f, bootBuiltins (biName f) = some (biV f) := by
  intro f; cases f <;> decide +kernel
theorem bi_name : ∀ f, biName f ≠ "__name__" ∧ (biName f == ("__debug__" : Str)) = false := by
  intro f; cases f <;> decide +kernel
def tyB (x : Str) : Option String :=
  if x = "int" then some "int" else if x = "str" then some "str" else if x = "bool" then some "bool" else if x = "tuple" then some "tuple" else if x = "list" then some "list" else if x = "dict" then some "dict" else none
theorem tyB_boot {x : Str} {t : String} (h : tyB x = some t) : bootBuiltins x = some (.type t) ∧ x ≠ "__name__" ∧ (x == ("__debug__" : Str)) = false := by
  unfold tyB at h
  split at h
  · cases h; subst x; decide +kernel
  · split at h
    · cases h; subst x; decide +kernel
    · split at h
      · cases h; subst x; decide +kernel
      · split at h
        · cases h; subst x; decide +kernel
        · split at h
          · cases h; subst x; decide +kernel
          · split at h
            · cases h; subst x; decide +kernel
            · cases h
def allMt : List Mt := [.append, .pop, .insert, .extend, .join, .upper, .split, .partition, .get, .clear]
def mtOf (x : Str) : Option Mt := allMt.find? fun f => decide (mtName f = x)
theorem mtOf_eq {x : Str} {f : Mt} (h : mtOf x = some f) : x = mtName f ∧ mtHas f = true := by
  have h1 := List.find?_some h
  refine ⟨(of_decide_eq_true h1).symm, ?_⟩
  have := List.mem_of_find?_eq_some h
  simp only [allMt, List.mem_cons, List.not_mem_nil, or_false] at this
  rcases this with rfl | rfl | rfl | rfl | rfl | rfl | rfl | rfl | rfl | rfl <;> rfl
def notStar2 : Expr → Bool
  | .Starred _ _ => false
  | _ => true
def caOf : List CE → CA
  | [] => .nil
  | c :: r => .cons c (caOf r)
def andL : List CE → CE
  | [] => .cst (.bl true)
  | [a] => a
  | a :: r => .and a (andL r)
def orL : List CE → CE
  | [] => .cst (.bl false)
  | [a] => a
  | a :: r => .or a (orL r)
def notSuper : Expr → Bool
  | .Call (.Name id _) [] [] _ => decide (id ≠ "super")
  | _ => true
def ownOf (N : List Str) (scope : Scope) : List (Str × Nat) := scope.names.filterMap fun y => match y.2 with
  | .local => (ixOf N y.1).map fun i => (y.1, i)
  | .cell => (ixOf N y.1).map fun i => (y.1, i)
  | _ => none
def isG (sc : Scope) (x : Str) : Bool := match sc.names.lookup x with
  | some .globalImplicit => true
  | _ => false
def cells (scope : Scope) (x : Str) : Bool := scope.names.lookup x == some .cell
def subL (is vs : List Nat) : Bool := is.all fun i => decide (i ∈ vs)
section
variable (nm : Nm) (N : List Str)
def erName (sc : Scope) (x : Str) : Option CE := match sc.names.lookup x with
  | some .local => if x = "__debug__" ∨ x = "__classdict__" then none else (ixOf N x).map .loc
  | some .cell => if x = "__debug__" ∨ x = "__classdict__" then none else (ixOf N x).map .loc
  | some .free => if x = "__debug__" ∨ x = "__classdict__" then none else (ixOf N x).map .loc
  | some .globalImplicit => match nm.ct x with
    | some i => some (.glb i)
    | none => match tyB x with
      | some t => if x ∈ nm.bl then some (.cst (.sta (.ty t))) else none
      | none => none
  | _ => none
def pairUp : List (Option Expr) → List Expr → Option (List Expr)
  | [], [] => some []
  | some k :: ks, v :: vs => (pairUp ks vs).map fun r => k :: v :: r
  | _, _ => none
end
def erC (c : Const) : Option CE := match c with
  | .int i => some (.cst (.int i))
  | .bool b => some (.cst (.bl b))
  | .none => some (.cst .non)
  | .str x => some (.cst (.str x))
  | _ => none
section
variable (er : Expr → Option CE)
def erAll (es : List Expr) : Option (List CE) := allSome (es.map er)
def erUn (op : UnaryOp) (a : Expr) : Option CE := match op with
  | .USub => (er a).map .neg
  | .Not => (er a).map .not
  | _ => none
def erBo (op : BoolOp) (es : List Expr) : Option CE := if es.isEmpty then none else match op with
  | .And => (erAll er es).map andL
  | .Or => (erAll er es).map orL
def erCmp (a : Expr) (ops : List CmpOp) (bs : List Expr) : Option CE := match ops, bs with
  | [op], [b] => if behindInMarks op b then none else (er a).bind fun a => (er b).map fun b => .cmp op a b
  | [p, q], [b, c] => if lastMarks [p, q] [b, c] then none else (er a).bind fun a => (er b).bind fun b => (er c).map fun c => .chn p q a b c
  | _, _ => none
def isRev (st : Expr) : Bool := match st with
  | .UnaryOp .USub (.Constant (.int i) _ _) _ => decide (i = 1)
  | _ => false
def erOpt (o : Option Expr) : Option (Bool × CE) := match o with
  | none => some (false, .cst .non)
  | some e => (er e).map fun c => (true, c)
def erSub (e i : Expr) : Option CE := match i with
  | .Slice lo hi st _ => match st with
    | none => (er e).bind fun e => (erOpt er lo).bind fun l => (erOpt er hi).map fun h => .slc e l.1 l.2 h.1 h.2
    | some st => if isRev st = true ∧ lo.isNone = true ∧ hi.isNone = true then (er e).map .rev else none
  | i => (er e).bind fun e => (er i).map fun i => .idx e i
def erCall (nm : Nm) (sc : Scope) (f : Expr) (es : List Expr) (kws : List Keyword) (cpos : Pos) : Option CE := if kws.isEmpty then (match f with
  | .Name x _ => if isG sc x = true then (match nm.fn x with
      | some i => (erAll er es).map fun cs => .call i (caOf cs)
      | none => match biOf x with
        | some f => if x ∈ nm.bl ∧ es.isEmpty = false then (erAll er es).map fun cs => .bi f (caOf cs) else none
        | none => none) else none
  | .Attribute o m apos => match mtOf m with
    | some f => if notSuper o = true ∧ (apos.endLine == cpos.line) = true ∧ es.length < 30 then (er o).bind fun o => (erAll er es).map fun cs => .mth f o (caOf cs) else none
    | none => none
  | _ => none) else none
def clsName (sc : Scope) : Expr → Option Str
  | .Name y _ => if isG sc y = true then some y else none
  | _ => none
def clsNames (sc : Scope) : Expr → Option (List Str)
  | .Tuple es _ _ => allSome (es.map (clsName sc))
  | e => (clsName sc e).map fun y => [y]
/-- isinstance of a kept exception -/
def erIsx (nm : Nm) (sc : Scope) (f : Expr) (es : List Expr) (kws : List Keyword) : Option (Expr × List (Str × Bool)) := match f, es with
  | .Name x _, [e, c] => if x = "isinstance" ∧ isG sc x = true ∧ x ∈ nm.bl ∧ kws.isEmpty = true ∧ notStar2 e = true then (clsNames sc c).bind fun ys => (nm.yes ys).map fun yes => (e, nm.held.map fun x => (x, yes.contains x)) else none
  | _, _ => none
/-- a refusal that is made as a value -/
def erMk (nm : Nm) (sc : Scope) (f : Expr) (es : List Expr) (kws : List Keyword) : Option (Str ⊕ (Str × Str × Expr)) := match f, es with
  | .Name x _, [] => if isG sc x = true ∧ x ∈ nm.xs ∧ kws.isEmpty = true then some (.inl x) else none
  | .Name x _, [e] => if isG sc x = true ∧ kws.isEmpty = true ∧ notStar2 e = true then (nm.fx.lookup x).map fun f => .inr (x, f, e) else none
  | _, _ => none
/-- an instance that is made -/
def erNew (nm : Nm) (sc : Scope) (f : Expr) (kws : List Keyword) : Option (Str × Nat) := match f with
  | .Name x _ => if isG sc x = true ∧ kws.isEmpty = true then (nm.mks.lookup x).map fun i => (x, i) else none
  | _ => none
/-- a method that is called -/
def erMcl (nm : Nm) (f : Expr) (es : List Expr) (kws : List Keyword) (cpos : Pos) : Option (Expr × Str × List (Str × Nat)) := match f with
  | .Attribute o m apos => if kws.isEmpty = true ∧ notSuper o = true ∧ (apos.endLine == cpos.line) = true ∧ es.length < 30 then (nm.me.lookup m).map fun tab => (o, m, tab) else none
  | _ => none
def notSlice : Expr → Bool
  | .Slice _ _ _ _ => false
  | _ => true
/-- a dict of the top that is read -/
def erDix (nm : Nm) (sc : Scope) (e i : Expr) : Option (List (Str × Str)) := match e with
  | .Name x _ => if isG sc x = true ∧ notSlice i = true then nm.dt.lookup x else none
  | _ => none
def fmtE : Expr → Option Expr
  | .FormattedValue e c none _ => if c = -1 then some e else none
  | _ => none
/-- an f-string of two parts or more -/
def erFs (es : List Expr) : Option CE := if 2 ≤ es.length then (allSome (es.map fmtE)).bind fun es => (erAll er es).map fun cs => .fst (caOf cs) else none
def notSet : Expr → Bool
  | .Set _ _ _ => false
  | _ => true
def erVal (it : Expr) : Option CI := if notSet it = true then (er it).map .val else none
def isTup : Expr → Bool
  | .Tuple _ _ _ => true
  | _ => false
/-- what is walked -/
def erI (nm : Nm) (sc : Scope) (tg : Expr) (it : Expr) : Option CI := match it with
  | .Call (.Name x _) es kws _ => if isG sc x = true ∧ x ∈ nm.bl ∧ kws.isEmpty = true then
      (if x = "range" then (match es with
        | [a] => (er a).map fun a => .rng (caOf [a])
        | [a, b] => (er a).bind fun a => (er b).map fun b => .rng (caOf [a, b])
        | [a, b, c] => (er a).bind fun a => (er b).bind fun b => (er c).map fun c => .rng (caOf [a, b, c])
        | _ => none)
      else if x = "enumerate" then (match es with
        | [a] => if isTup tg = true then (er a).map .enu else none
        | _ => none)
      else if x = "zip" then (match es with
        | [a, b] => if isTup tg = true then (er a).bind fun a => (er b).map fun b => .zip a b else none
        | _ => none)
      else erVal er it) else erVal er it
  | .Call (.Attribute (.Name x _) m apos) [] [] cpos => if m = "items" ∧ isG sc x = true ∧ isTup tg = true ∧ (apos.endLine == cpos.line) = true then (match nm.dt.lookup x with
      | some tab => some (.dit tab)
      | none => erVal er it) else erVal er it
  | _ => erVal er it
end
def erIf (er : Expr → Option CE) (ifs : List Expr) : Option CE := match ifs with
  | [] => some (.cst (.bl true))
  | [c] => er c
  | _ => none
def erLc (nm : Nm) (N : List Str) (er : Scope → Expr → Option CE) (n : Nat) (sc : Scope) (elt : Expr) (gs : List Comprehension) (scope : Scope) : Option CE := match gs with
  | [⟨tg, it, ifs, k⟩] => if k = 0 ∧ blkC N sc scope (ownOf N scope) = true then
      (erT N (relS scope sc) (cells scope) n tg).bind fun t => (erI (er sc) nm sc tg it).bind fun i =>
        if subL t.ixs ((ownOf N scope).map (·.2)) = true then
          (erIf (er (relS scope sc)) ifs).bind fun c => (er (relS scope sc) elt).map fun e => .lc ((ownOf N scope).map (·.2)) t i c e
        else none
      else none
  | _ => none
def erDc (nm : Nm) (N : List Str) (er : Scope → Expr → Option CE) (n : Nat) (sc : Scope) (kx vx : Expr) (gs : List Comprehension) (scope : Scope) : Option CE :=
  (erLc nm N er n sc kx gs scope).bind fun a => (erLc nm N er n sc vx gs scope).bind fun b => match a, b with
    | .lc vs t i c ck, .lc _ _ _ _ cv => some (.dc vs t i c ck cv)
    | _, _ => none
def erE1 (nm : Nm) (N : List Str) (er : Scope → Expr → Option CE) (n : Nat) (sc : Scope) (e : Expr) : Option CE := match e with
  | .Constant c _ _ => erC c
  | .Name x _ => erName nm N sc x
  | .BinOp a op b _ => (er sc a).bind fun a => (er sc b).map fun b => .bin op a b
  | .UnaryOp op a _ => erUn (er sc) op a
  | .BoolOp op es _ => erBo (er sc) op es
  | .Compare a ops bs _ => erCmp (er sc) a ops bs
  | .IfExp c a b _ => (er sc c).bind fun c => (er sc a).bind fun a => (er sc b).map fun b => .ite c a b
  | .Tuple es _ _ => (erAll (er sc) es).map fun cs => .tup (caOf cs)
  | .List es _ => (erAll (er sc) es).map fun cs => .lst (caOf cs)
  | .Dict ks vs _ => if ks.length ≤ 15 then (pairUp ks vs).bind fun es => (erAll (er sc) es).map fun cs => .dct (caOf cs) else none
  | .Subscript e i _ => match erDix nm sc e i with
    | some tab => (er sc i).map fun c => .dix tab c
    | none => erSub (er sc) e i
  | .JoinedStr vs _ => erFs (er sc) vs
  | .Call f es kws cpos => match erIsx nm sc f es kws with
    | some (e, tab) => (er sc e).map fun c => .isx c tab
    | none => match erMk nm sc f es kws with
    | some (.inl x) => some (.mkx x)
    | some (.inr (x, f, e)) => (er sc e).map fun c => .mkf x f c
    | none => match erNew nm sc f kws with
    | some (x, i) => (erAll (er sc) es).map fun cs => .new x i (caOf cs)
    | none => match erMcl nm f es kws cpos with
    | some (o, m, tab) => (er sc o).bind fun o => (erAll (er sc) es).map fun cs => .mcl m tab o (caOf cs)
    | none => erCall (er sc) nm sc f es kws cpos
  | .Attribute e f _ => if notSuper e = true then (er sc e).map fun c => .fld c f else none
  | .ListComp elt gs scope _ => erLc nm N er n sc elt gs scope
  | .DictComp kx vx gs scope _ => erDc nm N er n sc kx vx gs scope
  | _ => none
def fzPos (p : Pos) : Nat := (p.line * 10000 + p.col) * 10000 + p.endCol
def fzw (nm : Nm) (e : Expr) (c : CE) : CE := match e with
  | .Tuple _ _ _ => c
  | e => if nm.fzp.contains (fzPos e.pos) = true then .fz c else c
/-- what is not known is never reached -/
def erE (nm : Nm) (N : List Str) : Nat → Scope → Expr → Option CE
  | 0, _, _ => none
  | n + 1, sc, e => if notStar2 e = true then some (fzw nm e ((erE1 nm N (erE nm N n) n sc e).getD .nvr)) else none
theorem fzw_or (nm : Nm) (e : Expr) (c : CE) : fzw nm e c = c ∨ (fzw nm e c = .fz c ∧ ∀ es k p, e ≠ .Tuple es k p) := by
  unfold fzw
  split
  · exact .inl rfl
  · rename_i h
    split
    · exact .inr ⟨rfl, fun es k p z => h es k p z⟩
    · exact .inl rfl
theorem erE_of {nm : Nm} {N : List Str} {n : Nat} {sc : Scope} {e : Expr} {c : CE} (h : erE nm N (n + 1) sc e = some c) : ∃ c', (c = c' ∨ (c = .fz c' ∧ ∀ es k p, e ≠ .Tuple es k p)) ∧ (c' = .nvr ∨ erE1 nm N (erE nm N n) n sc e = some c') := by
  simp only [erE] at h
  split at h
  · cases q : erE1 nm N (erE nm N n) n sc e with
    | none => rw [q] at h; cases h; exact ⟨.nvr, fzw_or nm e _, .inl rfl⟩
    | some c' => rw [q] at h; cases h; exact ⟨c', fzw_or nm e _, .inr rfl⟩
  · cases h
/-- a class that is raised -/
structure XcF (X : Cx) (x : Str) : Prop where
  ex : ∃ (C : Addr) (bmB : List Value) (B newId initId : String), X.mg x = some (.ref C) ∧ ClsN X.K x C ∧ PySem.W.keepIn X.K (.ref C) = true ∧ ExcBaseFacts B newId initId bmB ∧ PySem.W.excIn X.K C bmB newId = true ∧ L2.Raises X (.ref C) ∧ ExcC X.K C ∧ (x == ("__debug__" : Str)) = false
/-- a class by its name -/
def ClsV2 (X : Cx) (y : Str) (u : Value) : Prop := (y == ("__debug__" : Str)) = false ∧ ((X.mg y = some u ∧ ∃ C, u = .ref C) ∨ (X.mg y = none ∧ bootBuiltins y = some u ∧ y ≠ "__name__" ∧ ∃ t, u = .type t))
structure IsxF (X : Cx) (xs ys yes : List Str) : Prop where
  ex : ∃ us : List Value, us.length ≤ 1000 ∧ Paired (ClsV2 X) ys us ∧ ∀ x ∈ xs, ∀ C, ClsN X.K x C → PySem.W.kitAny X.K (.ref C) us = some (yes.contains x)
/-- a class that catches all that is raised -/
structure CatF (X : Cx) (xs : List Str) (c : Str) : Prop where
  ex : ∃ u, ClsV2 X c u ∧ ∀ x ∈ xs, ∀ C, ClsN X.K x C → PySem.W.exmOne X.K (.ref C) u = some true
/-- a class that keeps a field -/
structure FxF (X : Cx) (x f : Str) : Prop where
  ex : ∃ (C fI : Addr) (fd : FuncData) (pS pV : Str), X.mg x = some (.ref C) ∧ ClsN X.K x C ∧ FxC X.K C f ∧ PySem.W.findIn X.K (.ref C) "__init__" = some (some (.ref fI)) ∧ PySem.W.typeIn X.K (.ref fI) = some (.type "function") ∧ FnOk X.prog X.w X.K X.mg X.base (L2.CX X.prog X.w) 1 fI fd [pS, pV] (spI X.K f) ∧ Binds X.K fd [pS, pV] [] ∧ (x == ("__debug__" : Str)) = false
structure DtF (X : Cx) (x : Str) (tab : List (Str × Str)) : Prop where
  ex : ∃ d, X.mg x = some (.ref d) ∧ DtAt X.K X.w d tab ∧ (x == ("__debug__" : Str)) = false
/-- a class of the program's top whose instances are made by a def -/
structure MkF (X : Cx) (k : Nat) (x : Str) (F : List D → Store → R D) : Prop where
  ex : ∃ C f fd ps, X.mg x = some (.ref C) ∧ ClsN X.K x C ∧ Cls X.K C ∧ Mk X.K C f ∧ FnG X.prog X.w X.K X.mg X.base k f fd ps F ∧ Binds X.K fd ps [] ∧ (∀ ds S, ds.length ≠ ps.length → F ds S = .bad) ∧ (x == ("__debug__" : Str)) = false
/-- a method of a class -/
structure MeF (X : Cx) (k : Nat) (m c : Str) (F : List D → Store → R D) : Prop where
  ex : ∀ C, ClsN X.K c C → ∃ f fd ps, Cls X.K C ∧ Meth X.K C m f ∧ FnG X.prog X.w X.K X.mg X.base k f fd ps F ∧ Binds X.K fd ps [] ∧ ∀ ds S, ds.length ≠ ps.length → F ds S = .bad
/-- a class of an except clause -/
structure HdF (X : Cx) (xs : List Str) (c : Str) (yes : List Str) : Prop where
  ex : ∃ u, ClsV2 X c u ∧ ∀ x ∈ xs, ∀ C, ClsN X.K x C → PySem.W.exmOne X.K (.ref C) u = some (yes.contains x)
structure Gd (nm : Nm) (N : List Str) (G : Gv) (k : Nat) (X : Cx) : Prop where
  cg : Cg X
  n : X.N = N
  nd : N.Nodup
  room : Room (2 * k + 3) X.A
  fns : ∀ x i, nm.fn x = some i → FnAt X k x (G.fn i) ∧ (x == ("__debug__" : Str)) = false
  cts : ∀ x i d, nm.ct x = some i → G.ct i = some d → ∃ u v, X.mg x = some u ∧ RelV v u ∧ (∀ ι H, DR X.K ι H d v) ∧ (x == ("__debug__" : Str)) = false
  bls : ∀ x, x ∈ nm.bl → X.mg x = none
  xs : ∀ x, x ∈ nm.xs → XcF X x
  dt : ∀ p, p ∈ nm.dt → DtF X p.1 p.2
  ix : ∀ ys yes, nm.yes ys = some yes → IsxF X nm.held ys yes
  cat : ∀ c, c ∈ nm.cat → CatF X nm.xs c
  fx : ∀ p, p ∈ nm.fx → FxF X p.1 p.2
  hd : ∀ p, p ∈ nm.hd → HdF X nm.held p.1 p.2
  mks : ∀ p, p ∈ nm.mks → MkF X k p.1 (G.fn p.2)
  me : ∀ p, p ∈ nm.me → ∀ q, q ∈ p.2 → MeF X k p.1 q.1 (G.fn q.2)
  fl : ∀ p, p ∈ nm.fl → ∀ c, c ∈ p.2 → ∀ C, ClsN X.K c C → NoAttr X.K C p.1
theorem Gd.tr {nm : Nm} {N : List Str} {G : Gv} {k : Nat} {X : Cx} (g : Gd nm N G k X) (pn : List (Addr × Obj)) (xe : Value → Shared → Prop) : Gd nm N G k (X.tr pn xe) where
  cg := ⟨g.cg.calm, g.cg.un, g.cg.gu, g.cg.sm⟩
  n := g.n
  nd := g.nd
  room := g.room
  fns := fun x i h => ⟨⟨(g.fns x i h).1.ex⟩, (g.fns x i h).2⟩
  cts := g.cts
  bls := g.bls
  xs := fun x h => ⟨(g.xs x h).ex⟩
  dt := fun p h => ⟨(g.dt p h).ex⟩
  ix := fun ys yes h => ⟨(g.ix ys yes h).ex⟩
  cat := fun c h => ⟨(g.cat c h).ex⟩
  fx := fun p h => ⟨(g.fx p h).ex⟩
  hd := fun p h => ⟨(g.hd p h).ex⟩
  mks := fun p h => ⟨(g.mks p h).ex⟩
  me := fun p h q hq => ⟨(g.me p h q hq).ex⟩
  fl := g.fl
theorem Gd.blk {nm : Nm} {N : List Str} {G : Gv} {k : Nat} {X : Cx} (g : Gd nm N G k X) (s : Shared) (H : Hp) (scope : Scope) (cenv : Env) (fp : List Addr) : Gd nm N G k (X.blk s H scope cenv fp) where
  cg := ⟨g.cg.calm, g.cg.un, g.cg.gu, g.cg.sm⟩
  n := g.n
  nd := g.nd
  room := g.room
  fns := fun x i h => ⟨⟨(g.fns x i h).1.ex⟩, (g.fns x i h).2⟩
  cts := g.cts
  bls := g.bls
  xs := fun x h => ⟨(g.xs x h).ex⟩
  dt := fun p h => ⟨(g.dt p h).ex⟩
  ix := fun ys yes h => ⟨(g.ix ys yes h).ex⟩
  cat := fun c h => ⟨(g.cat c h).ex⟩
  fx := fun p h => ⟨(g.fx p h).ex⟩
  hd := fun p h => ⟨(g.hd p h).ex⟩
  mks := fun p h => ⟨(g.mks p h).ex⟩
  me := fun p h q hq => ⟨(g.me p h q hq).ex⟩
  fl := g.fl
def notStar : Expr → Bool
  | .Starred _ _ => false
  | _ => true
theorem star_map : ∀ {es : List Expr} (env : Env), es.all notStar = true → starEach es env = es.map fun e => (false, eval e env)
  | [], env, _ => rfl
  | e :: es, env, h => by
    rw [List.all_cons, Bool.and_eq_true] at h
    have ih := star_map env h.2
    cases e with
    | Starred _ _ => exact absurd h.1 Bool.false_ne_true
    | _ => rw [List.map_cons, ← ih] <;> rfl
theorem star_cons {e : Expr} {es : List Expr} (env : Env) (h : (e :: es).all notStar = true) : starEach (e :: es) env = (false, eval e env) :: starEach es env := by
  rw [star_map env h, star_map env (by rw [List.all_cons, Bool.and_eq_true] at h; exact h.2)] <;> rfl
theorem star_plain {es : List Expr} (env : Env) (pos : Pos) (h : es.all notStar = true) : (backTo pos (starEach es env)).any (·.1) = false := by
  rw [star_map env h]
  simp [backTo]
theorem star_all {es : List Expr} (env : Env) (pos : Pos) (h : es.all notStar = true) : (backTo pos (starEach es env)).all (fun x => !x.1) = true := by
  rw [star_map env h]
  simp [backTo]
theorem base_of {o : Expr} {name : Str} {env : Env} {whole : Sem Value} (h : notSuper o = true) : attributeBase o name env whole = whole := by
  unfold attributeBase
  split
  · rename_i id _ _
    have : id ≠ "super" := of_decide_eq_true h
    simp [this, bne]
  · rfl
section
variable {nm : Nm} {N : List Str} {G : Gv} {k : Nat} {X : Cx}
theorem erE_star {n : Nat} {sc : Scope} {e : Expr} {c : CE} (h : erE nm N n sc e = some c) : notStar e = true := by
  cases n with
  | zero => cases h
  | succ n =>
    simp only [erE] at h
    split at h
    · rename_i hs
      cases e with
      | Starred _ _ => cases hs
      | _ => rfl
    · cases h
theorem all_star {n : Nat} {sc : Scope} : ∀ {es : List Expr} {cs : List CE}, erAll (erE nm N n sc) es = some cs → es.all notStar = true
  | [], _, _ => rfl
  | e :: es, cs, h => by
    unfold erAll at h
    rw [List.map_cons] at h
    obtain ⟨t, ts', h1, h2, rfl⟩ := allSome_cons h
    rw [List.all_cons, erE_star h1, all_star (show erAll (erE nm N n sc) es = some ts' from h2)] <;> rfl
/-- an expression's two readings -/
structure EP2 (X : Cx) (G : Gv) (e : Expr) (c : CE) : Prop where
  pe : PE X e (TEc G X.K c)
  pt : PT X e (TTc G X.K c)
theorem EP2.of {e : Expr} {c : CE} (h : PE X e (TEc G X.K c)) (he : ∀ whole, isTrue e X.env whole = (do let v ← whole; standAt e.pos; holding [v] (truthy v))) : EP2 X G e c := by
  refine ⟨h, (pt_val h he).imp fun σ H Q q => ?_⟩
  obtain ⟨ι, S, L, so, lo, res⟩ := q
  exact ⟨ι, S, L, so, lo, res⟩
theorem pa_of : ∀ {es : List Expr} {cs : List CE} {er : Expr → Option CE}, erAll er es = some cs → es.all notStar = true → (∀ e c, er e = some c → EP2 X G e c) → PA X es (TAc G X.K (caOf cs))
  | [], cs, er, h, _, _ => by
    cases h
    exact pa_nil.imp fun σ H Q q => by
      obtain ⟨ι, S, L, so, lo, res⟩ := q
      exact res ι H [] (List.prefix_refl ι) (Xt.refl H) so rfl
  | e :: es, cs, er, h, hs, hp => by
    unfold erAll at h
    rw [List.map_cons] at h
    obtain ⟨t, ts', h1, h2, rfl⟩ := allSome_cons h
    refine (pa_cons (hp e t h1).pe (pa_of (show erAll er es = some ts' from h2) (by rw [List.all_cons, Bool.and_eq_true] at hs; exact hs.2) hp) (star_cons X.env hs)).imp fun σ H Q q => ?_
    obtain ⟨ι, S, L, so, lo, res⟩ := q
    obtain ⟨d, S1, e1, res⟩ := ResA.step res
    refine TEc.of so lo e1 fun ι1 H1 v p1 x1 so1 r1 => ?_
    obtain ⟨ds, S2, e2, res⟩ := ResA.step (res.mono p1 x1)
    refine TAc.of so1 (lo.mono p1 x1) e2 fun ι2 H2 vs p2 x2 so2 r2 => ?_
    exact res ι2 H2 (v :: vs) p2 x2 so2 ⟨v, vs, rfl, r1.mono p2 x2 _, r2⟩
/-- two values in a row -/
theorem two {ca cb : CE} {f : D → D → Store → R D} {ι : List Addr} {S : Store} {L : Lcs} {σ : St} {H : Hp} {Q : VK} (so : Sok X.K ι H S) (lo : Lok X.K ι H L σ)
    (res : Res X.K ι H ((evE G ca L S).bind fun x S1 => (evE G cb L S1).bind fun y S2 => f x y S2) Q) : tOp (RO X.K f) (TEc G X.K ca) (TEc G X.K cb) σ H Q := by
  obtain ⟨d, S1, e1, res⟩ := Res.step res
  refine TEc.of so lo e1 fun ι1 H1 v p1 x1 so1 r1 => ?_
  obtain ⟨d2, S2, e2, res⟩ := Res.step (res.mono p1 x1)
  refine TEc.of so1 (lo.mono p1 x1) e2 fun ι2 H2 v2 p2 x2 so2 r2 => ?_
  exact ⟨ι2, S2, d, d2, so2, r1.mono p2 x2 _, r2, res.mono p2 x2⟩
end
end Mi
namespace Mi
open PySem L2
section
variable {nm : Nm} {N : List Str} {G : Gv} {k : Nat} {X : Cx}
theorem ep_cst {e : Expr} {d : D} {v : V} (h : PE X e (tC v)) (r : ∀ ι H, DR X.K ι H d v) (he : ∀ whole, isTrue e X.env whole = (do let v ← whole; standAt e.pos; holding [v] (truthy v))) : EP2 X G e (.cst d) :=
  .of (h.imp fun σ H Q q => by
    obtain ⟨ι, S, L, so, lo, res⟩ := q
    exact res ι H v (List.prefix_refl ι) (Xt.refl H) so (r ι H)) he
theorem ep_bin {a b : Expr} {ca cb : CE} {op : Operator} {pos : Pos} (ha : EP2 X G a ca) (hb : EP2 X G b cb) : EP2 X G (.BinOp a op b pos) (.bin op ca cb) :=
  .of ((pe_op (op_bin op) ha.pe hb.pe).imp fun σ H Q ⟨ι, S, L, so, lo, res⟩ => two so lo res) fun _ => rfl
theorem ep_neg {a : Expr} {ca : CE} {pos : Pos} (ha : EP2 X G a ca) : EP2 X G (.UnaryOp .USub a pos) (.neg ca) :=
  .of ((pe_un un_negD ha.pe).imp fun σ H Q ⟨ι, S, L, so, lo, res⟩ => by
    obtain ⟨d, S1, e1, res⟩ := Res.step res
    refine TEc.of so lo e1 fun ι1 H1 v p1 x1 so1 r1 => ?_
    exact ⟨ι1, S1, d, so1, r1, res.mono p1 x1⟩) fun _ => rfl
theorem ep_not {a : Expr} {ca : CE} {pos : Pos} (ha : EP2 X G a ca) : EP2 X G (.UnaryOp .Not a pos) (.not ca) := by
  refine ⟨(pe_not ha.pe).imp fun σ H Q ⟨ι, S, L, so, lo, res⟩ => ?_, (pt_not ha.pt).imp fun σ H Q ⟨ι, S, L, so, lo, res⟩ => ?_⟩
  · obtain ⟨d, S1, e1, res⟩ := Res.step res
    obtain ⟨b, rfl, res⟩ := ifB_res res
    refine TEc.of so lo e1 fun ι1 H1 v p1 x1 so1 r1 => ⟨b, r1, ?_⟩
    have res := res.mono p1 x1
    cases b
    · exact res.val so1 (show DR X.K ι1 H1 (.bl true) (.bl true) from rfl)
    · exact res.val so1 (show DR X.K ι1 H1 (.bl false) (.bl false) from rfl)
  · obtain ⟨d, S1, e1, res⟩ := Res.step res
    obtain ⟨b, rfl, res⟩ := ifB_res res
    refine TTc.of so lo e1 fun ι1 H1 p1 x1 so1 => ?_
    have res := res.mono p1 x1
    cases b
    · obtain ⟨c, ec, q⟩ := res.val so1 (show DR X.K ι1 H1 (.bl true) (.bl true) from rfl)
      cases ec; exact q
    · obtain ⟨c, ec, q⟩ := res.val so1 (show DR X.K ι1 H1 (.bl false) (.bl false) from rfl)
      cases ec; exact q
theorem boolTail {b : CE} {ι : List Addr} {H : Hp} {S : Store} {L : Lcs} {Q : VK} (res : Res X.K ι H ((evE G b L S).bind fun y S2 => ifB y (.ok (.bl true) S2) (.ok (.bl false) S2)) Q) : Res X.K ι H (evE G b L S) Q := by
  obtain ⟨d, S1, e1, res⟩ := Res.step res
  obtain ⟨c, rfl, res⟩ := ifB_res res
  rw [e1]
  cases c <;> exact res
theorem ep_and1 {a : Expr} {ca : CE} {pos : Pos} (ha : EP2 X G a ca) : EP2 X G (.BoolOp .And [a] pos) ca ∧ PW X (.BoolOp .And [a] pos) (TTc G X.K ca) := ⟨⟨pe_one ha.pe, (pw_and1 ha.pt).pt⟩, pw_and1 ha.pt⟩
theorem ep_or1 {a : Expr} {ca : CE} {pos : Pos} (ha : EP2 X G a ca) : EP2 X G (.BoolOp .Or [a] pos) ca ∧ PW X (.BoolOp .Or [a] pos) (TTc G X.K ca) := ⟨⟨pe_one ha.pe, (pw_or1 ha.pt).pt⟩, pw_or1 ha.pt⟩
theorem ep_and2 {a b : Expr} {rest : List Expr} {ca cb : CE} {pos : Pos} (ha : EP2 X G a ca) (hb : EP2 X G (.BoolOp .And (b :: rest) pos) cb) (hw : PW X (.BoolOp .And (b :: rest) pos) (TTc G X.K cb)) :
    EP2 X G (.BoolOp .And (a :: b :: rest) pos) (.and ca cb) ∧ PW X (.BoolOp .And (a :: b :: rest) pos) (TTc G X.K (.and ca cb)) := by
  have pw : PW X (.BoolOp .And (a :: b :: rest) pos) (TTc G X.K (.and ca cb)) := (pw_and ha.pt hw).imp fun σ H Q ⟨ι, S, L, so, lo, res⟩ => by
    obtain ⟨d, S1, e1, res⟩ := Res.step res
    obtain ⟨c, rfl, res⟩ := ifB_res res
    refine TTc.of so lo e1 fun ι1 H1 p1 x1 so1 => ?_
    have res := res.mono p1 x1
    cases c
    · obtain ⟨c, ec, q⟩ := res.val so1 (show DR X.K ι1 H1 (.bl false) (.bl false) from rfl)
      cases ec; exact q
    · exact ⟨ι1, S1, L, so1, lo.mono p1 x1, boolTail res⟩
  refine ⟨⟨(pe_and ha.pe hb.pe).imp fun σ H Q ⟨ι, S, L, so, lo, res⟩ => ?_, pw.pt⟩, pw⟩
  obtain ⟨d, S1, e1, res⟩ := Res.step res
  obtain ⟨c, rfl, res⟩ := ifB_res res
  refine TEc.of so lo e1 fun ι1 H1 v p1 x1 so1 r1 => ⟨c, r1, ?_⟩
  have res := res.mono p1 x1
  cases c
  · exact res.val so1 (show DR X.K ι1 H1 (.bl false) (.bl false) from rfl)
  · exact ⟨ι1, S1, L, so1, lo.mono p1 x1, boolTail res⟩
theorem ep_or2 {a b : Expr} {rest : List Expr} {ca cb : CE} {pos : Pos} (ha : EP2 X G a ca) (hb : EP2 X G (.BoolOp .Or (b :: rest) pos) cb) (hw : PW X (.BoolOp .Or (b :: rest) pos) (TTc G X.K cb)) :
    EP2 X G (.BoolOp .Or (a :: b :: rest) pos) (.or ca cb) ∧ PW X (.BoolOp .Or (a :: b :: rest) pos) (TTc G X.K (.or ca cb)) := by
  have pw : PW X (.BoolOp .Or (a :: b :: rest) pos) (TTc G X.K (.or ca cb)) := (pw_or ha.pt hw).imp fun σ H Q ⟨ι, S, L, so, lo, res⟩ => by
    obtain ⟨d, S1, e1, res⟩ := Res.step res
    obtain ⟨c, rfl, res⟩ := ifB_res res
    refine TTc.of so lo e1 fun ι1 H1 p1 x1 so1 => ?_
    have res := res.mono p1 x1
    cases c
    · exact ⟨ι1, S1, L, so1, lo.mono p1 x1, boolTail res⟩
    · obtain ⟨c, ec, q⟩ := res.val so1 (show DR X.K ι1 H1 (.bl true) (.bl true) from rfl)
      cases ec; exact q
  refine ⟨⟨(pe_or ha.pe hb.pe).imp fun σ H Q ⟨ι, S, L, so, lo, res⟩ => ?_, pw.pt⟩, pw⟩
  obtain ⟨d, S1, e1, res⟩ := Res.step res
  obtain ⟨c, rfl, res⟩ := ifB_res res
  refine TEc.of so lo e1 fun ι1 H1 v p1 x1 so1 r1 => ⟨c, r1, ?_⟩
  have res := res.mono p1 x1
  cases c
  · exact ⟨ι1, S1, L, so1, lo.mono p1 x1, boolTail res⟩
  · exact res.val so1 (show DR X.K ι1 H1 (.bl true) (.bl true) from rfl)
theorem ep_andL {pos : Pos} {er : Expr → Option CE} (hp : ∀ e c, er e = some c → EP2 X G e c) : ∀ {es : List Expr} {cs : List CE}, es ≠ [] → erAll er es = some cs → EP2 X G (.BoolOp .And es pos) (andL cs) ∧ PW X (.BoolOp .And es pos) (TTc G X.K (andL cs))
  | [], _, h, _ => absurd rfl h
  | [a], cs, _, h => by
    unfold erAll at h
    rw [List.map_cons] at h
    obtain ⟨t, ts, h1, h2, rfl⟩ := allSome_cons h
    cases h2
    exact ep_and1 (hp a t h1)
  | a :: b :: rest, cs, _, h => by
    unfold erAll at h
    rw [List.map_cons] at h
    obtain ⟨t, ts, h1, h2, rfl⟩ := allSome_cons h
    obtain ⟨i1, i2⟩ := ep_andL hp (es := b :: rest) (cs := ts) (by simp) h2
    rw [List.map_cons] at h2
    obtain ⟨t2, ts2, _, _, rfl⟩ := allSome_cons h2
    exact ep_and2 (hp a t h1) i1 i2
theorem ep_orL {pos : Pos} {er : Expr → Option CE} (hp : ∀ e c, er e = some c → EP2 X G e c) : ∀ {es : List Expr} {cs : List CE}, es ≠ [] → erAll er es = some cs → EP2 X G (.BoolOp .Or es pos) (orL cs) ∧ PW X (.BoolOp .Or es pos) (TTc G X.K (orL cs))
  | [], _, h, _ => absurd rfl h
  | [a], cs, _, h => by
    unfold erAll at h
    rw [List.map_cons] at h
    obtain ⟨t, ts, h1, h2, rfl⟩ := allSome_cons h
    cases h2
    exact ep_or1 (hp a t h1)
  | a :: b :: rest, cs, _, h => by
    unfold erAll at h
    rw [List.map_cons] at h
    obtain ⟨t, ts, h1, h2, rfl⟩ := allSome_cons h
    obtain ⟨i1, i2⟩ := ep_orL hp (es := b :: rest) (cs := ts) (by simp) h2
    rw [List.map_cons] at h2
    obtain ⟨t2, ts2, _, _, rfl⟩ := allSome_cons h2
    exact ep_or2 (hp a t h1) i1 i2
theorem ep_cmp {a b : Expr} {ca cb : CE} {op : CmpOp} {pos : Pos} (c : Cg X) (ha : EP2 X G a ca) (hb : EP2 X G b cb) (hm : behindInMarks op b = false) : EP2 X G (.Compare a [op] [b] pos) (.cmp op ca cb) :=
  ⟨(pe_cmpR (op_cmp c op) ha.pe hb.pe hm).imp fun σ H Q ⟨ι, S, L, so, lo, res⟩ => two so lo (Res.ungc so res),
   (pt_cmpR (op_cmp c op) ha.pe hb.pe hm).imp fun σ H Q ⟨ι, S, L, so, lo, res⟩ => two so lo (Res.ungc so res)⟩
theorem chain_go {ca cb cc : CE} {p q : CmpOp} {σ : St} {H : Hp} {Q : VK} (h : TEc G X.K (.chn p q ca cb cc) σ H Q) :
    tChain (RO X.K (cmpD p)) (RO X.K (cmpD q)) (TEc G X.K ca) (TEc G X.K cb) (TEc G X.K cc) σ H Q := by
  obtain ⟨ι, S, L, so, lo, res⟩ := h
  obtain ⟨d, S1, e1, res⟩ := Res.step (Res.ungc so res)
  refine TEc.of so lo e1 fun ι1 H1 v p1 x1 so1 r1 => ?_
  obtain ⟨d2, S2, e2, res⟩ := Res.step (res.mono p1 x1)
  have lo1 := lo.mono p1 x1
  refine TEc.of so1 lo1 e2 fun ι2 H2 v2 p2 x2 so2 r2 => ?_
  obtain ⟨z, S3, e3, res⟩ := Res.step (res.mono p2 x2)
  refine ⟨ι2, S2, d, d2, so2, r1.mono p2 x2 _, r2, ?_⟩
  rw [e3]
  obtain ⟨b, rfl, res⟩ := ifB_res res
  refine fun ι3 H3 v3 p3 x3 so3 r3 => ⟨b, r3, ?_⟩
  have lo3 := (lo1.mono p2 x2).mono p3 x3
  have res := res.mono p3 x3
  cases b
  · exact res.val so3 (show DR X.K ι3 H3 (.bl false) (.bl false) from rfl)
  · obtain ⟨w, S4, e4, res⟩ := Res.step res
    refine TEc.of so3 lo3 e4 fun ι4 H4 v4 p4 x4 so4 r4 => ?_
    exact ⟨ι4, S4, d2, w, so4, (r2.mono p3 x3 _).mono p4 x4 _, r4, res.mono p4 x4⟩
theorem ep_chn {a b c : Expr} {ca cb cc : CE} {p q : CmpOp} {pos : Pos} (cg : Cg X) (ha : EP2 X G a ca) (hb : EP2 X G b cb) (hc : EP2 X G c cc) (hm : lastMarks [p, q] [b, c] = false) : EP2 X G (.Compare a [p, q] [b, c] pos) (.chn p q ca cb cc) :=
  ⟨(pe_chain (op_cmp cg p) (op_cmp cg q) ha.pe hb.pe hc.pe hm).imp fun σ H Q h => chain_go h,
   (pt_chain (op_cmp cg p) (op_cmp cg q) ha.pe hb.pe hc.pe hm).imp fun σ H Q h => chain_go h⟩
theorem ep_ite {c a b : Expr} {cc ca cb : CE} {pos : Pos} (hc : EP2 X G c cc) (ha : EP2 X G a ca) (hb : EP2 X G b cb) : EP2 X G (.IfExp c a b pos) (.ite cc ca cb) := by
  refine ⟨(pe_ifExp hc.pt ha.pe hb.pe).imp fun σ H Q ⟨ι, S, L, so, lo, res⟩ => ?_, ⟨fun pins s σ H Q I ⟨ι, S, L, so, lo, res⟩ => ?_⟩⟩
  · obtain ⟨d, S1, e1, res⟩ := Res.step res
    obtain ⟨t, rfl, res⟩ := ifB_res res
    refine TTc.of so lo e1 fun ι1 H1 p1 x1 so1 => ?_
    have res := res.mono p1 x1
    cases t
    · exact ⟨ι1, S1, L, so1, lo.mono p1 x1, res⟩
    · exact ⟨ι1, S1, L, so1, lo.mono p1 x1, res⟩
  · obtain ⟨d, S1, e1, res⟩ := Res.step res
    obtain ⟨t, rfl, res⟩ := ifB_res res
    refine PyProof.Rows.isTrue_IfExp (thn (hc.pt.run pins s σ H (fun b H1 => if b = true then TTc G X.K ca σ H1 Q else TTc G X.K cb σ H1 Q) I (TTc.of so lo e1 fun ι1 H1 p1 x1 so1 => ?_)) fun d s1 ⟨H1, I1, q1⟩ => ?_)
    · have res := res.mono p1 x1
      cases t
      · exact ⟨ι1, S1, L, so1, lo.mono p1 x1, res⟩
      · exact ⟨ι1, S1, L, so1, lo.mono p1 x1, res⟩
    · cases d with
      | true => exact ha.pt.run pins s1 σ H1 Q I1 q1
      | false => exact hb.pt.run pins s1 σ H1 Q I1 q1
theorem args_go {as : CA} {f : List D → Store → R D} {ι : List Addr} {S : Store} {L : Lcs} {σ : St} {H : Hp} {Q : VK} (so : Sok X.K ι H S) (lo : Lok X.K ι H L σ)
    (res : Res X.K ι H ((evA G as L S).bind f) Q) : tCB (RC X.K f) (TAc G X.K as) σ H Q := by
  obtain ⟨ds, S1, e1, res⟩ := Res.step res
  refine TAc.of so lo e1 fun ι1 H1 vs p1 x1 so1 r1 => ?_
  exact ⟨ι1, S1, ds, so1, r1, res.mono p1 x1⟩
theorem ep_tup {es : List Expr} {as : CA} {kk : Nat} {pos : Pos} (ha : PA X es (TAc G X.K as)) : EP2 X G (.Tuple es kk pos) (.tup as) :=
  .of ((pe_tup ha).imp fun σ H Q ⟨ι, S, L, so, lo, res⟩ => by
    obtain ⟨ds, S1, e1, res⟩ := Res.step res
    obtain ⟨hb, res⟩ := okIf_res res
    refine TAc.of so lo e1 fun ι1 H1 vs p1 x1 so1 r1 => ?_
    have hl : vs.length ≤ sizeLine := by rw [r1.length]; exact of_decide_eq_true hb
    exact ⟨hl, fun p hp => (res.mono p1 x1).newT so1 r1 hp⟩) fun _ => rfl
theorem ep_lst {es : List Expr} {as : CA} {pos : Pos} (ha : PA X es (TAc G X.K as)) : EP2 X G (.List es pos) (.lst as) :=
  .of ((pe_lst ha).imp fun σ H Q ⟨ι, S, L, so, lo, res⟩ => by
    obtain ⟨ds, S1, e1, res⟩ := Res.step res
    split at res
    · rename_i hb
      refine TAc.of so lo e1 fun ι1 H1 vs p1 x1 so1 r1 => ?_
      have hl : vs.length ≤ sizeLine := by rw [r1.length]; exact of_decide_eq_true hb
      exact ⟨hl, fun p hp => (res.mono p1 x1).newL so1 r1 hp⟩
    · exact res.elim) fun _ => rfl
end
end Mi
namespace Mi
open PySem L2
section
variable {nm : Nm} {N : List Str} {G : Gv} {k : Nat} {X : Cx}
def trs (G : Gv) (K : PySem.W.Frag) : List CE → List (TE × TE)
  | a :: b :: r => (TEc G K a, TEc G K b) :: trs G K r
  | _ => []
theorem pps_of {pos : Pos} {er : Expr → Option CE} (hp : ∀ e c, er e = some c → EP2 X G e c) : ∀ {ks : List (Option Expr)} {vs es : List Expr} {cs : List CE}, pairUp ks vs = some es → erAll er es = some cs →
    PPs X pos ks vs (trs G X.K cs) ∧ ks.all (·.isSome) = true ∧ ks.length = vs.length
  | [], [], es, cs, h, h2 => by
    cases h
    cases h2
    exact ⟨pps_nil, rfl, rfl⟩
  | [], v :: vs, _, _, h, _ => by cases h
  | none :: ks, _, _, _, h, _ => by cases h
  | some _ :: ks, [], _, _, h, _ => by cases h
  | some e :: ks, v :: vs, es, cs, h, h2 => by
    simp only [pairUp] at h
    obtain ⟨r, hr, rfl⟩ := Option.map_eq_some_iff.mp h
    unfold erAll at h2
    rw [List.map_cons] at h2
    obtain ⟨t, ts, h1, h5, rfl⟩ := allSome_cons h2
    rw [List.map_cons] at h5
    obtain ⟨t2, ts2, h3, h4, rfl⟩ := allSome_cons h5
    obtain ⟨i1, i2, i3⟩ := pps_of hp hr h4
    exact ⟨pps_cons (hp e t h1).pe (hp v t2 h3).pe i1, by simpa using i2, by simp [i3]⟩
/-- keys and values, one after another -/
def flat : List (V × V) → List V
  | [] => []
  | (a, b) :: r => a :: b :: flat r
theorem pairs_go : ∀ (n : Nat) {cs : List CE} {σ : St} {H : Hp} {Q : List (V × V) → Hp → Prop} {ι : List Addr} {S S' : Store} {L : Lcs} {ds : List D}, cs.length = n + n → Sok X.K ι H S → Lok X.K ι H L σ → evA G (caOf cs) L S = .ok ds S' →
    (∀ ι' H' ps, ι <+: ι' → Xt H H' → Sok X.K ι' H' S' → DRs X.K ι' H' ds (flat ps) → Q ps H') → tPairs (trs G X.K cs) σ H Q
  | 0, cs, σ, H, Q, ι, S, S', L, ds, hn, so, lo, e, q => by
    cases cs with
    | cons _ _ => simp at hn
    | nil =>
      cases e
      exact q ι H [] (List.prefix_refl ι) (Xt.refl H) so rfl
  | n + 1, cs, σ, H, Q, ι, S, S', L, ds, hn, so, lo, e, q => by
    match cs, hn with
    | [], hn => simp at hn
    | [_], hn => simp at hn; omega
    | a :: b :: r, hn =>
      have e : ((evE G a L S).bind fun d S1 => ((evE G b L S1).bind fun d S1 => (evA G (caOf r) L S1).bind fun ds S2 => .ok (d :: ds) S2).bind fun ds S2 => .ok (d :: ds) S2) = .ok ds S' := e
      cases e1 : evE G a L S with
      | bad => rw [e1] at e; cases e
      | exc _ _ => rw [e1] at e; cases e
      | ok d1 S1 =>
        rw [e1, R.bind_ok] at e
        cases e2 : evE G b L S1 with
        | bad => rw [e2] at e; cases e
        | exc _ _ => rw [e2] at e; cases e
        | ok d2 S2 =>
          rw [e2, R.bind_ok] at e
          cases e3 : evA G (caOf r) L S2 with
          | bad => rw [e3] at e; cases e
          | exc _ _ => rw [e3] at e; cases e
          | ok d3 S3 =>
            rw [e3, R.bind_ok, R.bind_ok] at e
            cases e
            refine TEc.of so lo e1 fun ι1 H1 v1 p1 x1 so1 r1 => ?_
            refine TEc.of so1 (lo.mono p1 x1) e2 fun ι2 H2 v2 p2 x2 so2 r2 => ?_
            refine pairs_go n (by simp at hn; omega) so2 ((lo.mono p1 x1).mono p2 x2) e3 fun ι3 H3 ps p3 x3 so3 r3 => ?_
            exact q ι3 H3 ((v1, v2) :: ps) ((p1.trans p2).trans p3) ((x1.trans x2).trans x3) so3 ⟨v1, _, rfl, (r1.mono p2 x2 _).mono p3 x3 _, v2, _, rfl, r2.mono p3 x3 _, r3⟩
theorem dct_vals {K : PySem.W.Frag} {ι : List Addr} {H : Hp} : ∀ {ds : List D} {kvs : List (Key × D)} {ps : List (V × V)}, dctD ds = some kvs → DRs K ι H ds (flat ps) → ∃ vs : List (Key × V), KR K ι H kvs vs ∧ ps = vs.map fun kv => (kV kv.1, kv.2)
  | [], kvs, ps, e, r => by
    cases e
    cases ps with
    | nil => exact ⟨[], ⟨rfl, rfl⟩, rfl⟩
    | cons p ps => exact absurd r (by simp [flat, DRs])
  | [_], kvs, ps, e, r => by simp [dctD] at e
  | d1 :: d2 :: ds, kvs, ps, e, r => by
    simp only [dctD] at e
    split at e
    · rename_i k kr hk hr
      cases e
      cases ps with
      | nil => 
        obtain ⟨v, vr, e1, _⟩ := r
        cases e1
      | cons p ps =>
        obtain ⟨v, vr, e1, a1, v2, vr2, e2, a2, a3⟩ := r
        cases e2
        obtain ⟨p1, p2⟩ := p
        have e1 : p1 :: p2 :: flat ps = v :: v2 :: vr2 := e1
        injection e1 with q1 q2
        injection q2 with q2 q3
        subst q1 q2 q3
        obtain ⟨vs, h1, h2⟩ := dct_vals hr a3
        have := keyOf_kV hk a1
        subst this
        refine ⟨(k, p2) :: vs, ⟨by simp [h1.1], ?_⟩, by simp [h2]⟩
        exact ⟨p2, _, rfl, a2, h1.2⟩
    · cases e
theorem pair_len {er : Expr → Option CE} : ∀ {ks : List (Option Expr)} {vs es : List Expr} {cs : List CE}, pairUp ks vs = some es → erAll er es = some cs → ∃ n, cs.length = n + n
  | [], [], es, cs, h, h2 => by
    cases h
    cases h2
    exact ⟨0, rfl⟩
  | [], v :: vs, _, _, h, _ => by cases h
  | none :: ks, _, _, _, h, _ => by cases h
  | some _ :: ks, [], _, _, h, _ => by cases h
  | some e :: ks, v :: vs, es, cs, h, h2 => by
    simp only [pairUp] at h
    obtain ⟨r, hr, rfl⟩ := Option.map_eq_some_iff.mp h
    unfold erAll at h2
    rw [List.map_cons] at h2
    obtain ⟨t, ts, _, h5, rfl⟩ := allSome_cons h2
    rw [List.map_cons] at h5
    obtain ⟨t2, ts2, _, h4, rfl⟩ := allSome_cons h5
    obtain ⟨n, hn⟩ := pair_len hr (show erAll er r = some ts2 from h4)
    exact ⟨n + 1, by simp [hn]; omega⟩
theorem ep_dct {ks : List (Option Expr)} {vs es : List Expr} {cs : List CE} {pos : Pos} {er : Expr → Option CE} (hp : ∀ e c, er e = some c → EP2 X G e c) (h15 : ks.length ≤ 15) (h1 : pairUp ks vs = some es) (h2 : erAll er es = some cs) : EP2 X G (.Dict ks vs pos) (.dct (caOf cs)) := by
  refine .of ?_ fun _ => rfl
  by_cases h0 : ks = []
  · subst h0
    cases vs with
    | cons _ _ => cases h1
    | nil =>
      cases h1
      cases h2
      refine pe_dnewK.imp fun σ H Q ⟨ι, S, L, so, lo, res⟩ p hp => ?_
      have e : evE G (.dct (caOf [])) L S = .ok (.ref S.length) (S ++ [.dK []]) := by
        simp [evE, evA, caOf, dctD, mergeD]
      rw [e] at res
      have nw := so.push hp (o := .dK []) (c := .dK []) ⟨[], upd_same, rfl, rfl⟩
      exact res (ι ++ [p]) _ _ (List.prefix_append ..) (Xt.new hp) nw ⟨p, by simp [so.len], rfl⟩
  · obtain ⟨pp, hall, hl⟩ := pps_of (pos := pos) hp h1 h2
    refine (pe_disp pp hall hl h0 h15).imp fun σ H Q ⟨ι, S, L, so, lo, res⟩ p hp => ?_
    obtain ⟨ds, S1, e1, res⟩ := Res.step res
    split at res
    · rename_i kvs hd hc
      split at res
      · rename_i h15'
        have x0 := Xt.new (o := .dK []) hp
        have nw := so.push hp (o := .dK []) (c := .dK []) ⟨[], upd_same, rfl, rfl⟩
        have pre : ι <+: ι ++ [p] := List.prefix_append ..
        obtain ⟨n, hn⟩ := pair_len h1 h2
        refine pairs_go n hn nw (lo.mono pre x0) e1 fun ι2 H2 ps p2 x2 so2 r2 => ?_
        obtain ⟨vs', kr, eps⟩ := dct_vals hd r2
        have ea : ι2[S.length]? = some p := pre_get p2 (by simp [so.len])
        obtain ⟨a, ea', ck⟩ := so2.at hc
        rw [ea] at ea'; cases ea'
        obtain ⟨ws, hw, kw⟩ := ck
        have : ws = [] := by
          have := kw.1
          cases ws with
          | nil => rfl
          | cons _ _ => simp at this
        subst this
        refine ⟨hw, vs', eps, by rw [kr.length]; exact h15', ?_⟩
        obtain ⟨s3, x3⟩ := so2.put (o := .dK (mergeK [] vs')) (c' := .dK (mergeD [] kvs)) ea hc rfl fun x => ⟨_, upd_same, (KR.merge (kvs := []) (vs := []) ⟨rfl, rfl⟩ kr).mono (List.prefix_refl _) x⟩
        exact res ι2 _ _ (pre.trans p2) ((x0.trans x2).trans x3) s3 ⟨p, ea, rfl⟩
      · exact res.elim
    · exact res.elim
end
end Mi
namespace Mi
open PySem L2
section
variable {nm : Nm} {N : List Str} {G : Gv} {k : Nat} {X : Cx}
theorem ix_plain {b : Expr} (h : notSlice b = true) : PlainIx b := by
  intro o i
  cases b <;> first | rfl | cases h
theorem ep_idx {a b : Expr} {ca cb : CE} {pos : Pos} (c : Cg X) (ha : EP2 X G a ca) (hb : EP2 X G b cb) (hs : notSlice b = true) : EP2 X G (.Subscript a b pos) (.idx ca cb) :=
  .of ((pe_ix (ixD c) ha.pe hb.pe (ix_plain hs)).imp fun σ H Q ⟨ι, S, L, so, lo, res⟩ => two so lo (Res.ungc so res)) fun _ => rfl
/-- a slice's part -/
def TOc (G : Gv) (K : PySem.W.Frag) (b : Bool) (c : CE) : TO := fun σ H Q => ∃ ι S L o S', Sok K ι H S ∧ Lok K ι H L σ ∧
  (if b = true then ∃ i, evE G c L S = .ok (.int i) S' ∧ o = some i else o = none ∧ S' = S) ∧ ∀ ι' H', ι <+: ι' → Xt H H' → Sok K ι' H' S' → Q o H'
theorem po_imp {e : Option Expr} {t t' : TO} (h : PO X e t) (i : ∀ σ H Q, t' σ H Q → t σ H Q) : PO X e t' := ⟨fun pins s σ H Q I q => h.run pins s σ H Q I (i σ H Q q)⟩
theorem po_of {er : Expr → Option CE} (hp : ∀ e c, er e = some c → EP2 X G e c) {o : Option Expr} {b : Bool} {c : CE} (h : erOpt er o = some (b, c)) : PO X o (TOc G X.K b c) := by
  cases o with
  | none =>
    cases h
    refine po_imp po_none fun σ H Q ⟨ι, S, L, o, S', so, lo, e, q⟩ => ?_
    rw [if_neg Bool.false_ne_true] at e
    obtain ⟨rfl, rfl⟩ := e
    exact q ι H (List.prefix_refl ι) (Xt.refl H) so
  | some e =>
    simp only [erOpt] at h
    obtain ⟨c', h1, h2⟩ := Option.map_eq_some_iff.mp h
    cases h2
    refine po_imp (po_some (hp e c h1).pe) fun σ H Q ⟨ι, S, L, o, S', so, lo, e, q⟩ => ?_
    rw [if_pos rfl] at e
    obtain ⟨i, e1, rfl⟩ := e
    exact TEc.of so lo e1 fun ι1 H1 v p1 x1 so1 r1 => ⟨i, r1, q ι1 H1 p1 x1 so1⟩
theorem bindO {α : Type} {r : R (Option Int)} {f : Option Int → Store → R D} {ι : List Addr} {H : Hp} {Q : VK} (h : Res X.K ι H (r.bind f) Q) : ∃ o S1, r = .ok o S1 ∧ Res X.K ι H (f o S1) Q := Res.step h
theorem ep_slc {e : Expr} {lo hi : Option Expr} {ce cl ch : CE} {bl bh : Bool} {p2 pos : Pos} {er : Expr → Option CE} (hp : ∀ e c, er e = some c → EP2 X G e c) (he : EP2 X G e ce) (hl : erOpt er lo = some (bl, cl)) (hh : erOpt er hi = some (bh, ch)) :
    EP2 X G (.Subscript e (.Slice lo hi none p2) pos) (.slc ce bl cl bh ch) := by
  refine .of ((pe_slice slD he.pe (po_of hp hl) (po_of hp hh)).imp fun σ H Q ⟨ι, S, L, so, lo, res⟩ => ?_) fun _ => rfl
  obtain ⟨d, S1, e1, res⟩ := Res.step (Res.ungc so res)
  refine TEc.of so lo e1 fun ι1 H1 v p1 x1 so1 r1 => ?_
  have res := res.mono p1 x1
  have lo1 := lo.mono p1 x1
  have part1 : ∃ o1 S2, (if bl = true then ∃ i, evE G cl L S1 = .ok (.int i) S2 ∧ o1 = some i else o1 = none ∧ S2 = S1) ∧ ∀ ι2 H2, ι1 <+: ι2 → Xt H1 H2 → Sok X.K ι2 H2 S2 → ∃ o2 S3, (if bh = true then ∃ i, evE G ch L S2 = .ok (.int i) S3 ∧ o2 = some i else o2 = none ∧ S3 = S2) ∧ Res X.K ι2 H2 (slcD d o1 o2 S3) Q := by
    have tail : ∀ {o1 : Option Int} {S2 : Store} {ι2 : List Addr} {H2 : Hp} {r : R D}, Res X.K ι2 H2 r Q →
        (r = if bh = true then (evE G ch L S2).bind fun u S3 => (match u with | .int i => slcD d o1 (some i) S3 | _ => .bad) else slcD d o1 none S2) →
        ∃ o2 S3, (if bh = true then ∃ i, evE G ch L S2 = .ok (.int i) S3 ∧ o2 = some i else o2 = none ∧ S3 = S2) ∧ Res X.K ι2 H2 (slcD d o1 o2 S3) Q := by
      intro o1 S2 ι2 H2 r hr e
      subst e
      cases bh
      · exact ⟨none, S2, by rw [if_neg Bool.false_ne_true]; exact ⟨rfl, rfl⟩, hr⟩
      · rw [if_pos rfl] at hr
        obtain ⟨u, S3, e3, hr⟩ := Res.step hr
        cases u with
        | int i => exact ⟨some i, S3, by rw [if_pos rfl]; exact ⟨i, e3, rfl⟩, hr⟩
        | _ => exact hr.elim
    have eqT : ∀ {o1 : Option Int} {S2 : Store}, ((if bh = true then (evE G ch L S2).bind fun u S3 => (match u with | .int i => .ok (some i) S3 | _ => .bad) else .ok none S2 : R (Option Int)).bind fun h S3 => slcD d o1 h S3) =
        if bh = true then (evE G ch L S2).bind fun u S3 => (match u with | .int i => slcD d o1 (some i) S3 | _ => .bad) else slcD d o1 none S2 := by
      intro o1 S2
      cases bh
      · rfl
      · rw [if_pos rfl, if_pos rfl]
        cases evE G ch L S2 with
        | bad => rfl
        | exc _ _ => rfl
        | ok u S3 => cases u <;> rfl
    cases bl
    · refine ⟨none, S1, by rw [if_neg Bool.false_ne_true]; exact ⟨rfl, rfl⟩, fun ι2 H2 p2 x2 so2 => tail (res.mono p2 x2) eqT⟩
    · cases e1' : evE G cl L S1 with
      | bad => rw [if_pos rfl, e1'] at res; exact res.elim
      | exc _ _ => rw [if_pos rfl, e1'] at res; exact res.elim
      | ok u S2 =>
        rw [if_pos rfl, e1'] at res
        cases u with
        | int i => exact ⟨some i, S2, by rw [if_pos rfl]; exact ⟨i, rfl, rfl⟩, fun ι2 H2 p2 x2 so2 => tail (res.mono p2 x2) eqT⟩
        | _ => exact res.elim
  obtain ⟨o1, S2, pe1, k1⟩ := part1
  refine ⟨ι1, S1, L, o1, S2, so1, lo1, pe1, fun ι2 H2 p2 x2 so2 => ?_⟩
  obtain ⟨o2, S3, pe2, res⟩ := k1 ι2 H2 p2 x2 so2
  exact ⟨ι2, S2, L, o2, S3, so2, lo1.mono p2 x2, pe2, fun ι3 H3 p3 x3 so3 => ⟨ι3, S3, d, so3, (r1.mono p2 x2 _).mono p3 x3 _, res.mono p3 x3⟩⟩
theorem ep_rev {e st : Expr} {ce : CE} {p2 pos : Pos} (he : EP2 X G e ce) (h : isRev st = true) : EP2 X G (.Subscript e (.Slice none none (some st) p2) pos) (.rev ce) := by
  cases st with
  | UnaryOp op a p1 =>
    cases op with
    | USub =>
      cases a with
      | Constant cst kk p0 =>
        cases cst with
        | int i =>
          have hi : i = 1 := of_decide_eq_true h
          subst hi
          refine .of ((pe_revD he.pe).imp fun σ H Q ⟨ι, S, L, so, lo, res⟩ => ?_) fun _ => rfl
          obtain ⟨d, S1, e1, res⟩ := Res.step (Res.ungc so res)
          refine TEc.of so lo e1 fun ι1 H1 v p1 x1 so1 r1 => ?_
          exact ⟨ι1, S1, d, so1, r1, res.mono p1 x1⟩
        | _ => cases h
      | _ => cases h
    | _ => cases h
  | _ => cases h
theorem ep_call {x : Str} {i : Nat} {es : List Expr} {cs : List CE} {np pos : Pos} {er : Expr → Option CE} (g : Gd nm N G k X) (hp : ∀ e c, er e = some c → EP2 X G e c) (hst : es.all notStar = true) (h : erAll er es = some cs) (hf : nm.fn x = some i) (hg : L2.Gl X x) : EP2 X G (.Call (.Name x np) es [] pos) (.call i (caOf cs)) := by
  obtain ⟨fa, hd⟩ := g.fns x i hf
  refine .of ?_ fun _ => rfl
  cases es with
  | nil =>
    cases h
    refine (pe_callG0 fa (g.room.mono (by omega)) g.cg.gu hg hd).imp fun σ H Q ⟨ι, S, L, so, lo, res⟩ => ?_
    have res := Res.ungc so res
    exact ⟨ι, S, [], so, rfl, res⟩
  | cons e es =>
    refine (pe_callG fa (g.room.mono (by omega)) g.cg.gu hg hd (pa_of h hst hp) (star_cons X.env hst) (star_plain X.env pos (by rw [List.all_cons, Bool.and_eq_true] at hst; exact hst.2))).imp fun σ H Q ⟨ι, S, L, so, lo, res⟩ => ?_
    exact args_go so lo (Res.ungc so res)
theorem ep_bi {x : Str} {f : Bi} {es : List Expr} {cs : List CE} {np pos : Pos} {er : Expr → Option CE} (g : Gd nm N G k X) (hp : ∀ e c, er e = some c → EP2 X G e c) (hst : es.all notStar = true) (h : erAll er es = some cs) (hf : biOf x = some f) (hb : x ∈ nm.bl) (hne : es.isEmpty = false) (hg : L2.Gl X x) : EP2 X G (.Call (.Name x np) es [] pos) (.bi f (caOf cs)) := by
  have hx := biOf_eq hf
  have hbt := bi_boot f
  obtain ⟨n1, n2⟩ := bi_name f
  rw [← hx] at hbt n1 n2
  refine .of ?_ fun _ => rfl
  cases es with
  | nil => cases hne
  | cons e es =>
    have st2 : es.all notStar = true := by rw [List.all_cons, Bool.and_eq_true] at hst; exact hst.2
    have key : PE X (.Call (.Name x np) (e :: es) [] pos) (tCB (RC X.K (biD f)) (TAc G X.K (caOf cs))) := by
      have hc := bi_ok (X := X) g.cg f
      have pa := pa_of h hst hp
      have s1 := star_cons X.env hst
      have s2 := star_plain X.env pos st2
      have hm := g.bls x hb
      cases f <;> first
        | exact pe_callB hc hg hm hbt pa n1 n2 s1 s2
        | exact pe_callTy hc hg hm hbt pa n1 n2 s1 s2
    refine key.imp fun σ H Q ⟨ι, S, L, so, lo, res⟩ => ?_
    exact args_go so lo (Res.ungc so res)
theorem ep_mth {o : Expr} {m : Str} {f : Mt} {co : CE} {es : List Expr} {cs : List CE} {apos cpos : Pos} {er : Expr → Option CE} (g : Gd nm N G k X) (hp : ∀ e c, er e = some c → EP2 X G e c) (hst : es.all notStar = true) (h : erAll er es = some cs) (hf : mtOf m = some f) (ho : EP2 X G o co)
    (hns : notSuper o = true) (hl : (apos.endLine == cpos.line) = true) (h30 : es.length < 30) : EP2 X G (.Call (.Attribute o m apos) es [] cpos) (.mth f co (caOf cs)) := by
  obtain ⟨hx, has⟩ := mtOf_eq hf
  subst hx
  obtain ⟨sl, ty⟩ := mt_slot f has
  have pa := mt_pa f has
  have hm := mt_ok (X := X) g.cg f
  refine .of ?_ fun _ => rfl
  cases es with
  | nil =>
    cases h
    refine (pe_bm0 pa sl ty hm ho.pe (base_of hns) hl).imp fun σ H Q ⟨ι, S, L, so, lo, res⟩ => ?_
    obtain ⟨d, S1, e1, res⟩ := Res.step (Res.ungc so res)
    refine TEc.of so lo e1 fun ι1 H1 v p1 x1 so1 r1 => ?_
    have res := res.mono p1 x1
    split at res
    · rename_i ht
      exact ⟨mt_ty so1 ht r1, ι1, S1, d, [], so1, r1, rfl, res⟩
    · exact res.elim
  | cons e es =>
    have st2 : es.all notStar = true := by rw [List.all_cons, Bool.and_eq_true] at hst; exact hst.2
    have few : ((backTo cpos (starEach (e :: es) X.env)).all (fun x => !x.1) && (backToKw cpos (keywordEach [] X.env)).all (fun x => x.1.isSome)
      && decide ((e :: es).length + ([] : List Keyword).length + (if ([] : List Keyword).isEmpty then 0 else 1) < 30)) = true := by
      rw [star_all X.env cpos hst, Bool.true_and, Bool.and_eq_true]
      exact ⟨rfl, decide_eq_true (by simpa using h30)⟩
    refine (pe_bm pa sl ty hm ho.pe (pa_of h hst hp) (base_of hns) few hl (star_cons X.env hst) (star_plain X.env cpos st2)).imp fun σ H Q ⟨ι, S, L, so, lo, res⟩ => ?_
    obtain ⟨d, S1, e1, res⟩ := Res.step (Res.ungc so res)
    refine TEc.of so lo e1 fun ι1 H1 v p1 x1 so1 r1 => ?_
    have res := res.mono p1 x1
    split at res
    · rename_i ht
      refine ⟨mt_ty so1 ht r1, ?_⟩
      obtain ⟨ds, S2, e2, res⟩ := Res.step res
      refine TAc.of so1 (lo.mono p1 x1) e2 fun ι2 H2 vs p2 x2 so2 r2 => ?_
      exact ⟨ι2, S2, d, ds, so2, r1.mono p2 x2 _, r2, res.mono p2 x2⟩
    · exact res.elim
theorem lk_gl {sc : Scope} {x : Str} (hsc : X.env.scope = sc) (h : isG sc x = true) : L2.Gl X x := by
  unfold isG at h
  split at h
  · rename_i e
    unfold L2.Gl Env.kindOf
    rw [hsc]; exact e
  · cases h
theorem ep_name {x : Str} {c : CE} {pos : Pos} {sc : Scope} (g : Gd nm N G k X) (hsc : X.env.scope = sc) (h : erName nm N sc x = some c) : EP2 X G (.Name x pos) c := by
  have loc : ∀ {i : Nat}, ¬ (x = "__debug__" ∨ x = "__classdict__") → ixOf N x = some i → Vis X.env.scope x → EP2 X G (.Name x pos) (.loc i) := by
    intro i hn hi hv
    rw [not_or] at hn
    refine .of ((pe_var (pos := pos) (by rw [g.n]; exact ixOf_get hi) hv (beq_eq_false_iff_ne.mpr hn.1) (beq_eq_false_iff_ne.mpr hn.2)).imp fun σ H Q ⟨ι, S, L, so, lo, res⟩ => ?_) fun _ => rfl
    simp only [evE] at res
    split at res
    · rename_i d hd
      obtain ⟨v, e, r⟩ := lo.2 i d hd
      exact ⟨v, e, res.val so r⟩
    · exact res.elim
  unfold erName at h
  split at h
  · rename_i e
    split at h
    · cases h
    · obtain ⟨i, hi, rfl⟩ := Option.map_eq_some_iff.mp h
      exact loc ‹_› hi (.inl (by rw [hsc]; exact e))
  · rename_i e
    split at h
    · cases h
    · obtain ⟨i, hi, rfl⟩ := Option.map_eq_some_iff.mp h
      exact loc ‹_› hi (.inr (.inl (by rw [hsc]; exact e)))
  · rename_i e
    split at h
    · cases h
    · obtain ⟨i, hi, rfl⟩ := Option.map_eq_some_iff.mp h
      exact loc ‹_› hi (.inr (.inr (by rw [hsc]; exact e)))
  · rename_i e
    have gl : L2.Gl X x := by unfold L2.Gl Env.kindOf; rw [hsc]; exact e
    split at h
    · rename_i i hi
      cases h
      refine .of ⟨fun pins s σ H Q I ⟨ι, S, L, so, lo, res⟩ => ?_⟩ fun _ => rfl
      simp only [evE] at res
      obtain ⟨d, hd, res⟩ := optR_res res
      obtain ⟨u, v, hm, ru, dr, hdb⟩ := g.cts x i d hi hd
      exact (pe_glob gl hm ru hdb).run pins s σ H Q I (res.val so (dr ι H))
    · split at h
      · rename_i t ht
        split at h
        · rename_i hb
          cases h
          obtain ⟨b1, b2, b3⟩ := tyB_boot ht
          exact ep_cst (pe_bltn (v := .ty t) gl (g.bls x hb) b1 rfl b2 b3) (fun ι H => rfl) fun _ => rfl
        · cases h
      · cases h
  · cases h
end
end Mi
namespace Mi
open PySem PySem.Spec PyProof.Rows L2
/-- an exception that is held, caught or made -/
def XvH (H : Hp) (a C : Addr) : Prop := H a = some (xHO C a) ∨ ∃ f v, ExvAt H a C f v
theorem XvH.new {H : Hp} {a C p : Addr} {o : HO} (h : XvH H a C) (hp : H p = none) : XvH (upd H p o) a C := by
  rcases h with h | ⟨f, v, d, o1, o2, e1, e2⟩
  · left; rw [upd_ne (ne_of_none h hp)]; exact h
  · right; refine ⟨f, v, d, o1, o2, ?_, ?_⟩
    · rw [upd_ne (ne_of_none e1 hp)]; exact e1
    · rw [upd_ne (ne_of_none e2 hp)]; exact e2
/-- a made one, as it lies -/
theorem xv_inst {X : Cx} {pins : List (Addr × Obj)} {σ : L2.St} {H : Hp} {s : Shared} {a C : Addr} {f : Str} {v : V} (I : Inv X pins σ H s) (h : ExvAt H a C f v) : ∃ o od, PySem.W.InstAt s.heap a o C (some od) := by
  obtain ⟨dd, o, od', ea, ed⟩ := h
  obtain ⟨ho, ⟨⟨t1, ho2⟩, _⟩⟩ := (show ObjOk X.prog X.w H s.heap a (.frz o (exo a C (some dd))) from I.hok a _ ea)
  obtain ⟨hod, ⟨⟨mA, hns, hr⟩, _⟩⟩ := (show ObjOk X.prog X.w H s.heap dd (.frz od' (exd dd [(f, v)])) from I.hok dd _ ed)
  obtain ⟨od, ho3, hl⟩ := lookIn_ns hns
  exact ⟨_, od, ho2, rfl, rfl, ho3⟩
theorem XvH.inst {X : Cx} {pins : List (Addr × Obj)} {σ : L2.St} {H : Hp} {s : Shared} {a C : Addr} (I : Inv X pins σ H s) (h : XvH H a C) : ∃ o od, PySem.W.InstAt s.heap a o C od := by
  rcases h with h | ⟨f, v, h⟩
  · obtain ⟨⟨oe, J⟩, _⟩ := (show ObjOk X.prog X.w H s.heap a (xHO C a) from I.hok a _ h)
    exact ⟨_, _, J⟩
  · obtain ⟨o, od, J⟩ := xv_inst I h
    exact ⟨_, _, J⟩
/-- isinstance(e, c), e an exception that is kept -/
def rIsX (K : PySem.W.Frag) : List V → Hp → VK → Prop := fun xs H Q => ∃ (a C : Addr) (c : V) (us : List Value) (b : Bool), xs = [.ref a, c] ∧ XvH H a C ∧ ExcC K C ∧ PySem.W.kitAny K (.ref C) us = some b ∧
  ((∃ u, us = [u] ∧ ClsV c u) ∨ ∃ tp cs, c = .ref tp ∧ H tp = some (.tup cs) ∧ Paired ClsV cs us) ∧ Q (.bl b) H
theorem pair_len2 {α β : Type} {R : α → β → Prop} : ∀ {xs : List α} {ys : List β}, Paired R xs ys → xs.length = ys.length
  | _, _, .nil => rfl
  | _, _, .cons _ t => by rw [List.length_cons, List.length_cons, pair_len2 t]
theorem kit_one {K : PySem.W.Frag} {t u : Value} {b : Bool} (h : PySem.W.kitAny K t [u] = some b) : PySem.W.kitOne K t u = some b := by
  unfold PySem.W.kitAny at h
  cases e : PySem.W.kitOne K t u with
  | none => rw [e] at h; cases h
  | some v =>
    rw [e] at h
    cases v
    · exact h
    · exact h
section
variable {X : Cx}
theorem call_isX : CallR X (.builtin "isinstance") (rIsX X.K) := by
  intro pins s σ H xs ws Q I r h
  obtain ⟨a, C, c, us, b, rfl, ha, ec, kt, hc, q⟩ := h
  obtain ⟨u1, u2, rfl, r1, r2⟩ := vals2 r
  cases (show u1 = Value.ref a from r1)
  obtain ⟨oe, od, J⟩ := ha.inst I
  have Z := PySem.W.kitx_exc (x := a) (ox := oe) (od := od) (by obtain ⟨cd, hc, _⟩ := PySem.W.any_some ec.hd; rw [hc]; rfl) ec.hg ec.hk ec.hs ec.ha ec.hn ec.ht ec.hm
  rcases hc with ⟨u, rfl, cv⟩ | ⟨tp, cs, rfl, hT, pr⟩
  · have e2 := cv.eq r2
    subst e2
    exact PySem.W.kia_one Z I.kIn J (kit_one kt) (fun z => nomatch z) fun tk => ⟨.bl b, H, I.tok tk, rfl, q⟩
  · cases (show u2 = Value.ref tp from r2)
    obtain ⟨_, its, rv, o, g1, g2, n, g3⟩ := (show ObjOk X.prog X.w H s.heap tp (.tup cs) from I.hok tp _ hT)
    have e3 := ClsV.all pr rv
    subst e3
    obtain ⟨oc, od2, dt, sl⟩ := o
    simp only at g2 g3
    subst g2 g3
    exact PySem.W.kia_tup Z I.kIn J g1 kt (fun z => nomatch z) fun tk => ⟨.bl b, H, I.tok tk, rfl, q⟩
/-- a class's name -/
theorem pe_cls {y : Str} {u : Value} {p : Pos} (gl : L2.Gl X y) (h : ClsV2 X y u) : ∃ c, ClsV c u ∧ PE X (.Name y p) (tC c) := by
  obtain ⟨hd, ⟨hm, C, rfl⟩ | ⟨hm, hb, hn, t, rfl⟩⟩ := h
  · exact ⟨.ref C, .own C, pe_glob gl hm rfl hd⟩
  · exact ⟨.ty t, .ty t, pe_bltn gl hm hb rfl hn hd⟩
theorem pa_cls {sc : Scope} (hsc : X.env.scope = sc) : ∀ {es : List Expr} {ys : List Str} {us : List Value}, allSome (es.map (clsName sc)) = some ys → Paired (ClsV2 X) ys us → ∃ cs, Paired ClsV cs us ∧ PA X es (fun _ H Q => Q cs H) ∧ es.all notStar = true
  | [], ys, us, h, p => by
    cases h
    cases p
    exact ⟨[], .nil, pa_nil.imp fun _ _ _ q => q, rfl⟩
  | e :: es, ys, us, h, p => by
    rw [List.map_cons] at h
    obtain ⟨y, ys', h1, h2, rfl⟩ := allSome_cons h
    cases p with
    | cons g p =>
      obtain ⟨cs, pr, pa, st⟩ := pa_cls hsc h2 p
      cases e with
      | Name z zp =>
        simp only [clsName] at h1
        split at h1
        · rename_i hg
          cases h1
          obtain ⟨c, cv, pc⟩ := pe_cls (p := zp) (lk_gl (X := X) hsc hg) g
          refine ⟨c :: cs, .cons cv pr, (pa_cons pc pa (star_cons X.env (by rw [List.all_cons, st]; rfl))).imp fun σ H Q q => q, by rw [List.all_cons, st]; rfl⟩
        · cases h1
      | _ => cases h1
end
section
variable {nm : Nm} {N : List Str} {G : Gv} {k : Nat} {X : Cx}
theorem tab_look {xs yes : List Str} {x : Str} {b : Bool} (h : (xs.map fun x => (x, yes.contains x)).lookup x = some b) : x ∈ xs ∧ b = yes.contains x := by
  induction xs with
  | nil => cases h
  | cons y ys ih =>
    rw [List.map_cons, List.lookup_cons] at h
    cases e : x == y with
    | true =>
      rw [e] at h
      have : x = y := by simpa using e
      subst this
      cases h
      exact ⟨by simp, rfl⟩
    | false =>
      rw [e] at h
      obtain ⟨h1, h2⟩ := ih h
      exact ⟨by simp [h1], h2⟩
theorem ep_isx {e c : Expr} {ce : CE} {ys yes : List Str} {p pos : Pos} {sc : Scope} (hsc : X.env.scope = sc) (g : Gd nm N G k X) (he : EP2 X G e ce) (hst : notStar e = true) (gl : L2.Gl X "isinstance") (hb : ("isinstance" : Str) ∈ nm.bl) (hc : clsNames sc c = some ys) (hy : nm.yes ys = some yes) : EP2 X G (.Call (.Name "isinstance" p) [e, c] [] pos) (.isx ce (nm.held.map fun x => (x, yes.contains x))) := by
  obtain ⟨us, ul, pr, kt⟩ := (g.ix ys yes hy).ex
  refine .of ?_ fun _ => rfl
  have hm := g.bls _ hb
  -- what isinstance is told
  have core : ∀ {ι : List Addr} {S : Store} {H : Hp} {Q : VK} {d : D} {v : V}, Sok X.K ι H S → DR X.K ι H d v → Res X.K ι H (isxD d (nm.held.map fun x => (x, yes.contains x)) S) Q → ∃ a C b, v = .ref a ∧ XvH H a C ∧ ExcC X.K C ∧ PySem.W.kitAny X.K (.ref C) us = some b ∧ Res X.K ι H (.ok (.bl b) S) Q := by
    intro ι S H Q d v so dr res
    unfold isxD at res
    split at res
    · rename_i n
      split at res
      · rename_i x hx
        split at res
        · rename_i b hb
          obtain ⟨h1, rfl⟩ := tab_look hb
          obtain ⟨a, ea, C, hC, hH⟩ := so.at hx
          obtain ⟨a', ea', rfl⟩ := dr
          rw [ea] at ea'
          cases ea'
          have ec : ExcC X.K C := by
            rcases List.mem_append.mp h1 with h2 | h2
            · obtain ⟨C2, _, _, _, _, _, hC2, _, _, _, _, ec, _⟩ := (g.xs x h2).ex
              have : C = C2 := by
                have := hC.symm.trans hC2
                cases this; rfl
              rw [this]; exact ec
            · obtain ⟨p, hp, rfl⟩ := List.mem_map.mp h2
              obtain ⟨C2, _, _, _, _, _, hC2, fx, _⟩ := (g.fx p hp).ex
              have : C = C2 := by
                have := hC.symm.trans hC2
                cases this; rfl
              rw [this]; exact fx.as
          exact ⟨a, C, _, rfl, .inl hH, ec, kt x h1 C hC, res⟩
        · exact res.elim
      · rename_i x f d hx
        split at res
        · rename_i b hb
          obtain ⟨h1, rfl⟩ := tab_look hb
          obtain ⟨a, ea, C, v, hC, fx, ev, _⟩ := so.at hx
          obtain ⟨a', ea', rfl⟩ := dr
          rw [ea] at ea'
          cases ea'
          exact ⟨a, C, _, rfl, .inr ⟨f, v, ev⟩, fx.as, kt x h1 C hC, res⟩
        · exact res.elim
      · exact res.elim
    · exact res.elim
  by_cases ht : ∃ es kk tp, c = .Tuple es kk tp
  · obtain ⟨es, kk, tp, rfl⟩ := ht
    obtain ⟨cs, pc, pa, st⟩ := pa_cls hsc (show allSome (es.map (clsName sc)) = some ys from hc) pr
    have h2 : ([e, .Tuple es kk tp] : List Expr).all notStar = true := by rw [List.all_cons, hst]; rfl
    refine (pe_callB call_isX gl hm (by decide +kernel) (pa_cons he.pe (pa_cons (pe_tup pa) pa_nil (star_cons X.env rfl)) (star_cons X.env h2)) (by decide) (by decide) (star_cons X.env h2) (star_plain X.env pos rfl)).imp fun σ H Q ⟨ι, S, L, so, lo, res⟩ => ?_
    obtain ⟨d, S1, e1, res⟩ := Res.step res
    refine TEc.of so lo e1 fun ι1 H1 v p1 x1 so1 r1 => ?_
    obtain ⟨a, C, b, rfl, hH, ec, kk, res⟩ := core so1 r1 (res.mono p1 x1)
    refine ⟨?_, fun tp hp => ?_⟩
    · have := pair_len2 pc
      rw [sizeLine_eq]
      omega
    · refine ⟨a, C, .ref tp, us, b, rfl, ?_, ec, kk, .inr ⟨tp, cs, rfl, upd_same, pc⟩, ?_⟩
      · exact hH.new hp
      · exact res ι1 _ _ (List.prefix_refl _) (Xt.new hp) (so1.tup hp) rfl
  · have hc' : (clsName sc c).map (fun y => [y]) = some ys := by
      cases c with
      | Tuple es kk tp => exact absurd ⟨_, _, _, rfl⟩ ht
      | _ => exact hc
    obtain ⟨y, hy1, rfl⟩ := Option.map_eq_some_iff.mp hc'
    cases c with
    | Name z zp =>
      simp only [clsName] at hy1
      split at hy1
      · rename_i hg
        cases hy1
        cases pr with
        | cons g1 pr =>
          cases pr
          rename_i u
          obtain ⟨c, cv, pc⟩ := pe_cls (p := zp) (lk_gl (X := X) hsc hg) g1
          have h2 : ([e, .Name y zp] : List Expr).all notStar = true := by rw [List.all_cons, hst]; rfl
          refine (pe_callB call_isX gl hm (by decide +kernel) (pa_cons he.pe (pa_cons pc pa_nil (star_cons X.env rfl)) (star_cons X.env h2)) (by decide) (by decide) (star_cons X.env h2) (star_plain X.env pos rfl)).imp fun σ H Q ⟨ι, S, L, so, lo, res⟩ => ?_
          obtain ⟨d, S1, e1, res⟩ := Res.step res
          refine TEc.of so lo e1 fun ι1 H1 v p1 x1 so1 r1 => ?_
          obtain ⟨a, C, b, rfl, hH, ec, kk, res⟩ := core so1 r1 (res.mono p1 x1)
          exact ⟨a, C, c, _, b, rfl, hH, ec, kk, .inl ⟨u, rfl, cv⟩, res.val so1 rfl⟩
      · cases hy1
    | _ => cases hy1
end
end Mi
namespace Mi
open PySem L2
/-- locked at as -/
def LkTo (as : List Addr) (H H' : Hp) : Prop := (∀ b, b ∉ as → H' b = H b) ∧ ∀ a ∈ as, ∃ u o, H a = some u ∧ Mut (some u) ∧ H' a = some (.frz o u)
abbrev Lkb (as : List Addr) (H : Hp) : Prop := as.Nodup ∧ ∀ a ∈ as, ∃ u, H a = some u ∧ Mut (some u)
theorem lock_all {X : Cx} {pins : List (Addr × Obj)} {σ : St} {s : Shared} : ∀ (as : List Addr) {H : Hp}, Inv X pins σ H s → Lkb as H → ∃ H', LkTo as H H' ∧ Inv X pins σ H' s
  | [], H, I, _ => ⟨H, ⟨fun _ _ => rfl, fun _ h => by cases h⟩, I⟩
  | a :: as, H, I, ⟨nd, h⟩ => by
    obtain ⟨u, e, m⟩ := h a (List.mem_cons_self ..)
    obtain ⟨od, I1⟩ := I.lock e m
    have nd' := List.nodup_cons.mp nd
    have ne : ∀ b ∈ as, b ≠ a := fun b hb z => nd'.1 (z ▸ hb)
    obtain ⟨H', L, I2⟩ := lock_all as I1 ⟨nd'.2, fun b hb => by
      obtain ⟨u', e', m'⟩ := h b (List.mem_cons_of_mem _ hb)
      exact ⟨u', by rw [upd_ne (ne b hb)]; exact e', m'⟩⟩
    refine ⟨H', ⟨fun b hb => ?_, fun b hb => ?_⟩, I2⟩
    · rw [L.1 b fun z => hb (List.mem_cons_of_mem _ z), upd_ne (fun z => hb (by rw [z]; exact List.mem_cons_self ..))]
    · rcases List.mem_cons.mp hb with rfl | hb
      · exact ⟨u, od, e, m, by rw [L.1 b nd'.1, upd_same]⟩
      · obtain ⟨u', o', e', m', q⟩ := L.2 b hb
        rw [upd_ne (ne b hb)] at e'
        exact ⟨u', o', e', m', q⟩
theorem lk_some (as : List Addr) {H : Hp} (h : Lkb as H) : ∃ H', LkTo as H H' := by
  refine ⟨fun b => if b ∈ as then (H b).map fun u => .frz default u else H b, fun b hb => if_neg hb, fun a ha => ?_⟩
  obtain ⟨u, e, m⟩ := h.2 a ha
  exact ⟨u, default, e, m, by show (if a ∈ as then _ else _) = _; rw [if_pos ha, e]; rfl⟩
theorem LkTo.xt {as : List Addr} {H H' : Hp} (h : LkTo as H H') : Xt H H' := by
  refine ⟨fun a xs e => ?_, fun a o u e => ?_⟩
  · by_cases ha : a ∈ as
    · obtain ⟨u, o, e', m, _⟩ := h.2 a ha
      rw [e] at e'; cases e'; exact m.elim
    · rw [h.1 a ha]; exact e
  · by_cases ha : a ∈ as
    · obtain ⟨u, o, e', m, _⟩ := h.2 a ha
      rw [e] at e'; cases e'; exact m.elim
    · rw [h.1 a ha]; exact e
theorem LkTo.nil {H H' : Hp} (h : LkTo [] H H') : H' = H := funext fun b => h.1 b (by simp)
def Cell.lk : Cell → Bool
  | .lst _ => true
  | .dK _ => true
  | .dT _ => true
  | .ins _ _ => true
  | _ => false
/-- the cells from n on that can be locked -/
def lkF (ι : List Addr) (S : Store) (n m : Nat) : Option Addr := if n ≤ m then match S[m]? with
  | some c => if c.lk = true then ι[m]? else none
  | none => none else none
def lkAs (ι : List Addr) (S : Store) (n : Nat) : List Addr := (List.range S.length).filterMap (lkF ι S n)
theorem lkF_some {ι : List Addr} {S : Store} {n m : Nat} {a : Addr} (h : lkF ι S n m = some a) : n ≤ m ∧ ∃ c, S[m]? = some c ∧ c.lk = true ∧ ι[m]? = some a := by
  unfold lkF at h
  split at h
  · rename_i hm
    split at h
    · rename_i c hc
      split at h
      · rename_i hl
        exact ⟨hm, c, hc, hl, h⟩
      · cases h
    · cases h
  · cases h
theorem Cell.lk_mu {c : Cell} (h : c.lk = true) : c.mu = true := by cases c <;> first | rfl | cases h
section
variable {K : PySem.W.Frag} {ι ι' : List Addr} {H H' H2 : Hp} {S S' : Store}
theorem lk_ok (s : Sok K ι H S) (n : Nat) : Lkb (lkAs ι S n) H := by
  refine ⟨?_, fun a ha => ?_⟩
  · unfold lkAs List.Nodup
    rw [List.pairwise_filterMap]
    refine (List.nodup_range (n := S.length)).imp fun {m m'} hne a ha a' ha' z => ?_
    subst z
    obtain ⟨_, c, e, l, q⟩ := lkF_some ha
    obtain ⟨_, c', e', l', q'⟩ := lkF_some ha'
    exact hne (s.nd m m' a c c' q q' e e' (Cell.lk_mu l) (Cell.lk_mu l'))
  · obtain ⟨m, _, hm⟩ := List.mem_filterMap.mp ha
    obtain ⟨_, c, e, l, q⟩ := lkF_some hm
    have ok := s.ok m a c q e
    cases c with
    | lst ds => obtain ⟨vs, e, _⟩ := ok; exact ⟨_, e, trivial⟩
    | dK ds => obtain ⟨vs, e, _⟩ := ok; exact ⟨_, e, trivial⟩
    | dT ds => obtain ⟨vs, e, _⟩ := ok; exact ⟨_, e, trivial⟩
    | ins c ds => obtain ⟨C, dx, vs, hc, ic, e, _⟩ := ok; exact ⟨_, e, trivial⟩
    | _ => cases l
theorem lk_mem (s : Sok K ι H S) {n m : Nat} {c : Cell} {a : Addr} (hm : n ≤ m) (e : S[m]? = some c) (l : c.lk = true) (q : ι[m]? = some a) : a ∈ lkAs ι S n := by
  refine List.mem_filterMap.mpr ⟨m, List.mem_range.mpr (List.getElem?_eq_some_iff.mp e).1, ?_⟩
  unfold lkF
  rw [if_pos hm, e]
  simp only
  rw [if_pos l]
  exact q
theorem allSome_map {α β : Type} {f : α → Option β} : ∀ {l : List α} {r : List β}, allSome (l.map f) = some r → r.length = l.length ∧ ∀ (i : Nat) (a : α) (b : β), l[i]? = some a → r[i]? = some b → f a = some b
  | [], r, h => by cases h; exact ⟨rfl, fun i a b h => by simp at h⟩
  | x :: l, r, h => by
    rw [List.map_cons] at h
    obtain ⟨y, r', e1, e2, rfl⟩ := allSome_cons h
    obtain ⟨h1, h2⟩ := allSome_map e2
    refine ⟨by simp [h1], fun i a b q1 q2 => ?_⟩
    cases i with
    | zero => simp at q1 q2; subst q1 q2; exact e1
    | succ i => exact h2 i a b (by simpa using q1) (by simpa using q2)
theorem map_get {α β : Type} {f : α → β} {l : List α} {i : Nat} {b : β} (h : (l.map f)[i]? = some b) : ∃ a, l[i]? = some a ∧ f a = b := by
  rw [List.getElem?_map] at h
  exact Option.map_eq_some_iff.mp h
/-- a value as it is kept -/
theorem fz_dr (p : ι <+: ι') (s : Sok K ι' H' S') (hn : ι.length = S.length) (L : LkTo (lkAs ι' S' S.length) H' H2) : ∀ (k : Nat) {d d' : D} {v : V}, fzD S.length S' k d = some d' → DR K ι' H' d v → DR K ι H2 d' v := by
  have x := L.xt
  have base : ∀ {d : D} {v : V}, d.lt S.length = true → DR K ι' H' d v → DR K ι H2 d v := fun l r => DR.less p hn _ (r.mono (List.prefix_refl _) x _) l
  intro k
  induction k with
  | zero =>
    intro d d' v h r
    simp only [fzD] at h
    split at h
    · cases h; exact base ‹_› r
    · cases h
  | succ k ih =>
    intro d d' v h r
    have all : ∀ {ds es : List D} {vs : List V}, allSome (ds.map (fzD S.length S' k)) = some es → DRs K ι' H' ds vs → DRs K ι H2 es vs := by
      intro ds es vs h r
      obtain ⟨hl, hg⟩ := allSome_map h
      refine DRs.of_get (by rw [hl, r.length]) fun i d v e1 e2 => ?_
      obtain ⟨d0, e3, r0⟩ := r.getV e2
      exact ih (hg i d0 d e3 e1) r0
    have allK : ∀ {κ : Type} {kvs : List (κ × D)} {es : List D} {vs : List V}, allSome (kvs.map fun kv => fzD S.length S' k kv.2) = some es → DRs K ι' H' (kvs.map (·.2)) vs → DRs K ι H2 es vs := by
      intro κ kvs es vs h r
      refine all (ds := kvs.map (·.2)) ?_ r
      rw [List.map_map]
      exact h
    simp only [fzD] at h
    split at h
    · cases h; exact base ‹_› r
    · rename_i hlt
      cases d with
      | tup ds =>
        obtain ⟨es, h1, rfl⟩ := Option.map_eq_some_iff.mp h
        obtain ⟨a, vs, rfl, sq, dr⟩ := r
        exact ⟨a, vs, rfl, sqT_mono x sq, all h1 dr⟩
      | pl ds =>
        obtain ⟨es, h1, rfl⟩ := Option.map_eq_some_iff.mp h
        obtain ⟨a, vs, rfl, sq, dr⟩ := r
        exact ⟨a, vs, rfl, sq.mono x, all h1 dr⟩
      | ref m =>
        obtain ⟨a, ea, rfl⟩ := r
        have hm : S.length ≤ m := by
          simp only [D.lt, decide_eq_true_eq] at hlt
          omega
        simp only at h
        have at_ : ∀ {c : Cell}, S'[m]? = some c → c.lk = true → ∃ u o, H' a = some u ∧ H2 a = some (.frz o u) := fun {c} e l => by
          obtain ⟨u, o, e1, _, e2⟩ := L.2 a (lk_mem s hm e l ea)
          exact ⟨u, o, e1, e2⟩
        split at h
        · rename_i ds ec
          obtain ⟨es, h1, rfl⟩ := Option.map_eq_some_iff.mp h
          obtain ⟨u, o, e1, e2⟩ := at_ ec rfl
          obtain ⟨vs, e3, dr⟩ := s.ok m a _ ea ec
          rw [e1] at e3; cases e3
          exact ⟨a, vs, rfl, ⟨o, e2⟩, all h1 dr⟩
        · rename_i kvs ec
          obtain ⟨es, h1, rfl⟩ := Option.map_eq_some_iff.mp h
          obtain ⟨u, o, e1, e2⟩ := at_ ec rfl
          obtain ⟨vs, e3, ek, dr⟩ := s.ok m a _ ea ec
          rw [e1] at e3; cases e3
          exact ⟨a, o, vs, rfl, e2, ek.symm, allK h1 dr⟩
        · rename_i kvs ec
          obtain ⟨es, h1, rfl⟩ := Option.map_eq_some_iff.mp h
          obtain ⟨u, o, e1, e2⟩ := at_ ec rfl
          obtain ⟨vs, e3, ek, dr⟩ := s.ok m a _ ea ec
          rw [e1] at e3; cases e3
          exact ⟨a, o, vs, rfl, e2, ek.symm, allK h1 dr⟩
        · rename_i C kvs ec
          obtain ⟨es, h1, rfl⟩ := Option.map_eq_some_iff.mp h
          obtain ⟨u, o, e1, e2⟩ := at_ ec rfl
          obtain ⟨C, dx, vs, hc, ic, e3, ek, dr⟩ := s.ok m a _ ea ec
          rw [e1] at e3; cases e3
          exact ⟨a, o, dx, vs, rfl, ⟨C, hc, ic, e2⟩, ek.symm, allK h1 dr⟩
        · cases h
      | _ => cases h
theorem fz_sok (s : Sok K ι H S) (s' : Sok K ι' H' S') (p : ι <+: ι') (kp : Keep S S') (L : LkTo (lkAs ι' S' S.length) H' H2) : Sok K ι H2 (S'.take S.length) := by
  have s1 := s.less s' p kp
  refine ⟨s1.len, s1.nd, fun n a c e1 e2 => (s1.ok n a c e1 e2).mono (List.prefix_refl _) L.xt fun mu => ?_⟩
  refine L.1 a fun z => ?_
  obtain ⟨m, _, hm⟩ := List.mem_filterMap.mp z
  obtain ⟨h1, c', e, l, q⟩ := lkF_some hm
  rw [List.getElem?_take] at e2
  split at e2
  · have := s'.nd m n a c' c q (pre_get p e1) e e2 (Cell.lk_mu l) mu
    omega
  · cases e2
/-- behind it: locked, then as wished -/
def LkQ (Q : VK) : VK := fun v H1 => ∃ as, Lkb as H1 ∧ ∀ H2, LkTo as H1 H2 → Q v H2
theorem fz_res {Q : VK} {r : R D} (s : Sok K ι H S) (h : Res K ι H (r.fz S) Q) : Res K ι H r (LkQ Q) := by
  cases r with
  | exc _ _ => exact h
  | bad => exact h
  | ok d S' =>
    have gcc : Res K ι H ((R.ok d S').gc S) Q → Res K ι H (.ok d S') (LkQ Q) := fun h => by
      have := Res.ungc s h
      exact fun ι' H' v p x so r => ⟨[], ⟨List.nodup_nil, fun a h => by cases h⟩, fun H2 L => by rw [L.nil]; exact this ι' H' v p x so r⟩
    simp only [R.fz_ok] at h
    unfold fz at h
    split at h
    · rename_i d' hd
      split at h
      · rename_i kp
        intro ι' H' v p x so r
        refine ⟨_, lk_ok so S.length, fun H2 L => ?_⟩
        exact h ι H2 v (List.prefix_refl _) (x.trans L.xt) (fz_sok s so p kp L) (fz_dr p so s.len L _ hd r)
      · exact gcc h
    · exact gcc h
end
section
variable {X : Cx} {G : Gv}
theorem ep_lk {pins : List (Addr × Obj)} {σ : St} {s : Shared} {Q : VK} {u : Value} (h : EP X pins σ (LkQ Q) u s) : EP X pins σ Q u s := by
  obtain ⟨v, H', I, r, as, lk, q⟩ := h
  obtain ⟨H2, L, I2⟩ := lock_all as I lk
  exact ⟨v, H2, I2, r, q H2 L⟩
theorem ep_fz {e : Expr} {c : CE} (h : EP2 X G e c) : EP2 X G e (.fz c) := by
  refine ⟨⟨fun pins s σ H Q I ⟨ι, S, L, so, lo, res⟩ => ?_⟩, ⟨fun pins s σ H Q I ⟨ι, S, L, so, lo, res⟩ => ?_⟩⟩
  · exact thn (h.pe.run pins s σ H (LkQ Q) I ⟨ι, S, L, so, lo, fz_res so res⟩) fun u s1 q => ep_lk q
  · refine thn (h.pt.run pins s σ H (fun b H1 => ∃ as, Lkb as H1 ∧ ∀ H2, LkTo as H1 H2 → Q b H2) I ⟨ι, S, L, so, lo, ?_⟩) fun b s1 ⟨H1, I1, as, lk, q⟩ => ?_
    · have := fz_res so res
      cases hr : evE G c L S with
      | exc _ _ => rw [hr] at this; exact this
      | bad => rw [hr] at this; exact this
      | ok d S' =>
        rw [hr] at this
        intro ι' H' v p x so' r
        obtain ⟨as, lk, q⟩ := this ι' H' v p x so' r
        obtain ⟨H2, L2⟩ := lk_some as lk
        obtain ⟨b, rfl, _⟩ := q H2 L2
        refine ⟨b, rfl, as, lk, fun H3 L3 => ?_⟩
        obtain ⟨b', e, qq⟩ := q H3 L3
        cases e; exact qq
    · obtain ⟨H2, L2, I2⟩ := lock_all as I1 lk
      exact ⟨H2, I2, q H2 L2⟩
end
end Mi
set_option maxHeartbeats 2000000
namespace Mi
open PySem PySem.Spec PyProof.Rows L2
variable {X : Cx} {pins : List (Addr × Obj)} {σ : L2.St} {H : Hp} {s : Shared}
/-- C(), C an exception class of the program without own __init__: a new object -/
theorem pe_mk0 {C : Addr} {bmB : List Value} {B newId initId : String} {x : Str} {p pos : Pos} (F : ExcBaseFacts B newId initId bmB) (q : PySem.W.excIn X.K C bmB newId = true) (gC : X.mg x = some (.ref C)) (kC : PySem.W.keepIn X.K (.ref C) = true) (hg : Gl X x)
    (hdb : (x == ("__debug__" : Str)) = false) : PE X (.Call (.Name x p) [] [] pos) (fun _ H Q => ∀ a, H a = none → Q (.ref a) (upd H a (xHO C a))) := by
  refine ⟨fun pins s σ H Q I h => ?_⟩
  refine wpAny_Call_Name_kw (ld_glob I hg gC ?_ hdb)
  refine PySem.W.callWith_K0 I.kIn kC ?_
  obtain ⟨bm, N, nm, qn, bs, hdct, sn, sub, ab, col, dd, k0, k1, k2, k3, k5, mN, hC, hN, hni, T⟩ := exc_obj I.kIn q
  refine wpAny_call_exc_subT F T hC hN hni (fun h' a hm => ?_) (Nat.zero_le _)
  have hn : H a = none := I.hok.gone hm.new
  obtain ⟨t, ht, _, _⟩ := hm.there
  refine ⟨.ref a, upd H a (xHO C a), I.laidN (t' := s.toks) hm.keeps hm.new hn ⟨⟨_, ht, rfl, rfl, trivial⟩, ⟨_, ht⟩, fun h1 h2 ⟨o', j⟩ k => ⟨o', ⟨k _ j.1, j.2, j.3, by have := j.4; cases e : o'.dict <;> rw [e] at this <;> exact this⟩⟩⟩, rfl, h a hn⟩
theorem inv_frz_exo {a C : Addr} {d : Option Addr} (I : Inv X pins σ H s) (e : H a = some (exo a C d)) : ∃ o, Inv X pins σ (upd H a (.frz o (exo a C d))) s := by
  obtain ⟨t1, ho⟩ := exo_at I.hok e
  refine ⟨_, I.write (t' := s.toks) (h' := s.heap) (x := a) (e := a) (o := .frz _ (exo a C d)) (by rw [e]; exact True.intro) (.inl rfl) (fun _ _ _ z => z) ⟨_, ho⟩ ⟨ho, exo_ok ho⟩⟩
theorem inv_frz_exd {dx : Addr} {fs : List (Str × V)} (I : Inv X pins σ H s) (e : H dx = some (exd dx fs)) : ∃ o, Inv X pins σ (upd H dx (.frz o (exd dx fs))) s := by
  obtain ⟨mA, hns, rel⟩ := exd_at I.hok e
  have hns' := hns
  obtain ⟨o, es, ep, ho, hd, hr⟩ := hns'
  refine ⟨_, I.write (t' := s.toks) (h' := s.heap) (x := dx) (e := dx) (o := .frz _ (exd dx fs)) (by rw [e]; exact True.intro) (.inl rfl) (fun _ _ _ z => z) ⟨_, ho⟩ ⟨ho, exd_ok hns rel⟩⟩
/-- C(e) -/
def tMk1 (C : Addr) (f : Str) (te : TE) : TE := fun σ H Q => te σ H fun v H1 => ∀ a d o od, H1 a = none → H1 d = none → d ≠ a → Q (.ref a) (upd (upd H1 d (.frz od (exd d [(f, v)]))) a (.frz o (exo a C (some d))))
theorem pe_mk1 {x : Str} {C fI : Addr} {k : Nat} {fd : FuncData} {f pS pV : Str} {e : Expr} {te : TE} {p pos : Pos} (T : OexC X.K C) (hno : PySem.W.findIn X.K (.ref C) f = some none) (iC : PySem.W.findIn X.K (.ref C) "__init__" = some (some (.ref fI))) (tI : PySem.W.typeIn X.K (.ref fI) = some (.type "function"))
    (F1 : FnOk X.prog X.w X.K X.mg X.base (L2.CX X.prog X.w) k fI fd [pS, pV] (spI X.K f)) (hr : Room (k + 1) X.A) (hb : Binds X.K fd [pS, pV] []) (hg : Gl X x) (hm : X.mg x = some (.ref C)) (he : PE X e te)
    (hdb : (x == ("__debug__" : Str)) = false) (hs : starEach [e] X.env = (false, eval e X.env) :: starEach [] X.env) :
    PE X (.Call (.Name x p) [e] [] pos) (tMk1 C f te) := by
  refine ⟨fun pins s σ H Q I h => ?_⟩
  obtain ⟨nm, q, N, bs, bm, sn, sub, ab, col, dd, k0, k1, k2, k3, k5, hC, hbm⟩ := T.cls
  refine wpAny_Call_Name_kw (ld_glob I hg hm ?_ hdb)
  refine PySem.W.callWith_K (h₀ := X.base) I.ok.mod.kin T.kC ?_ hs (by rfl)
  rw [hs]
  show wpAny _ _ (spliced ((false, eval e X.env) :: backTo pos (starEach [] X.env))) _ _ s
  refine Calls.spliced_cons (thn (he.run pins s σ H _ I h) fun u s1 ⟨v, H1, I1, r1, q1⟩ => ?_)
  refine Calls.spliced_nil ⟨I1.kIn, ?_⟩
  show wpAny _ _ (call (.ref C) [u]) _ _ _
  obtain ⟨hp, g, dr, tk, os⟩ := s1
  have hsz : hp.objs.size ≤ hp.objs.size + 1 := Nat.le_succ _
  have hn : H1 (hp.objs.size + 1) = none := I1.hok.fresh hsz
  have kk : ∀ b o, hp.get? b = some o → ((hp.push (PySem.W.kdv_tup [u])).push (PySem.HandSPX.excO C hp.objs.size)).get? b = some o := fun b o e => Heap.get?_push_of_some _ (Heap.get?_push_of_some _ e)
  have hget : ((hp.push (PySem.W.kdv_tup [u])).push (PySem.HandSPX.excO C hp.objs.size)).get? (hp.objs.size + 1) = some (PySem.HandSPX.excO C hp.objs.size) := by heap_get
  have I2 : Inv X pins σ (upd H1 (hp.objs.size + 1) (exo (hp.objs.size + 1) C none)) ⟨(hp.push (PySem.W.kdv_tup [u])).push (PySem.HandSPX.excO C hp.objs.size), g, dr, tk, os⟩ :=
    I1.laid (t' := tk) (a := hp.objs.size + 1) (o := exo (hp.objs.size + 1) C none) (h' := (hp.push (PySem.W.kdv_tup [u])).push (PySem.HandSPX.excO C hp.objs.size)) kk hsz (exo_ok hget)
  have r2 : Vals [V.ref (hp.objs.size + 1), v] [Value.ref (hp.objs.size + 1), u] := .cons rfl (.cons r1 .nil)
  have hus : ([u] : List Value).length ≤ sizeLine := by
    rw [sizeLine_eq]; simp
  have hb2 := hb ⟨(hp.push (PySem.W.kdv_tup [u])).push (PySem.HandSPX.excO C hp.objs.size), g, dr, tk, os⟩ [Value.ref (hp.objs.size + 1), u] I2.kIn rfl
  rw [List.append_nil] at hb2
  refine wpAny_call (PySem.HandSPX.call_own F.excBase_ValueError (fun Y => PySem.HandSPX.refsVE_contains Y bm hbm) (I1.kIn _ _ hC) (PySem.W.looks_findIn I1.kIn iC) (fun self => PySem.W.bind_fn I1.kIn self tI) hus
    (codeAny_mono (F1.run _ X.stack _ _ ⟨[Value.ref (hp.objs.size + 1), u], []⟩ [Value.ref (hp.objs.size + 1), u] _ (fun w H2 => w = .non ∧ ∃ dx, upd H1 (hp.objs.size + 1) (exo (hp.objs.size + 1) C none) dx = none ∧ dx ≠ hp.objs.size + 1 ∧ H2 = upd (upd (upd H1 (hp.objs.size + 1) (exo (hp.objs.size + 1) C none)) dx (exd dx [(f, v)])) (hp.objs.size + 1) (exo (hp.objs.size + 1) C (some dx))) (fun _ _ _ => False) (hr.make C [u] []) (I2.env0.make C [u] []) hb2 r2
      ⟨_, C, v, rfl, upd_same, T, hno, fun dx h1 h2 => ⟨rfl, dx, h1, h2, rfl⟩⟩) fun r s' hq' => ?_))
  cases r with
  | error er =>
    obtain ⟨_, _, _, _, _, _, _, _, _, _, _, _, _, _, _, _, _, no⟩ := (show L2.CX X.prog X.w X.stack _ _ (fun _ _ _ => False) er s' from hq')
  | ok fl =>
    cases fl with
    | ret u' =>
      obtain ⟨v', H2, os2, bare2, un2, hok2, rv, ev, dx, hd1, hda, eH⟩ := hq'
      subst ev
      have J := I2.call' (ch := []) os2 un2 hok2 bare2 (fun b z => absurd z (by simp))
      subst eH
      have hda1 : H1 dx = none := by rw [upd_ne hda] at hd1; exact hd1
      have e1 : (upd (upd (upd H1 (hp.objs.size + 1) (exo (hp.objs.size + 1) C none)) dx (exd dx [(f, v)])) (hp.objs.size + 1) (exo (hp.objs.size + 1) C (some dx))) dx = some (exd dx [(f, v)]) := by rw [upd_ne hda, upd_same]
      obtain ⟨od, J1⟩ := inv_frz_exd J e1
      obtain ⟨o, J2⟩ := inv_frz_exo (a := hp.objs.size + 1) (C := C) (d := some dx) J1 (by rw [upd_ne (Ne.symm hda), upd_same])
      refine ⟨rv, .ref (hp.objs.size + 1), _, J2, rfl, ?_⟩
      have := q1 (hp.objs.size + 1) dx o od hn hda1 hda
      have eh : upd (upd H1 dx (.frz od (exd dx [(f, v)]))) (hp.objs.size + 1) (.frz o (exo (hp.objs.size + 1) C (some dx))) = upd (upd (upd (upd (upd H1 (hp.objs.size + 1) (exo (hp.objs.size + 1) C none)) dx (exd dx [(f, v)])) (hp.objs.size + 1) (exo (hp.objs.size + 1) C (some dx))) dx (.frz od (exd dx [(f, v)]))) (hp.objs.size + 1) (.frz o (exo (hp.objs.size + 1) C (some dx))) := by
        funext b
        by_cases h1 : b = hp.objs.size + 1
        · rw [h1, upd_same, upd_same]
        · rw [upd_ne h1, upd_ne h1]
          by_cases h2 : b = dx
          · rw [h2, upd_same, upd_same]
          · rw [upd_ne h2, upd_ne h2, upd_ne h1, upd_ne h2, upd_ne h1]
      rw [← eh]
      exact this
    | next => exact False.elim hq'
    | brk => exact False.elim hq'
    | cont => exact False.elim hq'
/-- D.__init__(self, ..), D an own class whose __init__ is ValueError's -/
theorem pe_deinit {y : Str} {D : Addr} {e : Expr} {es : List Expr} {ta : TA} {p1 p2 pos : Pos} (hg : Gl X y) (hm : X.mg y = some (.ref D)) (hr : PySem.W.readsIn X.K D (.type "type") = true) (vV : PySem.W.findCls X.K (.ref D) (.type "type") "__init__" = some (.val (.builtin "ValueError.__init__")))
    (hsp : PySem.W.specialIn X.K (.ref D) "__getattribute__" = some (some (.builtin "type.__getattribute__"))) (ha : PA X (e :: es) ta) (hdb : (y == ("__debug__" : Str)) = false)
    (hline : (p2.endLine == pos.line) = true) (hst : (e :: es).all notStar = true) (h30 : (e :: es).length < 30) :
    PE X (.Call (.Attribute (.Name y p1) "__init__" p2) (e :: es) [] pos) (tVeI X.K ta) := by
  refine ⟨fun pins s σ H Q I h => ?_⟩
  have st2 : es.all notStar = true := by rw [List.all_cons, Bool.and_eq_true] at hst; exact hst.2
  have few : ((backTo pos (starEach (e :: es) X.env)).all (fun x => !x.1) && (backToKw pos (keywordEach [] X.env)).all (fun x => x.1.isSome)
      && decide ((e :: es).length + ([] : List Keyword).length + (if ([] : List Keyword).isEmpty then 0 else 1) < 30)) = true := by
    rw [star_all X.env pos hst, Bool.true_and, Bool.and_eq_true]
    exact ⟨rfl, decide_eq_true (by simpa using h30)⟩
  have hform : methodCallForm ((e :: es).length + ([] : List Keyword).length) (backTo pos (starEach (e :: es) X.env)) (backToKw pos (keywordEach [] X.env)) = true := few
  have hpos : methodCallPos true (.Name y p1) X.env p2 pos = pure pos := by unfold methodCallPos; simp [hline]
  rw [arm_eval_Call, base_of (show notSuper (.Name y p1) = true from rfl)]
  refine wpAny_bind (ld_glob I hg hm ?_ hdb)
  refine wpAny_bind (wpAny_standAt ?_)
  unfold methodCall
  rw [hform]
  refine wpAny_bind (wpAny_holding (PySem.W.method_cls I.kIn hsp (PySem.W.cls_value I.kIn hr vV (by decide +kernel) ?_)))
  refine wpAny_bind (wpAny_of_eq hpos ?_)
  show wpAny _ _ (callWith pos (Value.builtin "ValueError.__init__") [] (backTo pos (starEach (e :: es) X.env)) []) _ _ _
  refine PyProof.Rows.callWith_method1 (thn (ha.run pos pins _ σ H _ (I.tok _) h) fun us s1 ⟨vs, H1, I1, r1, a, C, ws, ev, hl, T, ea, q⟩ => ?_) (star_cons X.env hst) (star_plain X.env pos st2)
  subst ev
  cases r1 with
  | @cons _ u0 _ ur ra rw' =>
    obtain rfl : u0 = Value.ref a := ra
    have hlen : ur.length ≤ sizeLine := by
      rw [← Paired.length rw', sizeLine_eq]
      omega
    exact oinit_ok T I1 ea hlen fun s' J => ⟨.non, H1, J, rfl, q⟩
/-- such an __init__ -/
theorem init_fn {P : Program} {w : World} {K : PySem.W.Frag} {mg : Str → Option Value} {base : Heap} {fI D : Addr} {qual pS pV f : Str} {params : Arguments} {scope : Scope} {dV kV doc pm cdv ct oc : Value} {an od : Option Addr} {osl : Array (Option Value)} {p1 p2 p3 p4 p5 p6 p7 p8 p9 p10 : Pos}
    (lk : K.lookup fI = some ⟨oc, od, .func (PySem.W.fnOf "__init__" qual params [.Expr (.Call (.Attribute (.Name "DialError" p1) "__init__" p2) [.Name pS p3, .Name pV p4] [] p5) p6, .Assign [.Attribute (.Name pS p7) f p8] (.Name pV p9) p10] scope dV kV doc pm an cdv ct), osl⟩)
    (hcd : PySem.W.codeIn K cdv qual = true) (S : FnScope [pS, pV] [pS, pV] scope) (hS : scope.names.lookup pS = some .local) (hV : scope.names.lookup pV = some .local)
    (hS1 : (pS == ("__debug__" : Str)) = false) (hS2 : (pS == ("__classdict__" : Str)) = false) (hV1 : (pV == ("__debug__" : Str)) = false) (hV2 : (pV == ("__classdict__" : Str)) = false)
    (hy : scope.names.lookup ("DialError" : Str) = some .globalImplicit) (hm : mg ("DialError" : Str) = some (.ref D)) (hr : PySem.W.readsIn K D (.type "type") = true) (vV : PySem.W.findCls K (.ref D) (.type "type") "__init__" = some (.val (.builtin "ValueError.__init__")))
    (hsp : PySem.W.specialIn K (.ref D) "__getattribute__" = some (some (.builtin "type.__getattribute__"))) (hline : (p2.endLine == p5.line) = true) :
    FnOk P w K mg base (L2.CX P w) 1 fI (PySem.W.fnOf "__init__" qual params [.Expr (.Call (.Attribute (.Name "DialError" p1) "__init__" p2) [.Name pS p3, .Name pV p4] [] p5) p6, .Assign [.Attribute (.Name pS p7) f p8] (.Name pV p9) p10] scope dV kV doc pm an cdv ct) [pS, pV] (spI K f) := by
  refine fn_of (N := [pS, pV]) lk hcd S (fun vs H Q E ⟨a, C, y, e, _⟩ => by rw [e]; rfl) fun A outer s H vs Q E hR hsp' => ?_
  obtain ⟨a, C, v, rfl, ha, T, hno, hq⟩ := hsp'
  refine ⟨_, pss_cons (ps_expr (pe_deinit (D := D) ?_ hm hr vV hsp (pa_cons (pe_var (i := 0) rfl (.inl hS) hS1 hS2) (pa_cons (pe_var (i := 1) rfl (.inl hV) hV1 hV2) pa_nil)) (by decide +kernel) hline rfl (by simp))) (pss_one (ps_ost (pe_var (i := 0) rfl (.inl hS) hS1 hS2) (pe_var (i := 1) rfl (.inl hV) hV1 hV2))), ?_⟩
  · unfold L2.Gl Env.kindOf
    exact hy
  · refine ⟨.ref a, rfl, v, rfl, a, C, [v], rfl, by simp, T, ha, ?_⟩
    exact ⟨v, rfl, .ref a, rfl, a, C, rfl, T, hno, .inl ⟨ha, hq⟩⟩
theorem lookup_in {fs : List (Str × D)} {f : Str} {d : D} (h : fs.lookup f = some d) : f ∈ fs.map (·.1) := by
  induction fs with
  | nil => cases h
  | cons p r ih =>
    obtain ⟨g, x⟩ := p
    rw [List.lookup_cons] at h
    split at h
    · rename_i e
      have : f = g := by simpa using e
      rw [this]; simp
    · rw [List.map_cons]; exact List.mem_cons_of_mem _ (ih h)
theorem kr_lookup {K : PySem.W.Frag} {ι : List Addr} {H : Hp} {f : Str} {d : D} : ∀ {fs : List (Str × D)} {vs : List (Str × V)}, fs.map (·.1) = vs.map (·.1) → DRs K ι H (fs.map (·.2)) (vs.map (·.2)) → fs.lookup f = some d → ∃ w, vs.lookup f = some w ∧ DR K ι H d w
  | [], _, _, _, h => by cases h
  | (g, x) :: r, [], hk, _, _ => by cases hk
  | (g, x) :: r, (g', y) :: vs, hk, dr, h => by
    rw [List.map_cons, List.map_cons, List.cons.injEq] at hk
    obtain ⟨e, hk⟩ := hk
    have e' : g = g' := e
    subst e'
    obtain ⟨v, q, e1, d1, d2⟩ := dr
    rw [List.map_cons, List.cons.injEq] at e1
    obtain ⟨rfl, rfl⟩ := e1
    rw [List.lookup_cons] at h ⊢
    split at h
    · cases h; exact ⟨_, rfl, d1⟩
    · exact kr_lookup hk d2 h
/-- e.f of such an exception, of an instance -/
def tFld (K : PySem.W.Frag) (n : Str) (te : TE) : TE := fun σ H Q => te σ H fun x H1 => ∃ (a C : Addr) (v : V), x = .ref a ∧ ((FxC K C n ∧ ExvAt H1 a C n v) ∨ (Cls K C ∧ NoAttr K C n ∧ ∃ dx fs, (H1 a = some (.ins C dx fs) ∨ ∃ o, H1 a = some (.frz o (.ins C dx fs))) ∧ fs.lookup n = some v)) ∧ Q v H1
theorem pe_fld {e : Expr} {te : TE} {pos : Pos} {n : Str} (he : PE X e te) (hb : attributeBase e n X.env (eval e X.env) = eval e X.env) : PE X (.Attribute e n pos) (tFld X.K n te) := by
  refine ⟨fun pins s σ H Q I h => ?_⟩
  refine attr_of hb (thn (he.run pins s σ H _ I h) fun u s1 hh => ?_)
  obtain ⟨x, H1, I1, rx, a, C, v, ex, hv, q⟩ := hh
  subst ex
  obtain rfl : u = Value.ref a := rx
  rcases hv with ⟨T, dd, o, od', ea, ed⟩ | ⟨c, no, dx, fs, ea, lk⟩
  case inr =>
    rcases ea with ea | ⟨o, ea⟩
    · exact getattr_ok I1 ea c no lk fun u s' I' r => ⟨v, H1, I', r, q⟩
    · obtain ⟨_, d, z, ne, ob, mA, nn, r, w⟩ := (show ObjOk X.prog X.w H1 s1.heap a (.frz o (.ins C dx fs)) from I1.hok a _ ea)
      obtain ⟨u, hu, ru⟩ := RelO.some_of (v := v) (o := mA n) (by rw [← lk]; exact r n)
      exact get_map I1.kIn ⟨ob, nn, ne⟩ (c.get n) c.hd no hu (handed_of ru) ⟨v, H1, I1.tok _, ru, q⟩
  obtain ⟨ho, ⟨⟨t1, ho2⟩, _⟩⟩ := (show ObjOk X.prog X.w H1 s1.heap a (.frz o (exo a C (some dd))) from I1.hok a _ ea)
  obtain ⟨hod, ⟨⟨mA, hns, hr⟩, _⟩⟩ := (show ObjOk X.prog X.w H1 s1.heap dd (.frz od' (exd dd [(n, v)])) from I1.hok dd _ ed)
  obtain ⟨od, ho3, hl⟩ := lookIn_ns hns
  obtain ⟨u, hu, ru⟩ := RelO.some_of (v := v) (o := mA n) (by have := hr n; rw [lookup_put, if_pos rfl] at this; exact this)
  have J : PySem.W.InstAt s1.heap a { cls := .ref C, dict := some dd, data := .fields #[.ref t1, .none, .none, .none, .bool false, .none] } C (some od) := ⟨ho2, rfl, rfl, ho3⟩
  exact HandSPX.exc_get I1.kIn J T.as.hg T.as.hk T.as.hs (PySem.W.findObj_own T.as.hd T.no rfl (by rw [hl, hu])) (handed_of ru) ⟨v, H1, I1.tok _, ru, q⟩
section
variable {nm : Nm} {N : List Str} {G : Gv} {k : Nat} {X : Cx}
theorem notSuper_base {e : Expr} {n : Str} (h : notSuper e = true) : attributeBase e n X.env (eval e X.env) = eval e X.env := base_of h
theorem ep_mkx {x : Str} {p pos : Pos} (g : Gd nm N G k X) (gl : L2.Gl X x) (hx : x ∈ nm.xs) : EP2 X G (.Call (.Name x p) [] [] pos) (.mkx x) := by
  obtain ⟨C, bmB, B, n1, n2, h1, h2, h3, h4, h5, h6, h7, h8⟩ := (g.xs x hx).ex
  refine .of ((pe_mk0 h4 h5 h1 h3 gl h8).imp fun σ H Q ⟨ι, S, L, so, lo, res⟩ => ?_) fun _ => rfl
  intro a ha
  exact res (ι ++ [a]) _ _ (List.prefix_append _ _) (Xt.new ha) (so.push ha ⟨C, h2, upd_same⟩) ⟨a, by rw [← so.len]; simp, rfl⟩
theorem ep_mkf {x f : Str} {e : Expr} {c : CE} {p pos : Pos} (g : Gd nm N G k X) (gl : L2.Gl X x) (hx : (x, f) ∈ nm.fx) (he : EP2 X G e c) (hst : notStar e = true) : EP2 X G (.Call (.Name x p) [e] [] pos) (.mkf x f c) := by
  obtain ⟨C, fI, fd, pS, pV, h1, h2, h3, h4, h5, h6, h7, h8⟩ := (g.fx (x, f) hx).ex
  refine .of ((pe_mk1 h3.own h3.no h4 h5 h6 (g.room.mono (by omega)) h7 gl h1 he.pe h8 (star_cons X.env (by rw [List.all_cons, hst]; rfl))).imp fun σ H Q ⟨ι, S, L, so, lo, res⟩ => ?_) fun _ => rfl
  obtain ⟨d, S1, e1, res⟩ := Res.step res
  refine TEc.of so lo e1 fun ι1 H1 v p1 x1 so1 r1 => ?_
  intro a d2 o od ha hd hne
  have res := res.mono p1 x1
  have so2 := so1.tup (o := .frz od (exd d2 [(f, v)])) hd
  have ha2 : (upd H1 d2 (.frz od (exd d2 [(f, v)]))) a = none := by rw [upd_ne (Ne.symm hne)]; exact ha
  have x2 : Xt H1 (upd (upd H1 d2 (.frz od (exd d2 [(f, v)]))) a (.frz o (exo a C (some d2)))) := (Xt.new hd).trans (Xt.new ha2)
  refine res (ι1 ++ [a]) _ _ (List.prefix_append _ _) x2 (so2.push ha2 ⟨C, v, h2, h3, ⟨d2, o, od, upd_same, ?_⟩, r1.mono (List.prefix_append _ _) x2 _⟩) ⟨a, by rw [← so1.len]; simp, rfl⟩
  rw [upd_ne hne, upd_same]
theorem ep_fld {f : Str} {e : Expr} {c : CE} {pos : Pos} (he : EP2 X G e c) (hs : notSuper e = true) : EP2 X G (.Attribute e f pos) (.fld c f) := by
  refine .of ((pe_fld he.pe (notSuper_base hs)).imp fun σ H Q ⟨ι, S, L, so, lo, res0⟩ => ?_) fun _ => rfl
  obtain ⟨d, S1, e1, res⟩ := Res.step res0
  clear res0
  refine TEc.of so lo e1 fun ι1 H1 v p1 x1 so1 r1 => ?_
  replace res := res.mono p1 x1
  cases d with
  | ref n =>
    simp only [fldD] at res
    split at res
    · rename_i x g v2 hx
      split at res
      · rename_i hg
        subst hg
        obtain ⟨a, ea, C, w, hC, fx, ev, dr⟩ := so1.at hx
        obtain ⟨a', ea', rfl⟩ := r1
        rw [ea] at ea'
        cases ea'
        exact ⟨a, C, w, rfl, .inl ⟨fx, ev⟩, res.val so1 dr⟩
      · exact res.elim
    · rename_i x fs hx
      obtain ⟨a, ea, C, dx, vs, hC, ic, ev, hk, dr⟩ := so1.at hx
      obtain ⟨a', ea', rfl⟩ := r1
      rw [ea] at ea'
      cases ea'
      cases hl : fs.lookup f with
      | none => rw [hl] at res; exact res.elim
      | some d =>
        rw [hl] at res
        obtain ⟨w, hw, dw⟩ := kr_lookup hk dr hl
        exact ⟨a, C, w, rfl, .inr ⟨ic.cls, ic.no f (lookup_in hl), dx, vs, .inl ev, hw⟩, res.val so1 dw⟩
    · exact res.elim
  | po c gs ds =>
    obtain ⟨a, o, dx, vs, rfl, ⟨C, hC, ic, ev⟩, hk, dr⟩ := r1
    have ll : gs.length = ds.length := by
      have := DRs.length dr
      rw [← hk]; simp at this ⊢; omega
    simp only [fldD] at res
    cases hl : (gs.zip ds).lookup f with
    | none => rw [hl] at res; exact res.elim
    | some d =>
      rw [hl] at res
      have z1 : (gs.zip ds).map (·.1) = gs := List.map_fst_zip (by omega)
      have z2 : (gs.zip ds).map (·.2) = ds := List.map_snd_zip (by omega)
      obtain ⟨w, hw, dw⟩ := kr_lookup (fs := gs.zip ds) (by rw [z1, hk]) (by rw [z2]; exact dr) hl
      exact ⟨a, C, w, rfl, .inr ⟨ic.cls, ic.no f (by have := lookup_in hl; rwa [z1] at this), dx, vs, .inr ⟨o, ev⟩, hw⟩, res.val so1 dw⟩
  | _ => exact res.elim
theorem erMk_is {sc : Scope} {f : Expr} {es : List Expr} {kws : List Keyword} {q : Str ⊕ (Str × Str × Expr)} (hsc : X.env.scope = sc) (h : erMk nm sc f es kws = some q) : kws = [] ∧
    ((∃ x p, f = .Name x p ∧ es = [] ∧ q = .inl x ∧ L2.Gl X x ∧ x ∈ nm.xs) ∨ ∃ x p g e, f = .Name x p ∧ es = [e] ∧ q = .inr (x, g, e) ∧ L2.Gl X x ∧ (x, g) ∈ nm.fx ∧ notStar e = true) := by
  unfold erMk at h
  split at h
  · split at h
    · rename_i hc
      cases h
      exact ⟨(by cases kws with | nil => rfl | cons _ _ => cases hc.2.2), .inl ⟨_, _, rfl, rfl, rfl, lk_gl (X := X) hsc hc.1, hc.2.1⟩⟩
    · cases h
  · split at h
    · rename_i x p e hc
      obtain ⟨g, hg, rfl⟩ := Option.map_eq_some_iff.mp h
      refine ⟨(by cases kws with | nil => rfl | cons _ _ => cases hc.2.1), .inr ⟨_, _, g, _, rfl, rfl, rfl, lk_gl (X := X) hsc hc.1, PySem.mem_of_lookup hg, ?_⟩⟩
      have := hc.2.2
      cases e <;> first | rfl | cases this
    · cases h
  · cases h
end
end Mi
namespace Mi
open PySem L2
section
variable {X : Cx} {k : Nat} {F : List D → Store → R D}
theorem run_newG {f C : Addr} {fd : FuncData} {ps : List Str} (M : Mk X.K C f) (G : FnG X.prog X.w X.K X.mg X.base k f fd ps F) (hr : Room (2 * k + 3) X.A) (hg : X.A.guards = some []) (hb : Binds X.K fd ps []) (har : ∀ ds S, ds.length ≠ ps.length → F ds S = .bad)
    {pins : List (Addr × Obj)} {σ : St} {H : Hp} {s : Shared} {Q : VK} {us : List Value} {vs : List V} (I : Inv X pins σ H s) (r : Vals vs us)
    (h : ∀ x dx, H x = none → H dx = none → dx ≠ x → RC X.K F (.ref x :: vs) (upd (upd H dx (.own x)) x (.ins C dx [])) (fun v H2 => v = .non ∧ Q (.ref x) H2)) :
    wpAny (model X.prog X.w) X.A (call (.ref C) us) (EP X pins σ Q) X.xe s := by
  obtain ⟨ι, S, ds, so, dr, res⟩ := h (s.heap.objs.size + 1) s.heap.objs.size (I.hok.fresh (Nat.le_succ _)) (I.hok.fresh (Nat.le_refl _)) (Nat.ne_of_lt (Nat.lt_succ_self _))
  have I2 := Inv.made (C := C) I
  have r2 : Vals (V.ref (s.heap.objs.size + 1) :: vs) (Value.ref (s.heap.objs.size + 1) :: us) := .cons rfl r
  have hl : ds.length = ps.length := Classical.byContradiction fun z => by
    rw [har ds S z] at res
    exact res.elim
  have hv : (V.ref (s.heap.objs.size + 1) :: vs).length = ps.length := by rw [dr.length]; exact hl
  have bd := hb _ (Value.ref (s.heap.objs.size + 1) :: us) I2.kIn (by rw [List.append_nil, ← r2.length]; exact hv)
  rw [List.append_nil] at bd
  refine wpAny_call (make_map (f := f) I.kIn M.makes M.init (beq_iff_eq.mp M.fn) (codeAny_mono (G.run _ X.stack _ _ ⟨Value.ref (s.heap.objs.size + 1) :: us, []⟩ (Value.ref (s.heap.objs.size + 1) :: us) _ (fun v H2 => v = .non ∧ Q (.ref (s.heap.objs.size + 1)) H2) (fun _ _ _ => False) (Room.make (k := 2 * k + 2) hr C us []) hg
    (I2.env0.make C us []) bd r2 hv ⟨ι, S, ds, so, dr, res.x⟩) fun r s' hq' => ?_))
  cases r with
  | error e =>
    obtain ⟨_, _, _, _, _, _, _, _, _, _, _, _, _, _, _, _, _, _, no⟩ := (show L2.CX X.prog X.w X.stack _ _ (WX0 X.K fun _ _ _ => False) e s' from hq')
    exact no.elim
  | ok fl =>
    cases fl with
    | ret u =>
      obtain ⟨v, H', I3, rv, ev, q3⟩ := I2.after hq'
      subst ev
      exact ⟨rv, ⟨V.ref (s.heap.objs.size + 1), H', I3, rfl, q3⟩⟩
    | next => exact False.elim hq'
    | brk => exact False.elim hq'
    | cont => exact False.elim hq'
theorem run_newD {f C : Addr} {c : Str} {fd : FuncData} {ps : List Str} (hC : ClsN X.K c C) (hc : Cls X.K C) (M : Mk X.K C f) (G : FnG X.prog X.w X.K X.mg X.base k f fd ps F) (hr : Room (2 * k + 3) X.A) (hg : X.A.guards = some []) (hb : Binds X.K fd ps []) (har : ∀ ds S, ds.length ≠ ps.length → F ds S = .bad)
    {pins : List (Addr × Obj)} {σ : St} {H : Hp} {s : Shared} {Q : VK} {us : List Value} {vs : List V} (I : Inv X pins σ H s) (r : Vals vs us) (h : RC X.K (newI F c) vs H Q) :
    wpAny (model X.prog X.w) X.A (call (.ref C) us) (EP X pins σ Q) X.xe s := by
  obtain ⟨ι, S, ds, so, dr, res⟩ := h
  refine run_newG M G hr hg hb har I r fun x dx hx hd hne => ?_
  have so1 := so.tup (o := .own x) hd
  have hx2 : (upd H dx (.own x)) x = none := by rw [upd_ne (Ne.symm hne)]; exact hx
  have x2 : Xt H (upd (upd H dx (.own x)) x (.ins C dx [])) := (Xt.new hd).trans (Xt.new hx2)
  have so2 := so1.push (c := .ins c []) (o := .ins C dx []) hx2 ⟨C, dx, [], hC, ⟨hc, by simp⟩, upd_same, rfl, rfl⟩
  have gx : (ι ++ [x])[S.length]? = some x := by rw [← so.len]; simp
  refine ⟨ι ++ [x], S ++ [.ins c []], .ref S.length :: ds, so2, ⟨.ref x, _, rfl, ⟨x, gx, rfl⟩, dr.mono (List.prefix_append _ _) x2 _⟩, ?_⟩
  unfold newI at res
  cases e : F (.ref S.length :: ds) (S ++ [.ins c []]) with
  | ok d S2 =>
    rw [e] at res
    cases d with
    | non => exact fun ι2 H2 v p x3 s3 dv => ⟨dv, res ι2 H2 _ ((List.prefix_append _ _).trans p) (x2.trans x3) s3 ⟨x, pre_get p gx, rfl⟩⟩
    | _ => exact res.elim
  | exc _ _ => rw [e] at res; exact res.elim
  | bad => rw [e] at res; exact res.elim
variable {x : Str} {p pos : Pos} {e : Expr} {es : List Expr} {t : TA}
theorem pe_newG (G : MkF X k x F) (hr : Room (2 * k + 3) X.A) (hg : X.A.guards = some []) (gl : L2.Gl X x) (ha : PA X (e :: es) t)
    (he : starEach (e :: es) X.env = (false, eval e X.env) :: starEach es X.env) (hpl : (backTo pos (starEach es X.env)).any (·.1) = false) : PE X (.Call (.Name x p) (e :: es) [] pos) (tCB (RC X.K (newI F x)) t) := by
  obtain ⟨C, f, fd, ps, hm, hC, hc, M, G, hb, har, hdb⟩ := G.ex
  refine ⟨fun pins s σ H Q I h => ?_⟩
  refine wpAny_Call_Name_kw (ld_glob I gl hm ?_ hdb)
  refine PySem.W.callWith_K (h₀ := X.base) I.ok.mod.kin M.kp (thn (ha.run pos pins s σ H _ I h) fun us s1 ⟨vs, H1, I1, r, q⟩ => ⟨I1.kIn, ?_⟩) he hpl
  exact run_newD hC hc M G hr hg hb har I1 r q
theorem pe_newG0 (G : MkF X k x F) (hr : Room (2 * k + 3) X.A) (hg : X.A.guards = some []) (gl : L2.Gl X x) : PE X (.Call (.Name x p) [] [] pos) (tCB (RC X.K (newI F x)) tNil) := by
  obtain ⟨C, f, fd, ps, hm, hC, hc, M, G, hb, har, hdb⟩ := G.ex
  refine ⟨fun pins s σ H Q I h => ?_⟩
  refine wpAny_Call_Name_kw (ld_glob I gl hm ?_ hdb)
  exact PySem.W.callWith_K0 I.kIn M.kp (run_newD (us := []) hC hc M G hr hg hb har I .nil h)
section
variable {nm : Nm} {N : List Str} {G : Gv}
theorem ep_new {x : Str} {i : Nat} {es : List Expr} {cs : List CE} {np pos : Pos} {er : Expr → Option CE} (g : Gd nm N G k X) (m : MkF X k x (G.fn i)) (hp : ∀ e c, er e = some c → EP2 X G e c) (hst : es.all notStar = true) (h : erAll er es = some cs) (hg : L2.Gl X x) : EP2 X G (.Call (.Name x np) es [] pos) (.new x i (caOf cs)) := by
  refine .of ?_ fun _ => rfl
  cases es with
  | nil =>
    cases h
    refine (pe_newG0 m g.room g.cg.gu hg).imp fun σ H Q ⟨ι, S, L, so, lo, res⟩ => ?_
    have res := Res.ungc so res
    exact ⟨ι, S, [], so, rfl, res⟩
  | cons e es =>
    refine (pe_newG m g.room g.cg.gu hg (pa_of h hst hp) (star_cons X.env hst) (star_plain X.env pos (by rw [List.all_cons, Bool.and_eq_true] at hst; exact hst.2))).imp fun σ H Q ⟨ι, S, L, so, lo, res⟩ => ?_
    exact args_go so lo (Res.ungc so res)
end
theorem putD1_keys {f : Str} {d : D} : ∀ {fs : List (Str × D)} {g : Str}, g ∈ (putD1 f d fs).map (·.1) → g = f ∨ g ∈ fs.map (·.1)
  | [], g, h => by
    left
    simpa [putD1] using h
  | (k, x) :: r, g, h => by
    unfold putD1 at h
    split at h
    · right; simpa using h
    · rw [List.map_cons] at h ⊢
      rcases List.mem_cons.mp h with q | q
      · right; rw [q]; simp
      · rcases putD1_keys q with q | q
        · exact .inl q
        · exact .inr (List.mem_cons_of_mem _ q)
theorem kr_putF {K : PySem.W.Frag} {ι : List Addr} {H : Hp} {f : Str} {d : D} {v : V} (dv : DR K ι H d v) : ∀ {fs : List (Str × D)} {vs : List (Str × V)}, KR K ι H fs vs → KR K ι H (putD1 f d fs) (putF f v vs)
  | [], vs, ⟨hk, hr⟩ => by
    cases vs with
    | nil => exact ⟨rfl, v, [], rfl, dv, rfl⟩
    | cons _ _ => cases hk
  | (g, x) :: r, [], ⟨hk, _⟩ => by cases hk
  | (g, x) :: r, (g', y) :: vs, ⟨hk, hr⟩ => by
    rw [List.map_cons, List.map_cons, List.cons.injEq] at hk
    obtain ⟨e, hk⟩ := hk
    have e' : g = g' := e
    subst e'
    obtain ⟨w, q, e1, d1, d2⟩ := hr
    rw [List.map_cons, List.cons.injEq] at e1
    obtain ⟨rfl, rfl⟩ := e1
    unfold putD1 putF
    by_cases hg : g = f
    · rw [if_pos hg, if_pos hg]
      exact ⟨by rw [List.map_cons, List.map_cons, hk], v, _, rfl, dv, d2⟩
    · rw [if_neg hg, if_neg hg]
      obtain ⟨a, b⟩ := kr_putF (f := f) dv (fs := r) (vs := vs) ⟨hk, d2⟩
      exact ⟨by rw [List.map_cons, List.map_cons, a], _, _, rfl, d1, b⟩
/-- an instance's field, written -/
theorem ins_put {K : PySem.W.Frag} {ι : List Addr} {H : Hp} {S : Store} {n : Nat} {a : Addr} {c f : Str} {fs : List (Str × D)} {d : D} {v : V} (so : Sok K ι H S) (e1 : ι[n]? = some a) (e2 : S[n]? = some (.ins c fs)) (hl : fs.length < 1000) (dv : DR K ι H d v)
    (no : ∀ C, ClsN K c C → NoAttr K C f) :
    ∃ C dx vs, H a = some (.ins C dx vs) ∧ Cls K C ∧ NoAttr K C f ∧ vs.length < 1000 ∧ Sok K ι (upd H a (.ins C dx (putF f v vs))) (S.set n (.ins c (putD1 f d fs))) ∧ Xt H (upd H a (.ins C dx (putF f v vs))) := by
  obtain ⟨C, dx, vs, hC, ic, ev, kr⟩ := so.ok n a _ e1 e2
  have hlen : vs.length = fs.length := by
    have := congrArg List.length kr.1
    simpa using this.symm
  obtain ⟨s2, x⟩ := so.put e1 e2 (c' := .ins c (putD1 f d fs)) (o := .ins C dx (putF f v vs)) rfl fun x => ⟨C, dx, _, hC, ⟨ic.cls, fun g hg => by
    rcases putD1_keys hg with q | q
    · rw [q]; exact no C hC
    · exact ic.no g q⟩, upd_same, (kr_putF (dv.mono (List.prefix_refl _) x _) ⟨kr.1, kr.2.mono (List.prefix_refl _) x⟩)⟩
  exact ⟨C, dx, vs, ev, ic.cls, no C hC, by omega, s2, x⟩
end
end Mi
namespace Mi
open PySem PySem.Spec PyProof.Rows L2
section
variable {X : Cx} {k : Nat} {m : Str} {apos pos : Pos} {o e : Expr} {es : List Expr} {ta : TE} {t : TA}
/-- an instance, a cell or a value, whose method is a def -/
def MthAt (X : Cx) (k : Nat) (m : Str) (H : Hp) (a : Addr) (F : List D → Store → R D) : Prop := ∃ (C dx : Addr) (fs : List (Str × V)) (f : Addr) (fd : FuncData) (ps : List Str),
  (H a = some (.ins C dx fs) ∨ ∃ q, H a = some (.frz q (.ins C dx fs))) ∧ fs.lookup m = none ∧ Cls X.K C ∧ Meth X.K C m f ∧ FnG X.prog X.w X.K X.mg X.base k f fd ps F ∧ Binds X.K fd ps [] ∧ ∀ ds S, ds.length ≠ ps.length → F ds S = .bad
theorem pe_mclG {pl : Sem Bool} (he : PE X o ta) (hr : Room (2 * k + 2) X.A) (hg : X.A.guards = some []) (ha : PA X (e :: es) t)
    (hst : starEach (e :: es) X.env = (false, eval e X.env) :: starEach es X.env) (hpl : (backTo pos (starEach es X.env)).any (·.1) = false)
    (ht : eval (.Call (.Attribute o m apos) (e :: es) [] pos) X.env = (do
      let ov ← eval o X.env
      standAt apos.atName
      let (f, first) ← holding [ov] (getMethod ov m pl)
      callWith pos f first (backTo pos (starEach (e :: es) X.env)) (backToKw pos (keywordEach [] X.env)))) :
    PE X (.Call (.Attribute o m apos) (e :: es) [] pos) (fun σ H Q => ta σ H fun x H1 => ∃ a F, x = .ref a ∧ MthAt X k m H1 a F ∧ t σ H1 fun vs H2 => RC X.K F (.ref a :: vs) H2 Q) := by
  refine ⟨fun pins s σ H Q I h => ?_⟩
  refine PySem.W.methodCall_KW (pl := pl) (thn (he.run pins s σ H _ I h) fun u s1 ⟨x, H1, I1, rx, a, F, ex, ⟨C, dx, fs, f, fd, ps, ea, l, c, hm, G, hb, har⟩, q⟩ => ?_) ht
  subst ex
  obtain rfl : u = Value.ref a := rx
  have go : wpAny (model X.prog X.w) X.A (callWith pos (.ref f) [.ref a] (backTo pos (starEach (e :: es) X.env)) (backToKw pos (keywordEach [] X.env))) (EP X pins σ Q) X.xe s1 := by
    refine PySem.W.callWith_K (first := [.ref a]) (h₀ := X.base) I1.ok.mod.kin hm.kp (thn (ha.run pos pins s1 σ H1 _ I1 q) fun us s2 ⟨vs, H2, I2, r, q2⟩ => ⟨I2.kIn, ?_⟩) hst hpl
    exact run_g (us := .ref a :: us) (vs := .ref a :: vs) G hr hg hb har I2 (.cons rfl r) q2
  rcases ea with ea | ⟨q', ea⟩
  · exact getmeth_ok I1 ea c hm l go
  · obtain ⟨_, d, z, ne, ob, mA, nn, r, w⟩ := (show ObjOk X.prog X.w H1 s1.heap a (.frz q' (.ins C dx fs)) from I1.hok a _ ea)
    have hn : mA m = none := RelO.none_of (by rw [← l]; exact r m)
    exact get_meth I1.kIn ⟨ob, nn, ne⟩ (c.get m) hm.at_ hm.fn hn go
theorem mc_eq (hbase : attributeBase o m X.env (eval o X.env) = eval o X.env) (hline : (apos.endLine == pos.line) = true)
    (hfew : ((backTo pos (starEach es X.env)).all (fun x => !x.1) && (backToKw pos (keywordEach [] X.env)).all (fun x => x.1.isSome)
      && decide (es.length + ([] : List Keyword).length + (if ([] : List Keyword).isEmpty then 0 else 1) < 30)) = true) :
    eval (.Call (.Attribute o m apos) es [] pos) X.env = (do
      let ov ← eval o X.env
      standAt apos.atName
      let (f, first) ← holding [ov] (getMethod ov m (do return (← importBound o X.env).getD true))
      callWith pos f first (backTo pos (starEach es X.env)) (backToKw pos (keywordEach [] X.env))) := by
  have hform : methodCallForm (es.length + ([] : List Keyword).length) (backTo pos (starEach es X.env)) (backToKw pos (keywordEach [] X.env)) = true := hfew
  have hpos : methodCallPos true o X.env apos pos = pure pos := by
    unfold methodCallPos
    rw [hline]; rfl
  rw [arm_eval_Call, hbase]
  refine congrArg _ (funext fun ov => congrArg _ (funext fun _ => ?_))
  unfold methodCall
  rw [hform, hpos]
  rfl
theorem pe_mclG0 {pl : Sem Bool} (he : PE X o ta) (hr : Room (2 * k + 2) X.A) (hg : X.A.guards = some [])
    (ht : eval (.Call (.Attribute o m apos) [] [] pos) X.env = (do
      let ov ← eval o X.env
      standAt apos.atName
      let (f, first) ← holding [ov] (getMethod ov m pl)
      callWith pos f first (backTo pos (starEach [] X.env)) (backToKw pos (keywordEach [] X.env)))) :
    PE X (.Call (.Attribute o m apos) [] [] pos) (fun σ H Q => ta σ H fun x H1 => ∃ a F, x = .ref a ∧ MthAt X k m H1 a F ∧ RC X.K F [.ref a] H1 Q) := by
  refine ⟨fun pins s σ H Q I h => ?_⟩
  refine PySem.W.methodCall_KW (pl := pl) (thn (he.run pins s σ H _ I h) fun u s1 ⟨x, H1, I1, rx, a, F, ex, ⟨C, dx, fs, f, fd, ps, ea, l, c, hm, G, hb, har⟩, q⟩ => ?_) ht
  subst ex
  obtain rfl : u = Value.ref a := rx
  have go : wpAny (model X.prog X.w) X.A (callWith pos (.ref f) [.ref a] (backTo pos (starEach [] X.env)) (backToKw pos (keywordEach [] X.env))) (EP X pins σ Q) X.xe s1 :=
    PySem.W.callWith_K0 (first := [.ref a]) I1.kIn hm.kp (run_g (us := [.ref a]) (vs := [.ref a]) G hr hg hb har I1 (.cons rfl .nil) q)
  rcases ea with ea | ⟨q', ea⟩
  · exact getmeth_ok I1 ea c hm l go
  · obtain ⟨_, d, z, ne, ob, mA, nn, r, w⟩ := (show ObjOk X.prog X.w H1 s1.heap a (.frz q' (.ins C dx fs)) from I1.hok a _ ea)
    have hn : mA m = none := RelO.none_of (by rw [← l]; exact r m)
    exact get_meth I1.kIn ⟨ob, nn, ne⟩ (c.get m) hm.at_ hm.fn hn go
theorem look_none {f : Str} : ∀ {fs : List (Str × Mi.D)} {vs : List (Str × V)}, fs.map (·.1) = vs.map (·.1) → fs.lookup f = none → vs.lookup f = none
  | [], [], _, _ => rfl
  | [], _ :: _, hk, _ => by cases hk
  | _ :: _, [], hk, _ => by cases hk
  | (g, x) :: r, (g', y) :: vs, hk, h => by
    rw [List.map_cons, List.map_cons, List.cons.injEq] at hk
    obtain ⟨e, hk⟩ := hk
    have e' : g = g' := e
    subst e'
    rw [List.lookup_cons] at h ⊢
    split at h
    · cases h
    · exact look_none hk h
variable {nm : Nm} {N : List Str} {G : Gv}
/-- the def that a method's call comes to -/
theorem mth_of {ι : List Addr} {H : Hp} {S : Store} {d : Mi.D} {v : V} {tab : List (Str × Nat)} {ds : List Mi.D} {S2 : Store} {Q : VK} (me : ∀ q ∈ tab, MeF X k m q.1 (G.fn q.2)) (so : Sok X.K ι H S) (r : DR X.K ι H d v) {ι2 : List Addr} {H2 : Hp} (res : Res X.K ι2 H2 (mclD G.fn m tab d ds S S2) Q) :
    ∃ a i, v = .ref a ∧ MthAt X k m H a (G.fn i) ∧ mclD G.fn m tab d ds S S2 = G.fn i (d :: ds) S2 := by
  cases d with
  | ref n =>
    simp only [mclD] at res
    split at res
    · rename_i c fs hx
      split at res
      · rename_i i hi
        split at res
        · rename_i hl
          obtain ⟨a, ea, C, dx, vs, hC, ic, ev, hk, dr⟩ := so.at hx
          obtain ⟨a', ea', rfl⟩ := r
          rw [ea] at ea'
          cases ea'
          obtain ⟨f, fd, ps, h1, h2, h3, h4, h5⟩ := (me (c, i) (PySem.mem_of_lookup hi)).ex C hC
          refine ⟨a, i, rfl, ⟨C, dx, vs, f, fd, ps, .inl ev, look_none hk (by simpa using hl), h1, h2, h3, h4, h5⟩, ?_⟩
          simp only [mclD, hx, hi, hl, if_true]
        · exact res.elim
      · exact res.elim
    · exact res.elim
  | po c gs es =>
    obtain ⟨a, o, dx, vs, rfl, ⟨C, hC, ic, ev⟩, hk, dr⟩ := r
    have ll : gs.length = es.length := by
      have := DRs.length dr
      rw [← hk]; simp at this ⊢; omega
    simp only [mclD] at res
    split at res
    · rename_i i hi
      split at res
      · rename_i hl
        obtain ⟨f, fd, ps, h1, h2, h3, h4, h5⟩ := (me (c, i) (PySem.mem_of_lookup hi)).ex C hC
        have z1 : (gs.zip es).map (·.1) = gs := List.map_fst_zip (by omega)
        refine ⟨a, i, rfl, ⟨C, dx, vs, f, fd, ps, .inr ⟨o, ev⟩, look_none (fs := gs.zip es) (by rw [z1, hk]) (by simpa using hl), h1, h2, h3, h4, h5⟩, ?_⟩
        simp only [mclD, hi, hl, if_true]
      · exact res.elim
    · exact res.elim
  | _ => exact res.elim
theorem ep_mcl {co : CE} {cs : List CE} {tab : List (Str × Nat)} {cpos : Pos} {er : Expr → Option CE} (g : Gd nm N G k X) (hp : ∀ e c, er e = some c → EP2 X G e c) (hst : es.all notStar = true) (h : erAll er es = some cs) (ho : EP2 X G o co)
    (hns : notSuper o = true) (hl : (apos.endLine == cpos.line) = true) (h30 : es.length < 30) (me : ∀ q ∈ tab, MeF X k m q.1 (G.fn q.2)) : EP2 X G (.Call (.Attribute o m apos) es [] cpos) (.mcl m tab co (caOf cs)) := by
  refine .of ?_ fun _ => rfl
  have few : ((backTo cpos (starEach es X.env)).all (fun x => !x.1) && (backToKw cpos (keywordEach [] X.env)).all (fun x => x.1.isSome)
      && decide (es.length + ([] : List Keyword).length + (if ([] : List Keyword).isEmpty then 0 else 1) < 30)) = true := by
    rw [star_all X.env cpos hst, Bool.true_and, Bool.and_eq_true]
    exact ⟨rfl, decide_eq_true (by simpa using h30)⟩
  have hr : Room (2 * k + 2) X.A := g.room.mono (by omega)
  cases es with
  | nil =>
    cases h
    refine (pe_mclG0 (m := m) ho.pe hr g.cg.gu (mc_eq (base_of hns) hl few)).imp fun σ H Q ⟨ι, S, L, so, lo, res⟩ => ?_
    obtain ⟨d, S1, e1, res⟩ := Res.step (Res.ungc so res)
    refine TEc.of so lo e1 fun ι1 H1 v p1 x1 so1 r1 => ?_
    have res : Res X.K ι1 H1 (mclD G.fn m tab d [] S1 S1) Q := res.mono p1 x1
    obtain ⟨a, i, rfl, ma, e2⟩ := mth_of me so1 r1 res
    rw [e2] at res
    exact ⟨a, _, rfl, ma, ι1, S1, [d], so1, ⟨_, _, rfl, r1, rfl⟩, res⟩
  | cons e es =>
    have st2 : es.all notStar = true := by rw [List.all_cons, Bool.and_eq_true] at hst; exact hst.2
    refine (pe_mclG (m := m) ho.pe hr g.cg.gu (pa_of h hst hp) (star_cons X.env hst) (star_plain X.env cpos st2) (mc_eq (base_of hns) hl few)).imp fun σ H Q ⟨ι, S, L, so, lo, res⟩ => ?_
    obtain ⟨d, S1, e1, res⟩ := Res.step (Res.ungc so res)
    refine TEc.of so lo e1 fun ι1 H1 v p1 x1 so1 r1 => ?_
    have res := res.mono p1 x1
    obtain ⟨ds, S2, e2, res2⟩ := Res.step res
    have nb : mclD G.fn m tab d ds S1 S2 ≠ .bad := fun z => by rw [z] at res2; exact res2.elim
    have key : ∃ a i, v = .ref a ∧ MthAt X k m H1 a (G.fn i) ∧ mclD G.fn m tab d ds S1 S2 = G.fn i (d :: ds) S2 := mth_of me so1 r1 res2
    obtain ⟨a, i, rfl, ma, e3⟩ := key
    refine ⟨a, _, rfl, ma, TAc.of so1 (lo.mono p1 x1) e2 fun ι2 H2 vs p2 x2 so2 r2 => ⟨ι2, S2, d :: ds, so2, ⟨_, _, rfl, r1.mono p2 x2 _, r2⟩, ?_⟩⟩
    rw [e3] at res2
    exact res2.mono p2 x2
theorem erNew_is {sc : Scope} {f : Expr} {kws : List Keyword} {q : Str × Nat} (hsc : X.env.scope = sc) (h : erNew nm sc f kws = some q) : ∃ x p, kws = [] ∧ f = .Name x p ∧ L2.Gl X q.1 ∧ q ∈ nm.mks ∧ q.1 = x := by
  unfold erNew at h
  split at h
  · rename_i x p
    split at h
    · rename_i hc
      obtain ⟨i, hi, rfl⟩ := Option.map_eq_some_iff.mp h
      refine ⟨x, p, ?_, rfl, lk_gl (X := X) hsc hc.1, PySem.mem_of_lookup hi, rfl⟩
      cases kws with
      | nil => rfl
      | cons _ _ => cases hc.2
    · cases h
  · cases h
theorem erMcl_is {f : Expr} {es : List Expr} {kws : List Keyword} {cpos : Pos} {q : Expr × Str × List (Str × Nat)} (h : erMcl nm f es kws cpos = some q) : ∃ apos, f = .Attribute q.1 q.2.1 apos ∧ kws = [] ∧ notSuper q.1 = true ∧ (apos.endLine == cpos.line) = true ∧ es.length < 30 ∧ q.2 ∈ nm.me := by
  unfold erMcl at h
  split at h
  · rename_i o m apos
    split at h
    · rename_i hc
      obtain ⟨tab, ht, rfl⟩ := Option.map_eq_some_iff.mp h
      refine ⟨apos, rfl, ?_, hc.2.1, hc.2.2.1, hc.2.2.2, PySem.mem_of_lookup ht⟩
      cases kws with
      | nil => rfl
      | cons _ _ => cases hc.1
    · cases h
  · cases h
end
end Mi
namespace Mi
open PySem L2
section
variable {nm : Nm} {N : List Str} {G : Gv} {k : Nat} {X : Cx}
theorem pi_val {tg it : Expr} {ci : CE} (h : EP2 X G it ci) : PI X tg it (TIc G X.K (.val ci)) := by
  refine ⟨fun pins s σ H R I q => ?_⟩
  obtain ⟨ι, S, L, so, lo, res⟩ := q
  obtain ⟨d, S1, e1, res⟩ := ResI.step res
  obtain ⟨p, hw, rs⟩ := ofO_res res
  clear res
  cases d with
  | str z =>
    cases hw
    refine (pi_str h.pe).run pins s σ H R I (TEc.of so lo e1 fun ι1 H1 v p1 x1 so1 r1 => ?_)
    exact ⟨z, r1, rs ι1 H1 _ p1 x1 so1 wk_str⟩
  | tup ds =>
    cases hw
    refine (pi_tup h.pe).run pins s σ H R I (TEc.of so lo e1 fun ι1 H1 v p1 x1 so1 r1 => ?_)
    obtain ⟨a, vs, rfl, sq, st⟩ := stt_of (d := .tup ds) rfl r1
    exact ⟨a, rfl, ⟨vs, sq⟩, rs ι1 H1 _ p1 x1 so1 (wk_tup st)⟩
  | kt ds =>
    cases hw
    refine (pi_tup h.pe).run pins s σ H R I (TEc.of so lo e1 fun ι1 H1 v p1 x1 so1 r1 => ?_)
    obtain ⟨a, vs, rfl, sq, st⟩ := stt_of (d := .kt ds) rfl r1
    exact ⟨a, rfl, ⟨vs, sq⟩, rs ι1 H1 _ p1 x1 so1 (wk_tup st)⟩
  | pl ds =>
    refine (pi_list h.pe).run pins s σ H R I (TEc.of so lo e1 fun ι1 H1 v p1 x1 so1 r1 => ?_)
    obtain ⟨a, vs, rfl, sq, st⟩ := stl_of (d := .pl ds) so1 hw r1
    exact ⟨a, rfl, ⟨vs, sq⟩, rs ι1 H1 _ p1 x1 so1 (wk_list st)⟩
  | ref n =>
    refine (pi_list h.pe).run pins s σ H R I (TEc.of so lo e1 fun ι1 H1 v p1 x1 so1 r1 => ?_)
    obtain ⟨a, vs, rfl, sq, st⟩ := stl_of (d := .ref n) so1 hw r1
    exact ⟨a, rfl, ⟨vs, sq⟩, rs ι1 H1 _ p1 x1 so1 (wk_list st)⟩
  | _ => cases hw
theorem star1 {e : Expr} (env : Env) (h : notStar e = true) : starEach [e] env = [(false, eval e env)] := star_cons env (by simp [h])
theorem star2 {e e2 : Expr} (env : Env) (h : notStar e = true) (h2 : notStar e2 = true) : starEach [e, e2] env = [(false, eval e env), (false, eval e2 env)] := by
  rw [star_cons env (by simp [h, h2]), star1 env h2]
theorem pi_enu {elts : List Expr} {kk : Nat} {tpos np pos : Pos} {a : Expr} {ca : CE} (h : EP2 X G a ca) (hs : notStar a = true) (hg : L2.Gl X "enumerate") (hm : X.mg "enumerate" = none) : PI X (.Tuple elts kk tpos) (.Call (.Name "enumerate" np) [a] [] pos) (TIc G X.K (.enu ca)) := by
  refine ⟨fun pins s σ H R I q => ?_⟩
  obtain ⟨ι, S, L, so, lo, res⟩ := q
  obtain ⟨d, S1, e1, res⟩ := ResI.step res
  obtain ⟨p, hp, rs⟩ := ofO_res res
  clear res
  obtain ⟨p0, hw, rfl⟩ := Option.map_eq_some_iff.mp hp
  have pa : PA X [a] (tCons (TEc G X.K ca) tNil) := pa_cons h.pe pa_nil (star1 X.env hs)
  unfold walkE at hw
  split at hw
  · rename_i ds ht
    cases hw
    refine (pi_enumT hg hm pa (star1 X.env hs)).run pins s σ H R I (TEc.of so lo e1 fun ι1 H1 v p1 x1 so1 r1 => ?_)
    obtain ⟨b, vs, rfl, sq, st⟩ := stt_of ht r1
    exact ⟨b, vs, rfl, sq, rs ι1 H1 _ p1 x1 so1 (wk_enuT st)⟩
  · refine (pi_enum hg hm pa (star1 X.env hs)).run pins s σ H R I (TEc.of so lo e1 fun ι1 H1 v p1 x1 so1 r1 => ?_)
    obtain ⟨b, vs, rfl, sq, st⟩ := stl_of so1 hw r1
    exact ⟨b, vs, rfl, sq, rs ι1 H1 _ p1 x1 so1 (wk_enuL st)⟩
theorem pi_zip {elts : List Expr} {kk : Nat} {tpos np pos : Pos} {a b : Expr} {ca cb : CE} (h : EP2 X G a ca) (h2 : EP2 X G b cb) (hs : notStar a = true) (hs2 : notStar b = true) (hg : L2.Gl X "zip") (hm : X.mg "zip" = none) : PI X (.Tuple elts kk tpos) (.Call (.Name "zip" np) [a, b] [] pos) (TIc G X.K (.zip ca cb)) := by
  refine ⟨fun pins s σ H R I q => ?_⟩
  obtain ⟨ι, S, L, so, lo, res⟩ := q
  obtain ⟨d, S1, e1, res⟩ := ResI.step res
  obtain ⟨d2, S2, e2, res⟩ := ResI.step res
  obtain ⟨p, hp, rs⟩ := ofO_res res
  clear res
  have pa : PA X [a, b] (tCons (TEc G X.K ca) (tCons (TEc G X.K cb) tNil)) := pa_cons h.pe (pa_cons h2.pe pa_nil (star1 X.env hs2)) (star_cons X.env (by simp [hs, hs2]))
  refine (RZ.pi_zipA hg hm pa (star_cons X.env (by simp [hs, hs2])) (star_plain X.env pos (by simp [hs2]))).run pins s σ H R I ?_
  refine TEc.of so lo e1 fun ι1 H1 v p1 x1 so1 r1 => TEc.of so1 (lo.mono p1 x1) e2 fun ι2 H2 v2 p2 x2 so2 r2 => ?_
  have r1 := r1.mono p2 x2
  have rs := fun J w => rs ι2 H2 J (p1.trans p2) (x1.trans x2) so2 w
  unfold zipD at hp
  split at hp
  · rename_i xs ys h3 h4
    cases hp
    obtain ⟨a1, vs, rfl, sq, st⟩ := stt_of h3 r1
    obtain ⟨b1, us, rfl, sq2, st2⟩ := stt_of h4 r2
    exact ⟨a1, b1, vs, us, rfl, .inr ⟨sq, sq2, rs _ (wk_zipT st st2)⟩⟩
  · split at hp
    · rename_i pn pm h3 h4
      cases hp
      have h3' : ∀ {d : D} {p : List D × Guard}, lsG S2 d = some p → lsG S2 d = some p := fun h => h
      obtain ⟨a1, vs, rfl, sq, st⟩ := stl_of so2 h3 r1
      obtain ⟨b1, us, rfl, sq2, st2⟩ := stl_of so2 h4 r2
      exact ⟨a1, b1, vs, us, rfl, .inl ⟨sq, sq2, rs _ (wk_zipL st st2)⟩⟩
    · cases hp
end
end Mi
set_option maxHeartbeats 1000000
namespace Mi
open PySem PySem.Spec PyProof.Rows L2
abbrev kvX (kv : Str × Str) : Key × V := (.inr kv.1, .str kv.2)
theorem dt_pairs {P : Program} {w : World} : ∀ {tab : List (Str × Str)} {es : List DictEntry}, Paired (fun (kv : Str × Str) (e : DictEntry) => (∃ t, e.key = .str kv.1 t) ∧ ∃ t, e.val = .str kv.2 t) tab es → PySem.W.KeysLit w.params es →
    ∃ vs : List (Key × Value), Pairs (mixKind P w) es vs ∧ KV (tab.map kvX) vs ∧ vs.map (·.1) = tab.map (fun kv => (Sum.inr kv.1 : Key)) ∧ ∀ e ∈ es, ∃ k, (mixKind P w).is k e.key = true ∧ e.hash = (mixKind P w).hash k
  | _, _, .nil, _ => ⟨[], .nil, .nil, rfl, fun _ h => by cases h⟩
  | kv :: _, e :: _, .cons ⟨⟨t1, q1⟩, t2, q2⟩ r, ⟨⟨x, t, e1, e2⟩, hk⟩ => by
    obtain ⟨vs, h1, h2, h3, h4⟩ := dt_pairs (P := P) r hk
    have ex : x = kv.1 := by
      rw [q1] at e1
      cases e1; rfl
    subst ex
    have hi : (mixKind P w).is (Sum.inr kv.1) e.key = true := by rw [q1]; exact mixKind_str P w kv.1 t1
    refine ⟨(Sum.inr kv.1, e.val) :: vs, ?_, .cons ⟨rfl, by rw [q2]; exact ⟨t2, rfl⟩⟩ h2, by rw [List.map_cons, h3]; rfl, fun e' he => ?_⟩
    · exact Pairs.cons hi rfl h1
    · rcases List.mem_cons.mp he with rfl | he
      · exact ⟨Sum.inr kv.1, hi, e2⟩
      · exact h4 e' he
theorem DtAt.dict {K : PySem.W.Frag} {w : World} {p : Addr} {tab : List (Str × Str)} (d : DtAt K w p tab) (P : Program) {h : Heap} (X : K.In h) : ∃ (es : List DictEntry) (n : Nat) (vs : List (Key × Value)), h.get? p = some (⟨.type "dict", none, .dict es.toArray n, #[]⟩ : Obj) ∧ es.length = tab.length ∧ KV (tab.map kvX) vs ∧ h.DictAt (mixKind P w) p vs n := by
  obtain ⟨_, es, n, hl, hk, pr, nd⟩ := d
  obtain ⟨vs, h1, h2, h3, h4⟩ := dt_pairs (P := P) pr hk
  refine ⟨es, n, vs, X _ _ hl, (Paired.length pr).symm, h2, _, es.toArray, X _ _ hl, ⟨rfl, rfl, rfl⟩, rfl, fun e he => h4 e (by simpa using he), by simpa using h1, ?_⟩
  rw [h3]
  unfold List.Nodup at nd ⊢
  rw [List.pairwise_map] at nd ⊢
  exact nd.imp fun h z => h (Sum.inr.inj z)
theorem dt_find : ∀ {tab : List (Str × Str)} {es : List DictEntry} {z y : Str}, Paired (fun (kv : Str × Str) (e : DictEntry) => (∃ t, e.key = .str kv.1 t) ∧ ∃ t, e.val = .str kv.2 t) tab es → tab.lookup z = some y → ∃ e t, es.find? (·.key.isStr z) = some e ∧ e.val = .str y t
  | _, _, _, _, .nil, h => by cases h
  | (x, v) :: tab, e :: es, z, y, .cons ⟨⟨t1, q1⟩, t2, q2⟩ r, h => by
    rw [List.lookup_cons] at h
    rw [List.find?_cons]
    have hk : e.key.isStr z = (z == x) := by
      rw [q1]
      show (x == z) = (z == x)
      rw [Bool.eq_iff_iff]
      simp only [beq_iff_eq]
      exact ⟨Eq.symm, Eq.symm⟩
    rw [hk]
    cases hz : z == x with
    | true =>
      rw [hz] at h
      cases h
      exact ⟨e, t2, rfl, q2⟩
    | false =>
      rw [hz] at h
      exact dt_find r h
theorem DtAt.get {K : PySem.W.Frag} {w : World} {p : Addr} {tab : List (Str × Str)} (d : DtAt K w p tab) {z y : Str} (h : tab.lookup z = some y) : KDct K w p z (.str y) := by
  obtain ⟨_, es, n, hl, hk, pr, nd⟩ := d
  obtain ⟨e, t, h1, h2⟩ := dt_find pr h
  refine ⟨es.toArray, n, .str y t, hl, by simpa using hk, ?_, ⟨t, rfl⟩⟩
  unfold PySem.W.nsIn
  rw [hl]
  dsimp only
  rw [h1, ← h2]
/-- its items, each a new pair -/
def ItiX (tab : List (Str × Str)) : It :=
  ⟨fun i _ => i < tab.length, fun i H x H' => ∃ T kv, tab[i]? = some kv ∧ x = .ref T ∧ H T = none ∧ H' = upd H T (.tup [.str kv.1, .str kv.2]), fun i _ => tab.length ≤ i⟩
theorem turn_itemsX {P : Program} {w : World} {K : PySem.W.Frag} {d : Addr} {tab : List (Str × Str)} {elts : List Expr} {kk : Nat} {tpos : Pos} (D : DtAt K w d tab) (it : Addr) :
    L2.Turn P w K (.Tuple elts kk tpos) (ItiX tab) [it] it (fun i h => ∃ ok ov ep, IsItemIter h it d i tab.length ep ok ov ∧ ∃ es, K.lookup d = some ⟨.type "dict", none, .dict es ep, #[]⟩) where
  mem := by simp
  obj := fun i h st b hb => by
    have e : b = it := by simpa using hb
    subst e
    obtain ⟨ok, ov, ep, e, _⟩ := st
    exact ⟨_, e, fun v z => nomatch z⟩
  keep := fun i h h' st k => let ⟨ok, ov, ep, e, r⟩ := st; ⟨ok, ov, ep, k it (by simp) _ e, r⟩
  item := by
    intro X hP hw hK hc i pins s σ H E I hf st hg
    subst hP hw hK
    have hi : i < tab.length := hg
    obtain ⟨es, ep, vs, hgd, hsz, kv, hm⟩ := D.dict X.prog I.kIn
    obtain ⟨⟨k, v⟩, hkv⟩ : ∃ p, tab[i]? = some p := ⟨tab[i], List.getElem?_eq_getElem hi⟩
    obtain ⟨u, hu, ru⟩ := kv_get (i := i) (k := Sum.inr k) (v := V.str v) kv (by rw [List.getElem?_map, hkv]; rfl)
    have hl : tab.length = vs.length := by rw [← Paired.length kv, List.length_map]
    obtain ⟨ok, ov, ep', he, es', hes⟩ := st
    have : ep' = ep := by
      have z := (I.kIn _ _ hes).symm.trans hgd
      cases z; rfl
    subst this
    rw [hl] at he
    have hlt : it < s.heap.objs.size := Heap.lt_size he
    refine wpAny_pyNext_items_item he hm hu fun key h' hkey ho hT hz hk => ?_
    refine ⟨_, rfl, wpAny_letOwnedTupleGo_items (s := { s with heap := h' }) ho fun h'' he' sb => ?_⟩
    have hT2 : h''.get? s.heap.objs.size = some { cls := .type "tuple", data := .seq #[key, u] } := (sb.2 _ (Nat.ne_of_gt hlt)).trans hT
    have new : ObjOk X.prog X.w (upd H s.heap.objs.size (.tup [.str k, .str v])) h'' s.heap.objs.size (.tup [.str k, .str v]) :=
      ⟨by show 2 ≤ sizeLine; decide, [key, u], .cons (relV_key (k := Sum.inr k) (show keyIs (Sum.inr k) key = true from hkey)) (.cons ru .nil), ⟨_, hT2, rfl, _, rfl⟩⟩
    have I1 : Inv X pins σ (upd H s.heap.objs.size (.tup [.str k, .str v])) { s with heap := h'' } :=
      I.turnedNew (t' := s.toks) (ch := [it]) (fun b ob hb e => (sb.2 b (by simpa using hb)).trans (hk b ob (by simpa using hb) e)) hf (Nat.le_refl _) new
    refine ⟨.ref s.heap.objs.size, _, I1, rfl, ⟨_, (k, v), hkv, rfl, I.hok.fresh (Nat.le_refl _), rfl⟩, ⟨key, u, ep', ?_, es', hes⟩, fun b hb => ?_⟩
    · rw [hl]; exact he'
    · have e : b = it := by simpa using hb
      rw [e, upd_ne (Nat.ne_of_lt hlt)]
      exact (hf it (by simp)).1
  done := by
    intro X hP hw hK hc i pins s σ H E I hf st hg
    subst hP hw hK
    have hi : tab.length ≤ i := hg
    obtain ⟨f0, f1, f2, f3, f4, f5⟩ := hf it (by simp)
    obtain ⟨es, ep, vs, hgd, hsz, kv, hm⟩ := D.dict X.prog I.kIn
    have hl : tab.length = vs.length := by rw [← Paired.length kv, List.length_map]
    obtain ⟨ok, ov, ep', he, es', hes⟩ := st
    have : ep' = ep := by
      have z := (I.kIn _ _ hes).symm.trans hgd
      cases z; rfl
    subst this
    rw [hl] at he
    exact wpAny_pyNext_items_end (I.ok.hd hc) he hm (List.getElem?_eq_none (by omega)) fun h' eb => ⟨rfl, I.turned (t' := s.toks) (fun b ob hb e => eb b ob hb e) f0 f1 f3 f4 f5⟩
  self := fun A i s Q E st h => let ⟨_, _, _, e, _⟩ := st; PySem.W.kcp_self e h
section
variable {X : Cx}
theorem pi_itemsX {x : Str} {d : Addr} {tab : List (Str × Str)} {elts : List Expr} {kk : Nat} {tpos np apos cpos : Pos} (D : DtAt X.K X.w d tab) (hg : Gl X x) (hm : X.mg x = some (.ref d)) (hdb : (x == ("__debug__" : Str)) = false) (hline : (apos.endLine == cpos.line) = true) :
    PI X (.Tuple elts kk tpos) (.Call (.Attribute (.Name x np) "items" apos) [] [] cpos) (fun σ H R => R (ItiX tab) H) := by
  refine ⟨fun pins s1 σ H1 R I1 q => ?_⟩
  refine wpAny_Call_method (T := "dict") (id := "dict.items") (base_of rfl) rfl hline F.plainAttrs_dict F.slot_dict_items F.type_dict_items (ld_glob I1 hg hm ?_ hdb)
  obtain ⟨es, ep, vs, hgd, hsz, kv, hm⟩ := D.dict X.prog I1.kIn
  have hs : (d == sysModules) = false := D.1
  obtain ⟨_, es0, n0, hl0, _⟩ := id D
  have hl : tab.length = vs.length := by rw [← Paired.length kv, List.length_map]
  refine ⟨hm.dictOf.typeIs, hm.dictOf.mapOf.noDict, ?_⟩
  have I2 : Inv X pins σ H1 { s1 with heap := s1.heap.push { cls := .type "dict_items", data := .fields #[.ref d] } } := I1.kept (t' := s1.toks) fun b ob q => Heap.get?_push_of_some _ q
  have e0 : n0 = ep := by
    have z := (I1.kIn _ _ hl0).symm.trans hgd
    cases z; rfl
  subst e0
  have fin : wpAny (model X.prog X.w) X.A (pyIter (.ref s1.heap.objs.size)) (PIE X pins σ (.Tuple elts kk tpos) R) X.xe { s1 with heap := s1.heap.push { cls := .type "dict_items", data := .fields #[.ref d] } } := by
    refine wpAny_pyIter_items (d := d) (knd := mixKind X.prog X.w) ⟨_, Heap.get?_push_size _ rfl, rfl, rfl⟩ (hm.push _) (pi_one (tk := s1.toks) I2 _ (turn_itemsX D _) ⟨.none, .none, n0, ?_, es0.toArray, hl0⟩ q)
    rw [hl]
    exact Heap.get?_push_size _ rfl
  show wpAny _ _ (callWith cpos (.builtin "dict.items") [.ref d] [] []) _ X.xe s1
  exact method_meetsIn F.slot_dict_items F.entry_dict_items rfl (PySem.evalArgs_none ⟨rfl, hm.dictOf.typeIs, F.args_dict_items_1 _, _, meets_dict_items (mixKind X.prog X.w) d hs, ⟨vs, hm.dictOf⟩, fin⟩)
theorem wk_itemsX {K : PySem.W.Frag} {ι : List Addr} {H : Hp} {tab : List (Str × Str)} : Wk K ι H (ItiX tab) (tab.map fun kv => .tup [.str kv.1, .str kv.2]) [] := by
  refine ⟨fun ι' H' S' i p x so g => ⟨fun hi => (show tab.length ≤ i by simpa using hi), fun d hd => ?_⟩⟩
  rw [List.getElem?_map] at hd
  obtain ⟨kv, hkv, rfl⟩ := Option.map_eq_some_iff.mp hd
  refine ⟨(List.getElem?_eq_some_iff.mp hkv).1, fun y H2 ⟨T, kv', e1, e2, hT, e3⟩ => ?_⟩
  rw [hkv] at e1
  cases e1
  subst e2 e3
  exact pair_new so hT (show DR K ι' H' (.str kv.1) (.str kv.1) from rfl) (show DR K ι' H' (.str kv.2) (.str kv.2) from rfl)
end
section
variable {nm : Nm} {N : List Str} {G : Gv} {k : Nat} {X : Cx}
theorem pi_dit {x : Str} {tab : List (Str × Str)} {elts : List Expr} {kk : Nat} {tpos np apos cpos : Pos} (g : Gd nm N G k X) (gl : L2.Gl X x) (hx : (x, tab) ∈ nm.dt) (hline : (apos.endLine == cpos.line) = true) :
    PI X (.Tuple elts kk tpos) (.Call (.Attribute (.Name x np) "items" apos) [] [] cpos) (TIc G X.K (.dit tab)) := by
  obtain ⟨d, hm, D, hdb⟩ := (g.dt (x, tab) hx).ex
  refine ⟨fun pins s σ H R I ⟨ι, S, L, so, lo, res⟩ => (pi_itemsX D gl hm hdb hline).run pins s σ H R I ?_⟩
  exact res ι H _ (List.prefix_refl _) (Xt.refl _) so wk_itemsX
theorem ep_dix {x : Str} {tab : List (Str × Str)} {i : Expr} {c : CE} {np pos : Pos} (g : Gd nm N G k X) (gl : L2.Gl X x) (hx : (x, tab) ∈ nm.dt) (hi : EP2 X G i c) (hs : notSlice i = true) : EP2 X G (.Subscript (.Name x np) i pos) (.dix tab c) := by
  obtain ⟨d, hm, D, hdb⟩ := (g.dt (x, tab) hx).ex
  refine .of ((pe_ix ix_kdict (pe_glob (v := .ref d) (pos := np) gl hm rfl hdb) hi.pe (fun ov iv => by cases i <;> first | rfl | exact absurd hs Bool.false_ne_true)).imp fun σ H Q ⟨ι, S, L, so, lo, res⟩ => ?_) fun _ => rfl
  obtain ⟨z, S1, e1, res⟩ := Res.step res
  refine TEc.of so lo e1 fun ι1 H1 v p1 x1 so1 r1 => ?_
  replace res := res.mono p1 x1
  cases z with
  | str z =>
    obtain ⟨y, hy, res⟩ := optR_res res
    obtain ⟨y', hy', rfl⟩ := Option.map_eq_some_iff.mp hy
    cases r1
    exact ⟨d, z, .str y', rfl, rfl, D.get hy', res.val so1 rfl⟩
  | _ => exact res.elim
theorem part_of {e : Expr} {c : CE} {pos : Pos} (he : EP2 X G e c) : PE X (.FormattedValue e (-1) none pos) (tFmt (TEc G X.K c)) := pe_fmt he.pe
/-- the parts of an f-string, erased -/
theorem js_go : ∀ {cs : List CE} {ts : List TE}, Paired (fun c t => ∀ σ H Q, tFmt (TEc G X.K c) σ H Q → t σ H Q) cs ts → ∀ {acc : Str} {ι : List Addr} {S : Store} {L : Lcs} {σ : L2.St} {H : Hp} {Q : Str → Hp → Prop}, Sok X.K ι H S → Lok X.K ι H L σ →
    (match evA G (caOf cs) L S with
      | .ok ds S' => match joinF acc ds with
        | some out => ∀ ι' H', ι <+: ι' → Xt H H' → Sok X.K ι' H' S' → Q out H'
        | none => False
      | _ => False) → tJs ts acc σ H Q
  | _, _, .nil, acc, ι, S, L, σ, H, Q, so, lo, h => h ι H (List.prefix_refl _) (Xt.refl _) so
  | c :: cs, t :: ts, .cons ht r, acc, ι, S, L, σ, H, Q, so, lo, h => by
    refine ht σ H _ ?_
    cases e1 : evE G c L S with
    | bad => simp only [caOf, evA, e1, R.bind_bad] at h
    | exc _ _ => simp only [caOf, evA, e1, R.bind_exc] at h
    | ok d S1 =>
      simp only [caOf, evA, e1, R.bind_ok] at h
      refine TEc.of so lo e1 fun ι1 H1 v p1 x1 so1 r1 => ?_
      cases e2 : evA G (caOf cs) L S1 with
      | bad => simp only [e2, R.bind_bad] at h
      | exc _ _ => simp only [e2, R.bind_exc] at h
      | ok ds S2 =>
        simp only [e2, R.bind_ok, joinF] at h
        have key : ∀ y : Str, partD d = some y → (acc ++ y).length ≤ sizeLine ∧ tJs ts (acc ++ y) σ H1 Q := by
          intro y hy
          rw [hy] at h
          simp only at h
          split at h
          · rename_i out ho
            split at ho
            · rename_i hz
              refine ⟨hz, js_go r so1 (lo.mono p1 x1) ?_⟩
              rw [e2]
              simp only [ho]
              exact fun ι' H' p x s => h ι' H' (p1.trans p) (x1.trans x) s
            · cases ho
          · exact h.elim
        cases d with
        | str y =>
          cases r1
          obtain ⟨h1, h2⟩ := key y rfl
          have hy : y.length ≤ sizeLine := by
            have : (acc ++ y).length = acc.length + y.length := Str.length_append acc y
            omega
          exact .inl ⟨y, rfl, hy, y, rfl, h1, h2⟩
        | int i =>
          cases r1
          by_cases hz : i.natAbs.log2 < 1920
          · obtain ⟨h1, h2⟩ := key (toString i) (by simp [partD, hz])
            exact .inr ⟨i, rfl, hz, _, rfl, h1, h2⟩
          · simp only [partD, if_neg hz] at h
        | _ => simp only [partD] at h
theorem ep_fst {es : List Expr} {cs : List CE} {vs : List Expr} {pos : Pos} {er : Expr → Option CE} (hv : allSome (vs.map fmtE) = some es) (h2 : 2 ≤ vs.length) (h : erAll er es = some cs) (hp : ∀ e c, er e = some c → EP2 X G e c) : EP2 X G (.JoinedStr vs pos) (.fst (caOf cs)) := by
  have key : ∀ {vs es : List Expr} {cs : List CE}, allSome (vs.map fmtE) = some es → erAll er es = some cs → ∃ ts, PJ X vs ts ∧ Paired (fun c t => ∀ σ H Q, tFmt (TEc G X.K c) σ H Q → t σ H Q) cs ts := by
    intro vs
    induction vs with
    | nil =>
      intro es cs h1 h2
      cases h1
      cases h2
      exact ⟨[], .nil, .nil⟩
    | cons v vs ih =>
      intro es cs h1 h2
      rw [List.map_cons] at h1
      obtain ⟨e, es', q1, q2, rfl⟩ := allSome_cons h1
      unfold erAll at h2
      rw [List.map_cons] at h2
      obtain ⟨c, cs', q3, q4, rfl⟩ := allSome_cons h2
      obtain ⟨ts, h3, h4⟩ := ih q2 q4
      unfold fmtE at q1
      split at q1
      · split at q1
        · rename_i hc
          cases q1
          subst hc
          exact ⟨_, .cons (part_of (hp e c q3)) h3, .cons (fun _ _ _ h => h) h4⟩
        · cases q1
      · cases q1
  obtain ⟨ts, h3, h4⟩ := key hv h
  cases vs with
  | nil => simp at h2
  | cons v1 vs =>
    cases vs with
    | nil => simp at h2
    | cons v2 vs =>
      refine .of ((pe_joined h3).imp fun σ H Q ⟨ι, S, L, so, lo, res⟩ => ?_) fun _ => rfl
      refine js_go h4 so lo ?_
      obtain ⟨ds, S1, e1, res⟩ := Res.step res
      rw [e1]
      unfold fstD at res
      cases e2 : joinF Str.empty ds with
      | none => rw [e2] at res; exact res.elim
      | some out =>
        rw [e2] at res
        simp only [e2]
        exact fun ι' H' p x s => res ι' H' _ p x s rfl
/-- what is never reached -/
theorem ep_nvr {e : Expr} : EP2 X G e .nvr := ⟨⟨fun pins s σ H Q I ⟨ι, S, L, so, lo, res⟩ => res.elim⟩, ⟨fun pins s σ H Q I ⟨ι, S, L, so, lo, res⟩ => res.elim⟩⟩
end
end Mi
namespace Mi
open PySem L2
section
variable {nm : Nm} {N : List Str} {G : Gv} {k : Nat} {X : Cx}
theorem evA_len : ∀ {cs : List CE} {L : Lcs} {S S' : Store} {ds : List D}, evA G (caOf cs) L S = .ok ds S' → ds.length = cs.length
  | [], _, _, _, _, h => by cases h; rfl
  | c :: cs, L, S, S', ds, h => by
    have h : ((evE G c L S).bind fun d S1 => (evA G (caOf cs) L S1).bind fun ds S2 => .ok (d :: ds) S2) = .ok ds S' := h
    cases q : evE G c L S with
    | bad => rw [q] at h; cases h
    | exc _ _ => rw [q] at h; cases h
    | ok d S2 =>
      rw [q, R.bind_ok] at h
      cases q2 : evA G (caOf cs) L S2 with
      | bad => rw [q2] at h; cases h
      | exc _ _ => rw [q2] at h; cases h
      | ok ds2 S3 =>
        rw [q2, R.bind_ok] at h
        cases h
        simp [evA_len q2]
theorem int_dr {K : PySem.W.Frag} {ι : List Addr} {H : Hp} {i : Int} {v : V} (h : DR K ι H (.int i) v) : v = .int i := h
theorem pi_rng1 {tg a : Expr} {ca : CE} {np pos : Pos} (h : EP2 X G a ca) (hs : notStar a = true) (hg : L2.Gl X "range") (hm : X.mg "range" = none) : PI X tg (.Call (.Name "range" np) [a] [] pos) (TIc G X.K (.rng (caOf [ca]))) := by
  have pa : PA X [a] (tCons (TEc G X.K ca) tNil) := pa_cons h.pe pa_nil (star1 X.env hs)
  refine ⟨fun pins s σ H RR I q => (pi_range1 hg hm pa (star1 X.env hs)).run pins s σ H RR I ?_⟩
  obtain ⟨ι, S, L, so, lo, res⟩ := q
  obtain ⟨ds, S1, e1, res⟩ := ResI.step res
  obtain ⟨p, hp, rs⟩ := ofO_res res
  clear res
  have e1 : ((evE G ca L S).bind fun d S1 => (R.ok [] S1).bind fun ds S2 => .ok (d :: ds) S2) = .ok ds S1 := e1
  cases e2 : evE G ca L S with
  | bad => rw [e2] at e1; cases e1
  | exc _ _ => rw [e2] at e1; cases e1
  | ok d S2 =>
    rw [e2, R.bind_ok, R.bind_ok] at e1
    cases e1
    refine TEc.of so lo e2 fun ι1 H1 v p1 x1 so1 r1 => ?_
    obtain ⟨l, hl, rfl⟩ := Option.map_eq_some_iff.mp hp
    cases d with
    | int j =>
      simp only [rngD] at hl
      split at hl
      · rename_i hb
        cases hl
        have r1 := int_dr r1
        subst r1
        refine ⟨j, rfl, hb.1, hb.2, rs ι1 H1 _ p1 x1 so1 ?_⟩
        have := wk_rng (K := X.K) (ι := ι1) (H := H1) (lo := 0) (n := j.toNat)
        simpa using this
      · cases hl
    | _ => cases hl
theorem pi_rng2 {tg a b : Expr} {ca cb : CE} {np pos : Pos} (h : EP2 X G a ca) (h2 : EP2 X G b cb) (hs : notStar a = true) (hs2 : notStar b = true) (hg : L2.Gl X "range") (hm : X.mg "range" = none) : PI X tg (.Call (.Name "range" np) [a, b] [] pos) (TIc G X.K (.rng (caOf [ca, cb]))) := by
  have pa : PA X [a, b] (tCons (TEc G X.K ca) (tCons (TEc G X.K cb) tNil)) := pa_cons h.pe (pa_cons h2.pe pa_nil (star1 X.env hs2)) (star_cons X.env (by simp [hs, hs2]))
  refine ⟨fun pins s σ H RR I q => (pi_range2 hg hm pa (star2 X.env hs hs2) (star1 X.env hs2)).run pins s σ H RR I ?_⟩
  obtain ⟨ι, S, L, so, lo, res⟩ := q
  obtain ⟨ds, S1, e1, res⟩ := ResI.step res
  obtain ⟨p, hp, rs⟩ := ofO_res res
  clear res
  have e1 : ((evE G ca L S).bind fun d S1 => ((evE G cb L S1).bind fun d S1 => (R.ok [] S1).bind fun ds S2 => .ok (d :: ds) S2).bind fun ds S2 => .ok (d :: ds) S2) = .ok ds S1 := e1
  cases e2 : evE G ca L S with
  | bad => rw [e2] at e1; cases e1
  | exc _ _ => rw [e2] at e1; cases e1
  | ok d S2 =>
    rw [e2, R.bind_ok] at e1
    cases e3 : evE G cb L S2 with
    | bad => rw [e3] at e1; cases e1
    | exc _ _ => rw [e3] at e1; cases e1
    | ok d' S3 =>
      rw [e3, R.bind_ok, R.bind_ok, R.bind_ok] at e1
      cases e1
      refine TEc.of so lo e2 fun ι1 H1 v p1 x1 so1 r1 => TEc.of so1 (lo.mono p1 x1) e3 fun ι2 H2 v2 p2 x2 so2 r2 => ?_
      obtain ⟨l, hl, rfl⟩ := Option.map_eq_some_iff.mp hp
      cases d with
      | int i =>
        cases d' with
        | int j =>
          simp only [rngD] at hl
          split at hl
          · rename_i hb
            cases hl
            have r1 := int_dr r1
            have r2 := int_dr r2
            subst r1 r2
            exact ⟨i, j, rfl, hb, rs ι2 H2 _ (p1.trans p2) (x1.trans x2) so2 wk_rng⟩
          · cases hl
        | _ => cases hl
      | _ => cases hl
theorem pi_rng3 {tg a b e : Expr} {ca cb cc : CE} {np pos : Pos} (h : EP2 X G a ca) (h2 : EP2 X G b cb) (h3 : EP2 X G e cc) (hs : notStar a = true) (hs2 : notStar b = true) (hs3 : notStar e = true) (hg : L2.Gl X "range") (hm : X.mg "range" = none) : PI X tg (.Call (.Name "range" np) [a, b, e] [] pos) (TIc G X.K (.rng (caOf [ca, cb, cc]))) := by
  have pa : PA X [a, b, e] (TAc G X.K (caOf [ca, cb, cc])) := (pa_cons h.pe (pa_cons h2.pe (pa_cons h3.pe pa_nil (star1 X.env hs3)) (star_cons X.env (by simp [hs2, hs3]))) (star_cons X.env (by simp [hs, hs2, hs3]))).imp fun σ H Q ⟨ι, S, L, so, lo, res⟩ => by
    obtain ⟨d, S1, e1, res⟩ := ResA.step res
    refine TEc.of so lo e1 fun ι1 H1 v p1 x1 so1 r1 => ?_
    obtain ⟨ds, S2, e2, res⟩ := ResA.step (res.mono p1 x1)
    obtain ⟨d2, S3, e3, e2⟩ : ∃ d2 S3, evE G cb L S1 = .ok d2 S3 ∧ ((evA G (caOf [cc]) L S3).bind fun ds S2 => .ok (d2 :: ds) S2) = .ok ds S2 := by
      have e2 : ((evE G cb L S1).bind fun d S1 => (evA G (caOf [cc]) L S1).bind fun ds S2 => .ok (d :: ds) S2) = .ok ds S2 := e2
      cases q : evE G cb L S1 with
      | bad => rw [q] at e2; cases e2
      | exc _ _ => rw [q] at e2; cases e2
      | ok d2 S3 => rw [q] at e2; exact ⟨d2, S3, rfl, e2⟩
    refine TEc.of so1 (lo.mono p1 x1) e3 fun ι2 H2 v2 p2 x2 so2 r2 => ?_
    have e2 : (((evE G cc L S3).bind fun d S1 => (R.ok [] S1).bind fun ds S2 => .ok (d :: ds) S2).bind fun ds S2 => .ok (d2 :: ds) S2) = .ok ds S2 := e2
    cases q : evE G cc L S3 with
    | bad => rw [q] at e2; cases e2
    | exc _ _ => rw [q] at e2; cases e2
    | ok d3 S4 =>
      rw [q, R.bind_ok, R.bind_ok, R.bind_ok] at e2
      cases e2
      refine TEc.of so2 ((lo.mono p1 x1).mono p2 x2) q fun ι3 H3 v3 p3 x3 so3 r3 => ?_
      exact res ι3 H3 _ (p2.trans p3) (x2.trans x3) so3 ⟨v, [v2, v3], rfl, (r1.mono p2 x2 _).mono p3 x3 _, v2, [v3], rfl, r2.mono p3 x3 _, v3, [], rfl, r3, rfl⟩
  refine ⟨fun pins s σ H RR I q => (pi_range3 hg hm pa (star_cons X.env (by simp [hs, hs2, hs3])) (star_plain X.env pos (by simp [hs2, hs3]))).run pins s σ H RR I ?_⟩
  obtain ⟨ι, S, L, so, lo, res⟩ := q
  obtain ⟨ds, S1, e1, res⟩ := ResI.step res
  obtain ⟨p, hp, rs⟩ := ofO_res res
  clear res
  refine TAc.of so lo e1 fun ι1 H1 vs p1 x1 so1 r1 => ?_
  obtain ⟨l, hl, rfl⟩ := Option.map_eq_some_iff.mp hp
  unfold rngD at hl
  split at hl
  · obtain ⟨v, t, rfl, _, t2⟩ := r1
    exfalso
    have e1 : ((evE G ca L S).bind fun d S1 => (evA G (caOf [cb, cc]) L S1).bind fun ds S2 => .ok (d :: ds) S2) = .ok [_] S1 := e1
    cases q : evE G ca L S with
    | bad => rw [q] at e1; cases e1
    | exc _ _ => rw [q] at e1; cases e1
    | ok d S2 =>
      rw [q, R.bind_ok] at e1
      cases q2 : evA G (caOf [cb, cc]) L S2 with
      | bad => rw [q2] at e1; cases e1
      | exc _ _ => rw [q2] at e1; cases e1
      | ok ds S3 =>
        rw [q2, R.bind_ok] at e1
        have hl := evA_len q2
        cases e1
        cases hl
  · rename_i i j c
    split at hl
    · rename_i hb
      cases hl
      obtain ⟨v, t, rfl, h1, v2, t2, rfl, h2, v3, t3, rfl, h3, h4⟩ := r1
      have h1 := int_dr h1
      have h2 := int_dr h2
      have h3 := int_dr h3
      subst h1 h2 h3
      cases h4
      exact ⟨i, j, c, _, rfl, ⟨hb.2.2.2.2.1, hb.2.2.2.2.2.1, hb.2.2.2.2.2.2.1, (Int.toNat_of_nonneg hb.2.2.2.2.2.2.2).symm⟩, rs ι1 H1 _ p1 x1 so1 wk_rngC⟩
    · cases hl
  · exfalso
    have := evA_len e1
    cases this
  · cases hl
theorem val_of {sc : Scope} {tg it : Expr} {n : Nat} {ci : CI} (hp : ∀ e c, erE nm N n sc e = some c → EP2 X G e c) (h : erVal (erE nm N n sc) it = some ci) : PI X tg it (TIc G X.K ci) ∧ notSet it = true := by
  unfold erVal at h
  split at h
  · obtain ⟨c, hc, rfl⟩ := Option.map_eq_some_iff.mp h
    exact ⟨pi_val (hp it c hc), ‹_›⟩
  · cases h
theorem tup_of {tg : Expr} (h : isTup tg = true) : ∃ es k p, tg = .Tuple es k p := by
  cases tg with
  | Tuple es k p => exact ⟨es, k, p, rfl⟩
  | _ => cases h
theorem pi_of {sc : Scope} {tg it : Expr} {n : Nat} {ci : CI} (g : Gd nm N G k X) (hsc : X.env.scope = sc) (hp : ∀ e c, erE nm N n sc e = some c → EP2 X G e c) (h : erI (erE nm N n sc) nm sc tg it = some ci) : PI X tg it (TIc G X.K ci) ∧ notSet it = true := by
  unfold erI at h
  split at h
  · rename_i x np es kws pos
    split at h
    · rename_i hc
      obtain ⟨hg, hb, hk⟩ := hc
      have hk : kws = [] := by cases kws with
        | nil => rfl
        | cons _ _ => cases hk
      subst hk
      have gl := lk_gl (X := X) hsc hg
      have hm := g.bls x hb
      split at h
      · rename_i ex
        subst ex
        split at h
        · rename_i a
          obtain ⟨ca, ha, rfl⟩ := Option.map_eq_some_iff.mp h
          exact ⟨pi_rng1 (hp a ca ha) (erE_star ha) gl hm, rfl⟩
        · rename_i a b
          obtain ⟨ca, ha, h⟩ := Option.bind_eq_some_iff.mp h
          obtain ⟨cb, hb2, rfl⟩ := Option.map_eq_some_iff.mp h
          exact ⟨pi_rng2 (hp a ca ha) (hp b cb hb2) (erE_star ha) (erE_star hb2) gl hm, rfl⟩
        · rename_i a b e
          obtain ⟨ca, ha, h⟩ := Option.bind_eq_some_iff.mp h
          obtain ⟨cb, hb2, h⟩ := Option.bind_eq_some_iff.mp h
          obtain ⟨cc, hc2, rfl⟩ := Option.map_eq_some_iff.mp h
          exact ⟨pi_rng3 (hp a ca ha) (hp b cb hb2) (hp e cc hc2) (erE_star ha) (erE_star hb2) (erE_star hc2) gl hm, rfl⟩
        · cases h
      · split at h
        · rename_i ex
          subst ex
          split at h
          · rename_i a
            split at h
            · rename_i ht
              obtain ⟨es, kk, tp, rfl⟩ := tup_of ht
              obtain ⟨ca, ha, rfl⟩ := Option.map_eq_some_iff.mp h
              exact ⟨pi_enu (hp a ca ha) (erE_star ha) gl hm, rfl⟩
            · cases h
          · cases h
        · split at h
          · rename_i ex
            subst ex
            split at h
            · rename_i a b
              split at h
              · rename_i ht
                obtain ⟨es, kk, tp, rfl⟩ := tup_of ht
                obtain ⟨ca, ha, h⟩ := Option.bind_eq_some_iff.mp h
                obtain ⟨cb, hb2, rfl⟩ := Option.map_eq_some_iff.mp h
                exact ⟨pi_zip (hp a ca ha) (hp b cb hb2) (erE_star ha) (erE_star hb2) gl hm, rfl⟩
              · cases h
            · cases h
          · exact val_of hp h
    · exact val_of hp h
  · rename_i x np m apos cpos
    split at h
    · rename_i hc
      obtain ⟨rfl, hg, ht, hl⟩ := hc
      split at h
      · rename_i tab htab
        cases h
        obtain ⟨es, kk, tp, rfl⟩ := tup_of ht
        exact ⟨pi_dit g (lk_gl (X := X) hsc hg) (PySem.mem_of_lookup htab) hl, rfl⟩
      · exact val_of hp h
    · exact val_of hp h
  · exact val_of hp h
theorem fold_of {it : Expr} (h : notSet it = true) : ∀ x, foldedSetIterable it X.env x = pure x := by
  intro x
  cases it <;> first | rfl | cases h
/-- a comprehension's turn -/
noncomputable def lcF (G : Gv) (t : CT) (c e : CE) (L : Lcs) (m : Nat) : D → Store → R Unit := fun d S2 => (ofO (asgT t d S2 L) S2).bind fun L2 S3 => (evE G c L2 S3).bind fun x S4 => ifB x
  ((evE G e L2 S4).bind fun y S5 => match S5[m]? with
    | some (.lst acc) => if acc.length < sizeLine then .ok () (S5.set m (.lst (acc ++ [y]))) else .bad
    | _ => .bad) (.ok () S4)
theorem evE_lc {vs : List Nat} {t : CT} {it : CI} {c e : CE} {L : Lcs} {S : Store} : evE G (.lc vs t it c e) L S = ((evI G it L S).bind fun p S1 => (lcLoop (lcF G t c e (wipeL L vs) S1.length) p.2 p.1 (S1 ++ [.lst []])).bind fun _ S9 => .ok (.ref S1.length) S9).gc S := rfl
theorem lc_go {t : CT} {ci : CI} {c e : CE} {vs : List Nat} (subs : ∀ i ∈ t.ixs, i ∈ vs) {σ : St} {H : Hp} {Q : VK} (q : TEc G X.K (.lc vs t ci c e) σ H Q) : tLc (TIc G X.K ci) (TGc X.K t) (TTc G X.K c) (TEc G X.K e) vs σ H Q := by
  obtain ⟨ι, S, L, so, lo, res⟩ := q
  rw [evE_lc] at res
  obtain ⟨p, S1, e1, res⟩ := Res.step (Res.ungc so res)
  obtain ⟨items, gd⟩ := p
  refine ⟨ι, S, L, so, lo, ?_⟩
  rw [e1]
  refine fun ι1 H1 J p1 x1 so1 wk D hD => ?_
  have lo1 := lo.mono p1 x1
  have res := res.mono p1 x1
  have x0 := Xt.new (o := .lst []) hD
  have nw := so1.push hD (o := .lst []) (c := .lst []) ⟨[], upd_same, rfl⟩
  have pre : ι1 <+: ι1 ++ [D] := List.prefix_append ..
  have eD : (ι1 ++ [D])[S1.length]? = some D := by simp [so1.len]
  have res := res.mono pre x0
  refine ⟨fun i m H' => m = items.length - i ∧ i ≤ items.length ∧ ∃ ι' S', (ι1 ++ [D]) <+: ι' ∧ Xt (upd H1 D (.lst [])) H' ∧ Sok X.K ι' H' S' ∧
    Res X.K ι' H' ((lcLoop (lcF G t c e (wipeL L vs) S1.length) gd (items.drop i) S').bind fun _ S9 => .ok (.ref S1.length) S9) Q, ⟨items.length, by simp, Nat.zero_le _, ι1 ++ [D], S1 ++ [Cell.lst []], List.prefix_refl _, Xt.refl _, nw, by rw [List.drop_zero]; exact res⟩, ?_⟩
  rintro i m H' ⟨rfl, hle, ι', S', pw, xw, sw, rw'⟩
  have wkr := wk.run ι' H' S' i (pre.trans pw) (x0.trans xw) sw
  by_cases hlt : i < items.length
  · have hd : items.drop i = items[i] :: items.drop (i + 1) := List.drop_eq_getElem_cons hlt
    rw [hd] at rw'
    simp only [lcLoop] at rw'
    by_cases hgd : Gok gd S'
    · rw [if_pos hgd] at rw'
      obtain ⟨hgo, hy⟩ := (wkr hgd).2 items[i] (List.getElem?_eq_getElem hlt)
      refine .inr ⟨hgo, fun H3 => ∃ ι3 S3, (ι1 ++ [D]) <+: ι3 ∧ Xt (upd H1 D (.lst [])) H3 ∧ Sok X.K ι3 H3 S3 ∧
        Res X.K ι3 H3 ((lcLoop (lcF G t c e (wipeL L vs) S1.length) gd (items.drop (i + 1)) S3).bind fun _ S9 => .ok (.ref S1.length) S9) Q, fun H3 ⟨ι3, S3, a1, a2, a3, a4⟩ => ⟨items.length - (i + 1), by omega, rfl, hlt, ι3, S3, a1, a2, a3, a4⟩, fun x H2 y => ?_⟩
      obtain ⟨x2, s2, r2⟩ := hy x H2 y
      have rw2 := rw'.mono (List.prefix_refl ι') x2
      -- the turn
      obtain ⟨_, S9, e9, rw2⟩ := Res.step rw2
      cases e9' : lcF G t c e (wipeL L vs) S1.length items[i] S' with
      | bad => rw [e9'] at e9; cases e9
      | exc _ _ => rw [e9'] at e9; cases e9
      | ok uu Sf =>
        rw [e9', R.bind_ok] at e9
        have e9' : ((ofO (asgT t items[i] S' (wipeL L vs)) S').bind fun L2 S3 => (evE G c L2 S3).bind fun x S4 => ifB x
          ((evE G e L2 S4).bind fun y S5 => match S5[S1.length]? with
            | some (.lst acc) => if acc.length < sizeLine then .ok () (S5.set S1.length (.lst (acc ++ [y]))) else .bad
            | _ => .bad) (.ok () S4)) = .ok uu Sf := e9'
        cases ea : asgT t items[i] S' (wipeL L vs) with
        | none => rw [ea] at e9'; cases e9'
        | some L2 =>
          rw [ea] at e9'
          have e9' : ((evE G c L2 S').bind fun x S4 => ifB x
            ((evE G e L2 S4).bind fun y S5 => match S5[S1.length]? with
              | some (.lst acc) => if acc.length < sizeLine then .ok () (S5.set S1.length (.lst (acc ++ [y]))) else .bad
              | _ => .bad) (.ok () S4)) = .ok uu Sf := e9'
          refine ⟨ι', S', wipeL L vs, items[i], L2, s2, (((lo1.mono pre x0).mono pw xw).mono (List.prefix_refl _) x2).wipe vs, r2, ea, fun σ2 lo2 sm => ⟨sm.wipe subs, ?_⟩⟩
          cases ec : evE G c L2 S' with
          | bad => rw [ec] at e9'; cases e9'
          | exc _ _ => rw [ec] at e9'; cases e9'
          | ok bx S4 =>
            rw [ec, R.bind_ok] at e9'
            cases bx with
            | bl b =>
              rw [ifB_bl] at e9'
              refine TTc.of s2 lo2 ec fun ι4 H4 p4 x4 so4 => ?_
              have done : ∀ {ι5 : List Addr} {H5 : Hp}, ι4 <+: ι5 → Xt H4 H5 → Sok X.K ι5 H5 Sf → ∃ ι3 S3, (ι1 ++ [D]) <+: ι3 ∧ Xt (upd H1 D (.lst [])) H5 ∧ Sok X.K ι3 H5 S3 ∧
                  Res X.K ι3 H5 ((lcLoop (lcF G t c e (wipeL L vs) S1.length) gd (items.drop (i + 1)) S3).bind fun _ S9 => .ok (.ref S1.length) S9) Q := by
                intro ι5 H5 p5 x5 so5
                refine ⟨ι5, Sf, pw.trans (p4.trans p5), xw.trans (x2.trans (x4.trans x5)), so5, ?_⟩
                rw [e9]
                exact rw2.mono (p4.trans p5) (x4.trans x5)
              cases b with
              | false =>
                rw [if_neg Bool.false_ne_true] at e9' ⊢
                cases e9'
                exact done (List.prefix_refl _) (Xt.refl _) so4
              | true =>
                rw [if_pos rfl] at e9' ⊢
                cases ee : evE G e L2 S4 with
                | bad => rw [ee] at e9'; cases e9'
                | exc _ _ => rw [ee] at e9'; cases e9'
                | ok y S5 =>
                  rw [ee, R.bind_ok] at e9'
                  refine TEc.of so4 (lo2.mono p4 x4) ee fun ι5 H5 v5 p5 x5 so5 r5 => ?_
                  split at e9'
                  · rename_i acc hacc
                    split at e9'
                    · rename_i hz
                      cases e9'
                      have eD5 : ι5[S1.length]? = some D := pre_get (pw.trans (p4.trans p5)) eD
                      obtain ⟨a', ea', ck⟩ := so5.at hacc
                      rw [eD5] at ea'; cases ea'
                      obtain ⟨ws, hw, dw⟩ := ck
                      obtain ⟨s6, x6⟩ := so5.put (o := .lst (ws ++ [v5])) (c' := .lst (acc ++ [y])) eD5 hacc rfl fun x => ⟨_, upd_same, (dw.mono (List.prefix_refl _) x).append (DRs.one (r5.mono (List.prefix_refl _) x _))⟩
                      exact ⟨ws, hw, by rw [dw.length]; exact hz, done p5 (x5.trans x6) s6⟩
                    · cases e9'
                  · cases e9'
            | _ => cases e9'
    · rw [if_neg hgd] at rw'
      exact rw'.elim
  · have e : i = items.length := by omega
    subst e
    rw [List.drop_length] at rw'
    simp only [lcLoop] at rw'
    by_cases hgd : Gok gd S'
    · rw [if_pos hgd] at rw'
      exact .inl ⟨(wkr hgd).1 (Nat.le_refl _), rw'.val sw ⟨D, pre_get pw eD, rfl⟩⟩
    · rw [if_neg hgd] at rw'
      exact rw'.elim
/-- a dict comprehension's turn -/
noncomputable def dcF (G : Gv) (t : CT) (c ck e : CE) (L : Lcs) (m : Nat) : D → Store → R Unit := fun d S2 => (ofO (asgT t d S2 L) S2).bind fun L2 S3 => (evE G c L2 S3).bind fun x S4 => ifB x
  ((evE G ck L2 S4).bind fun q S5 => (evE G e L2 S5).bind fun y S6 => match keyOf q, S6[m]? with
    | some q, some (.dK kvs) => if kvs.length < sizeLine then .ok () (S6.set m (.dK (putD kvs q y))) else .bad
    | _, _ => .bad) (.ok () S4)
theorem evE_dc {vs : List Nat} {t : CT} {it : CI} {c ck e : CE} {L : Lcs} {S : Store} : evE G (.dc vs t it c ck e) L S = ((evI G it L S).bind fun p S1 => (lcLoop (dcF G t c ck e (wipeL L vs) S1.length) p.2 p.1 (S1 ++ [.dK []])).bind fun _ S9 => .ok (.ref S1.length) S9).gc S := rfl
theorem dc_go {t : CT} {ci : CI} {c ck e : CE} {vs : List Nat} (subs : ∀ i ∈ t.ixs, i ∈ vs) {σ : St} {H : Hp} {Q : VK} (q : TEc G X.K (.dc vs t ci c ck e) σ H Q) : tDc (TIc G X.K ci) (TGc X.K t) (TTc G X.K c) (TEc G X.K ck) (TEc G X.K e) vs σ H Q := by
  obtain ⟨ι, S, L, so, lo, res⟩ := q
  rw [evE_dc] at res
  obtain ⟨p, S1, e1, res⟩ := Res.step (Res.ungc so res)
  obtain ⟨items, gd⟩ := p
  refine ⟨ι, S, L, so, lo, ?_⟩
  rw [e1]
  refine fun ι1 H1 J p1 x1 so1 wk D hD => ?_
  have lo1 := lo.mono p1 x1
  have res := res.mono p1 x1
  have x0 := Xt.new (o := .dK []) hD
  have nw := so1.push hD (o := .dK []) (c := .dK []) ⟨[], upd_same, rfl, rfl⟩
  have pre : ι1 <+: ι1 ++ [D] := List.prefix_append ..
  have eD : (ι1 ++ [D])[S1.length]? = some D := by simp [so1.len]
  have res := res.mono pre x0
  refine ⟨fun i m H' => m = items.length - i ∧ i ≤ items.length ∧ ∃ ι' S', (ι1 ++ [D]) <+: ι' ∧ Xt (upd H1 D (.dK [])) H' ∧ Sok X.K ι' H' S' ∧
    Res X.K ι' H' ((lcLoop (dcF G t c ck e (wipeL L vs) S1.length) gd (items.drop i) S').bind fun _ S9 => .ok (.ref S1.length) S9) Q, ⟨items.length, by simp, Nat.zero_le _, ι1 ++ [D], S1 ++ [Cell.dK []], List.prefix_refl _, Xt.refl _, nw, by rw [List.drop_zero]; exact res⟩, ?_⟩
  rintro i m H' ⟨rfl, hle, ι', S', pw, xw, sw, rw'⟩
  have wkr := wk.run ι' H' S' i (pre.trans pw) (x0.trans xw) sw
  by_cases hlt : i < items.length
  · have hd : items.drop i = items[i] :: items.drop (i + 1) := List.drop_eq_getElem_cons hlt
    rw [hd] at rw'
    simp only [lcLoop] at rw'
    by_cases hgd : Gok gd S'
    · rw [if_pos hgd] at rw'
      obtain ⟨hgo, hy⟩ := (wkr hgd).2 items[i] (List.getElem?_eq_getElem hlt)
      refine .inr ⟨hgo, fun H3 => ∃ ι3 S3, (ι1 ++ [D]) <+: ι3 ∧ Xt (upd H1 D (.dK [])) H3 ∧ Sok X.K ι3 H3 S3 ∧
        Res X.K ι3 H3 ((lcLoop (dcF G t c ck e (wipeL L vs) S1.length) gd (items.drop (i + 1)) S3).bind fun _ S9 => .ok (.ref S1.length) S9) Q, fun H3 ⟨ι3, S3, a1, a2, a3, a4⟩ => ⟨items.length - (i + 1), by omega, rfl, hlt, ι3, S3, a1, a2, a3, a4⟩, fun x H2 y => ?_⟩
      obtain ⟨x2, s2, r2⟩ := hy x H2 y
      have rw2 := rw'.mono (List.prefix_refl ι') x2
      obtain ⟨_, S9, e9, rw2⟩ := Res.step rw2
      cases e9' : dcF G t c ck e (wipeL L vs) S1.length items[i] S' with
      | bad => rw [e9'] at e9; cases e9
      | exc _ _ => rw [e9'] at e9; cases e9
      | ok uu Sf =>
        rw [e9', R.bind_ok] at e9
        unfold dcF at e9'
        cases ea : asgT t items[i] S' (wipeL L vs) with
        | none => rw [ea] at e9'; cases e9'
        | some L2 =>
          rw [ea] at e9'
          replace e9' : ((evE G c L2 S').bind fun x S4 => ifB x
            ((evE G ck L2 S4).bind fun q S5 => (evE G e L2 S5).bind fun y S6 => match keyOf q, S6[S1.length]? with
              | some q, some (.dK kvs) => if kvs.length < sizeLine then .ok () (S6.set S1.length (.dK (putD kvs q y))) else .bad
              | _, _ => .bad) (.ok () S4)) = .ok uu Sf := e9'
          refine ⟨ι', S', wipeL L vs, items[i], L2, s2, (((lo1.mono pre x0).mono pw xw).mono (List.prefix_refl _) x2).wipe vs, r2, ea, fun σ2 lo2 sm => ⟨sm.wipe subs, ?_⟩⟩
          cases ec : evE G c L2 S' with
          | bad => rw [ec] at e9'; cases e9'
          | exc _ _ => rw [ec] at e9'; cases e9'
          | ok bx S4 =>
            rw [ec, R.bind_ok] at e9'
            cases bx with
            | bl b =>
              rw [ifB_bl] at e9'
              refine TTc.of s2 lo2 ec fun ι4 H4 p4 x4 so4 => ?_
              have done : ∀ {ι5 : List Addr} {H5 : Hp}, ι4 <+: ι5 → Xt H4 H5 → Sok X.K ι5 H5 Sf → ∃ ι3 S3, (ι1 ++ [D]) <+: ι3 ∧ Xt (upd H1 D (.dK [])) H5 ∧ Sok X.K ι3 H5 S3 ∧
                  Res X.K ι3 H5 ((lcLoop (dcF G t c ck e (wipeL L vs) S1.length) gd (items.drop (i + 1)) S3).bind fun _ S9 => .ok (.ref S1.length) S9) Q := by
                intro ι5 H5 p5 x5 so5
                refine ⟨ι5, Sf, pw.trans (p4.trans p5), xw.trans (x2.trans (x4.trans x5)), so5, ?_⟩
                rw [e9]
                exact rw2.mono (p4.trans p5) (x4.trans x5)
              cases b with
              | false =>
                rw [if_neg Bool.false_ne_true] at e9' ⊢
                cases e9'
                exact done (List.prefix_refl _) (Xt.refl _) so4
              | true =>
                rw [if_pos rfl] at e9' ⊢
                cases ek : evE G ck L2 S4 with
                | bad => rw [ek] at e9'; cases e9'
                | exc _ _ => rw [ek] at e9'; cases e9'
                | ok kd S5 =>
                  rw [ek, R.bind_ok] at e9'
                  cases ee : evE G e L2 S5 with
                  | bad => rw [ee] at e9'; cases e9'
                  | exc _ _ => rw [ee] at e9'; cases e9'
                  | ok y S6 =>
                    rw [ee, R.bind_ok] at e9'
                    refine TEc.of so4 (lo2.mono p4 x4) ek fun ι5 H5 v5 p5 x5 so5 r5 => ?_
                    refine TEc.of so5 ((lo2.mono p4 x4).mono p5 x5) ee fun ι6 H6 v6 p6 x6 so6 r6 => ?_
                    split at e9'
                    · rename_i kk kvs hk hacc
                      split at e9'
                      · rename_i hz
                        cases e9'
                        have eD6 : ι6[S1.length]? = some D := pre_get (pw.trans (p4.trans (p5.trans p6))) eD
                        obtain ⟨a', ea', cq⟩ := so6.at hacc
                        rw [eD6] at ea'; cases ea'
                        obtain ⟨ws, hw, kr⟩ := cq
                        obtain ⟨s7, x7⟩ := so6.put (o := .dK (putK ws kk v6)) (c' := .dK (putD kvs kk y)) eD6 hacc rfl fun x => ⟨_, upd_same, (KR.mono kr (List.prefix_refl _) x).put kk (r6.mono (List.prefix_refl _) x _)⟩
                        exact ⟨ws, kk, keyOf_kV hk r5, hw, by rw [kr.length]; exact hz, done (p5.trans p6) (x5.trans (x6.trans x7)) s7⟩
                      · cases e9'
                    · cases e9'
            | _ => cases e9'
    · rw [if_neg hgd] at rw'
      exact rw'.elim
  · have e : i = items.length := by omega
    subst e
    rw [List.drop_length] at rw'
    simp only [lcLoop] at rw'
    by_cases hgd : Gok gd S'
    · rw [if_pos hgd] at rw'
      exact .inl ⟨(wkr hgd).1 (Nat.le_refl _), rw'.val sw ⟨D, pre_get pw eD, rfl⟩⟩
    · rw [if_neg hgd] at rw'
      exact rw'.elim
theorem sub_of {t : CT} {vs : List Nat} (sub : subL t.ixs vs = true) : ∀ i ∈ t.ixs, i ∈ vs := by
  intro i hi
  unfold subL at sub
  exact of_decide_eq_true (List.all_eq_true.mp sub i hi)
/-- a comprehension's parts -/
structure LcP (X : Cx) (G : Gv) (N : List Str) (elt tg it : Expr) (ifs : List Expr) (scope : Scope) (t : CT) (ci : CI) (c e : CE) : Prop where
  ok : BlkOk X.N X.env.scope scope (ownOf N scope)
  hi : PI X tg it (TIc G X.K ci)
  hns : notSet it = true
  hg : ∀ (s : Shared) (H : Hp) (C : Addr) (cl : List (Str × Addr)) (fp : List Addr), PG (X.blk s H scope (compEnvC scope cl C X.env) fp) tg (TGc X.K t)
  ht : ∀ (s : Shared) (H : Hp) (C : Addr) (cl : List (Str × Addr)) (fp : List Addr), PTs (X.blk s H scope (compEnvC scope cl C X.env) fp) ifs (TTc G X.K c)
  he : ∀ (s : Shared) (H : Hp) (C : Addr) (cl : List (Str × Addr)) (fp : List Addr), PE (X.blk s H scope (compEnvC scope cl C X.env) fp) elt (TEc G X.K e)
  sub : ∀ i ∈ t.ixs, i ∈ (ownOf N scope).map (·.2)
theorem ep_lc {elt tg it : Expr} {ifs : List Expr} {scope : Scope} {pos : Pos} {t : CT} {ci : CI} {c e : CE} (g : Gd nm N G k X) (P : LcP X G N elt tg it ifs scope t ci c e) : EP2 X G (.ListComp elt [⟨tg, it, ifs, 0⟩] scope pos) (.lc ((ownOf N scope).map (·.2)) t ci c e) :=
  .of ((pe_lc g.cg.calm (by rw [g.n]; exact g.nd) P.hi P.ok P.hg P.ht P.he (fold_of P.hns)).imp fun σ H Q q => lc_go P.sub q) fun _ => rfl
end
end Mi
namespace Mi
open PySem L2
theorem pts_imp {X : Cx} {e : List Expr} {t t' : TT} (h : PTs X e t) (i : ∀ σ H Q, t' σ H Q → t σ H Q) : PTs X e t' := ⟨fun pins s σ H Q I q => h.run pins s σ H Q I (i σ H Q q)⟩
/-- the parts of an erased comprehension -/
theorem lc_parts {nm : Nm} {N : List Str} {G : Gv} {k : Nat} {n : Nat} (ih : ∀ (X : Cx) (sc : Scope), X.env.scope = sc → Gd nm N G k X → ∀ (e : Expr) (c : CE), erE nm N n sc e = some c → EP2 X G e c) {X : Cx} {sc : Scope} (hsc : X.env.scope = sc) (g : Gd nm N G k X)
    {elt : Expr} {gs : List Comprehension} {scope : Scope} {c : CE} (h : erLc nm N (erE nm N n) n sc elt gs scope = some c) :
    ∃ tg it ifs t ci cc ce, gs = [⟨tg, it, ifs, 0⟩] ∧ c = .lc ((ownOf N scope).map (·.2)) t ci cc ce ∧ LcP X G N elt tg it ifs scope t ci cc ce := by
  unfold erLc at h
  split at h
  · rename_i tg it ifs ia
    split at h
    · rename_i hb
      obtain ⟨h0, hb⟩ := hb
      subst h0
      obtain ⟨t, ht, h⟩ := Option.bind_eq_some_iff.mp h
      obtain ⟨ci, hci, h⟩ := Option.bind_eq_some_iff.mp h
      split at h
      · rename_i hsub
        obtain ⟨cc, hcc, h⟩ := Option.bind_eq_some_iff.mp h
        obtain ⟨ce, hce, rfl⟩ := Option.map_eq_some_iff.mp h
        obtain ⟨hi, hns⟩ := pi_of (tg := tg) g hsc (ih X sc hsc g) hci
        have inner : ∀ (s : Shared) (H : Hp) (C : Addr) (cl : List (Str × Addr)) (fp : List Addr), (X.blk s H scope (compEnvC scope cl C X.env) fp).env.scope = relS scope sc := by
          intro s H C cl fp
          rw [← hsc] <;> rfl
        have hok : BlkOk X.N X.env.scope scope (ownOf N scope) := by rw [g.n, hsc]; exact blkOk_by hb
        refine ⟨tg, it, ifs, t, ci, cc, ce, rfl, rfl, hok, hi, hns, fun s H C cl fp => ?_, fun s H C cl fp => ?_, fun s H C cl fp => ?_, sub_of hsub⟩
        · exact er_tgt (X := X.blk s H scope (compEnvC scope cl C X.env) fp) g.cg.calm (by show X.N.Nodup; rw [g.n]; exact g.nd) (inner s H C cl fp) (tc := cells scope) (fun x hx => hx) n tg t (by show erT X.N _ _ _ _ = _; rw [g.n]; exact ht)
        · have gi := g.blk s H scope (compEnvC scope cl C X.env) fp
          cases ifs with
          | nil =>
            cases hcc
            exact pts_imp pts_nil fun σ H Q ⟨ι, S, L, so, lo, res⟩ => by
              obtain ⟨b, e, q⟩ := res ι H (.bl true) (List.prefix_refl ι) (Xt.refl H) so rfl
              cases e; exact q
          | cons c1 r => cases r with
            | nil => exact pts_one (ih _ (relS scope sc) (inner s H C cl fp) gi c1 cc hcc).pt
            | cons _ _ => cases hcc
        · exact (ih _ (relS scope sc) (inner s H C cl fp) (g.blk s H scope (compEnvC scope cl C X.env) fp) elt ce hce).pe
      · cases h
    · cases h
  · cases h
theorem er_exp {nm : Nm} {N : List Str} {G : Gv} {k : Nat} : ∀ (n : Nat) (X : Cx) (sc : Scope), X.env.scope = sc → Gd nm N G k X → ∀ (e : Expr) (c : CE), erE nm N n sc e = some c → EP2 X G e c := by
  intro n
  induction n with
  | zero => intro X sc _ _ e c h; cases h
  | succ n ih =>
    intro X sc hsc g e c h
    have hp := ih X sc hsc g
    obtain ⟨c', hw, h0⟩ := erE_of h
    clear h
    suffices main : EP2 X G e c' by
      rcases hw with rfl | ⟨rfl, _⟩
      · exact main
      · exact ep_fz main
    clear hw
    have hcc : c' = c' := rfl
    generalize c' = c at h0 ⊢
    rcases h0 with rfl | h
    · exact ep_nvr
    have many : ∀ {es : List Expr} {cs : List CE}, erAll (erE nm N n sc) es = some cs → PA X es (TAc G X.K (caOf cs)) := fun h => pa_of h (all_star h) hp
    cases e with
    | Constant cst kk pos =>
      replace h : erC cst = some c := h
      cases cst with
      | int i => cases h; exact ep_cst pe_int (fun _ _ => rfl) fun _ => rfl
      | bool b => cases h; exact ep_cst pe_bl (fun _ _ => rfl) fun _ => rfl
      | none => cases h; exact ep_cst pe_non (fun _ _ => rfl) fun _ => rfl
      | str x => cases h; exact ep_cst pe_str (fun _ _ => rfl) fun _ => rfl
      | _ => cases h
    | Name x pos => exact ep_name g hsc h
    | BinOp a op b pos =>
      replace h : ((erE nm N n sc a).bind fun a => (erE nm N n sc b).map fun b => CE.bin op a b) = some c := h
      obtain ⟨ca, ha, h⟩ := Option.bind_eq_some_iff.mp h
      obtain ⟨cb, hb, rfl⟩ := Option.map_eq_some_iff.mp h
      exact ep_bin (hp a ca ha) (hp b cb hb)
    | UnaryOp op a pos =>
      replace h : erUn (erE nm N n sc) op a = some c := h
      cases op with
      | USub =>
        obtain ⟨ca, ha, rfl⟩ := Option.map_eq_some_iff.mp h
        exact ep_neg (hp a ca ha)
      | Not =>
        obtain ⟨ca, ha, rfl⟩ := Option.map_eq_some_iff.mp h
        exact ep_not (hp a ca ha)
      | _ => cases h
    | BoolOp op es pos =>
      replace h : erBo (erE nm N n sc) op es = some c := h
      unfold erBo at h
      split at h
      · cases h
      · rename_i hne
        have hne : es ≠ [] := by rintro rfl; exact hne rfl
        cases op with
        | And =>
          obtain ⟨cs, hcs, rfl⟩ := Option.map_eq_some_iff.mp h
          exact (ep_andL hp hne hcs).1
        | Or =>
          obtain ⟨cs, hcs, rfl⟩ := Option.map_eq_some_iff.mp h
          exact (ep_orL hp hne hcs).1
    | Compare a ops bs pos =>
      replace h : erCmp (erE nm N n sc) a ops bs = some c := h
      unfold erCmp at h
      split at h
      · rename_i op b
        split at h
        · cases h
        · rename_i hm
          obtain ⟨ca, ha, h⟩ := Option.bind_eq_some_iff.mp h
          obtain ⟨cb, hb, rfl⟩ := Option.map_eq_some_iff.mp h
          exact ep_cmp g.cg (hp a ca ha) (hp b cb hb) (by simpa using hm)
      · rename_i p q b d
        split at h
        · cases h
        · rename_i hm
          obtain ⟨ca, ha, h⟩ := Option.bind_eq_some_iff.mp h
          obtain ⟨cb, hb, h⟩ := Option.bind_eq_some_iff.mp h
          obtain ⟨cc, hc, rfl⟩ := Option.map_eq_some_iff.mp h
          exact ep_chn g.cg (hp a ca ha) (hp b cb hb) (hp d cc hc) (by simpa using hm)
      · cases h
    | IfExp t a b pos =>
      replace h : ((erE nm N n sc t).bind fun t => (erE nm N n sc a).bind fun a => (erE nm N n sc b).map fun b => CE.ite t a b) = some c := h
      obtain ⟨ct, ht, h⟩ := Option.bind_eq_some_iff.mp h
      obtain ⟨ca, ha, h⟩ := Option.bind_eq_some_iff.mp h
      obtain ⟨cb, hb, rfl⟩ := Option.map_eq_some_iff.mp h
      exact ep_ite (hp t ct ht) (hp a ca ha) (hp b cb hb)
    | Tuple es kk pos =>
      obtain ⟨cs, hcs, rfl⟩ := Option.map_eq_some_iff.mp (show (erAll (erE nm N n sc) es).map (fun cs => CE.tup (caOf cs)) = some c from h)
      exact ep_tup (many hcs)
    | List es pos =>
      obtain ⟨cs, hcs, rfl⟩ := Option.map_eq_some_iff.mp (show (erAll (erE nm N n sc) es).map (fun cs => CE.lst (caOf cs)) = some c from h)
      exact ep_lst (many hcs)
    | Dict ks vs pos =>
      replace h : (if ks.length ≤ 15 then (pairUp ks vs).bind fun es => (erAll (erE nm N n sc) es).map fun cs => CE.dct (caOf cs) else none) = some c := h
      split at h
      · rename_i h15
        obtain ⟨es, hes, h⟩ := Option.bind_eq_some_iff.mp h
        obtain ⟨cs, hcs, rfl⟩ := Option.map_eq_some_iff.mp h
        exact ep_dct hp h15 hes hcs
      · cases h
    | JoinedStr vs pos =>
      replace h : erFs (erE nm N n sc) vs = some c := h
      unfold erFs at h
      split at h
      · rename_i h2
        obtain ⟨es, hes, h⟩ := Option.bind_eq_some_iff.mp h
        obtain ⟨cs, hcs, rfl⟩ := Option.map_eq_some_iff.mp h
        exact ep_fst hes h2 hcs hp
      · cases h
    | Subscript e i pos =>
      replace h : (match erDix nm sc e i with
        | some tab => (erE nm N n sc i).map fun c => CE.dix tab c
        | none => erSub (erE nm N n sc) e i) = some c := h
      cases hdx : erDix nm sc e i with
      | some tab =>
        rw [hdx] at h
        obtain ⟨ci, hi, rfl⟩ := Option.map_eq_some_iff.mp h
        unfold erDix at hdx
        split at hdx
        · split at hdx
          · rename_i hc
            exact ep_dix g (lk_gl (X := X) hsc hc.1) (PySem.mem_of_lookup hdx) (hp i ci hi) hc.2
          · cases hdx
        · cases hdx
      | none =>
      rw [hdx] at h
      replace h : erSub (erE nm N n sc) e i = some c := h
      unfold erSub at h
      split at h
      · rename_i lo hi st sp
        split at h
        · obtain ⟨ce, he, h⟩ := Option.bind_eq_some_iff.mp h
          obtain ⟨l, hl, h⟩ := Option.bind_eq_some_iff.mp h
          obtain ⟨u, hu, rfl⟩ := Option.map_eq_some_iff.mp h
          exact ep_slc hp (hp e ce he) hl hu
        · rename_i st
          split at h
          · rename_i hr
            obtain ⟨h1, h2, h3⟩ := hr
            cases lo with
            | some _ => cases h2
            | none => cases hi with
              | some _ => cases h3
              | none =>
                obtain ⟨ce, he, rfl⟩ := Option.map_eq_some_iff.mp h
                exact ep_rev (hp e ce he) h1
          · cases h
      · rename_i hns
        obtain ⟨ce, he, h⟩ := Option.bind_eq_some_iff.mp h
        obtain ⟨ci, hi, rfl⟩ := Option.map_eq_some_iff.mp h
        refine ep_idx g.cg (hp e ce he) (hp i ci hi) ?_
        cases i with
        | Slice a b d p => exact absurd rfl (hns a b d p)
        | _ => rfl
    | Call f es kws cpos =>
      replace h : (match erIsx nm sc f es kws with
        | some (e, tab) => (erE nm N n sc e).map fun c => CE.isx c tab
        | none => match erMk nm sc f es kws with
          | some (.inl x) => some (CE.mkx x)
          | some (.inr (x, f, e)) => (erE nm N n sc e).map fun c => CE.mkf x f c
          | none => match erNew nm sc f kws with
            | some (x, i) => (erAll (erE nm N n sc) es).map fun cs => CE.new x i (caOf cs)
            | none => match erMcl nm f es kws cpos with
              | some (o, m, tab) => (erE nm N n sc o).bind fun o => (erAll (erE nm N n sc) es).map fun cs => CE.mcl m tab o (caOf cs)
              | none => erCall (erE nm N n sc) nm sc f es kws cpos) = some c := h
      cases hx : erIsx nm sc f es kws with
      | some q =>
        rw [hx] at h
        obtain ⟨e, tab⟩ := q
        obtain ⟨ce, he, rfl⟩ := Option.map_eq_some_iff.mp h
        unfold erIsx at hx
        split at hx
        · split at hx
          · rename_i hcond
            obtain ⟨rfl, hg, hb, hk, hns⟩ := hcond
            obtain ⟨ys, hys, hx⟩ := Option.bind_eq_some_iff.mp hx
            obtain ⟨yes, hyes, hx⟩ := Option.map_eq_some_iff.mp hx
            cases hx
            cases kws with
            | cons _ _ => cases hk
            | nil => exact ep_isx hsc g (hp _ ce he) (by cases e <;> first | rfl | cases hns) (lk_gl (X := X) hsc hg) hb hys hyes
          · cases hx
        · cases hx
      | none =>
      rw [hx] at h
      replace h : (match erMk nm sc f es kws with
          | some (.inl x) => some (CE.mkx x)
          | some (.inr (x, f, e)) => (erE nm N n sc e).map fun c => CE.mkf x f c
          | none => match erNew nm sc f kws with
            | some (x, i) => (erAll (erE nm N n sc) es).map fun cs => CE.new x i (caOf cs)
            | none => match erMcl nm f es kws cpos with
              | some (o, m, tab) => (erE nm N n sc o).bind fun o => (erAll (erE nm N n sc) es).map fun cs => CE.mcl m tab o (caOf cs)
              | none => erCall (erE nm N n sc) nm sc f es kws cpos) = some c := h
      cases hmk : erMk nm sc f es kws with
      | some q =>
        rw [hmk] at h
        obtain ⟨rfl, ⟨x, p, rfl, rfl, rfl, gl, hx2⟩ | ⟨x, p, g2, e, rfl, rfl, rfl, gl, hx2, hns⟩⟩ := erMk_is hsc hmk
        · cases h
          exact ep_mkx g gl hx2
        · obtain ⟨ce, he, rfl⟩ := Option.map_eq_some_iff.mp h
          exact ep_mkf g gl hx2 (hp e ce he) hns
      | none =>
      rw [hmk] at h
      replace h : (match erNew nm sc f kws with
            | some (x, i) => (erAll (erE nm N n sc) es).map fun cs => CE.new x i (caOf cs)
            | none => match erMcl nm f es kws cpos with
              | some (o, m, tab) => (erE nm N n sc o).bind fun o => (erAll (erE nm N n sc) es).map fun cs => CE.mcl m tab o (caOf cs)
              | none => erCall (erE nm N n sc) nm sc f es kws cpos) = some c := h
      cases hnw : erNew nm sc f kws with
      | some q =>
        rw [hnw] at h
        obtain ⟨cs, hcs, rfl⟩ := Option.map_eq_some_iff.mp h
        obtain ⟨qx, qi⟩ := q
        obtain ⟨x, p, rfl, rfl, gl, hi, rfl⟩ := erNew_is (X := X) hsc hnw
        exact ep_new g (g.mks _ hi) hp (all_star hcs) hcs gl
      | none =>
      rw [hnw] at h
      replace h : (match erMcl nm f es kws cpos with
              | some (o, m, tab) => (erE nm N n sc o).bind fun o => (erAll (erE nm N n sc) es).map fun cs => CE.mcl m tab o (caOf cs)
              | none => erCall (erE nm N n sc) nm sc f es kws cpos) = some c := h
      cases hme : erMcl nm f es kws cpos with
      | some q =>
        rw [hme] at h
        obtain ⟨co, hco, h⟩ := Option.bind_eq_some_iff.mp h
        obtain ⟨cs, hcs, rfl⟩ := Option.map_eq_some_iff.mp h
        obtain ⟨qo, qm, qt⟩ := q
        obtain ⟨apos, rfl, rfl, h1, h2, h3, h4⟩ := erMcl_is hme
        exact ep_mcl g hp (all_star hcs) hcs (hp _ co hco) h1 h2 h3 (fun q hq => g.me _ h4 q hq)
      | none =>
      rw [hme] at h
      replace h : erCall (erE nm N n sc) nm sc f es kws cpos = some c := h
      unfold erCall at h
      split at h
      · rename_i hk
        have hk : kws = [] := by cases kws with
          | nil => rfl
          | cons _ _ => cases hk
        subst hk
        split at h
        · rename_i x np
          split at h
          · rename_i hg
            have gl := lk_gl (X := X) hsc hg
            split at h
            · rename_i i hi
              obtain ⟨cs, hcs, rfl⟩ := Option.map_eq_some_iff.mp h
              exact ep_call g hp (all_star hcs) hcs hi gl
            · split at h
              · rename_i f hf
                split at h
                · rename_i hb
                  obtain ⟨cs, hcs, rfl⟩ := Option.map_eq_some_iff.mp h
                  exact ep_bi g hp (all_star hcs) hcs hf hb.1 hb.2 gl
                · cases h
              · cases h
          · cases h
        · rename_i o m apos
          split at h
          · rename_i f hf
            split at h
            · rename_i hb
              obtain ⟨co, hco, h⟩ := Option.bind_eq_some_iff.mp h
              obtain ⟨cs, hcs, rfl⟩ := Option.map_eq_some_iff.mp h
              exact ep_mth g hp (all_star hcs) hcs hf (hp o co hco) hb.1 hb.2.1 hb.2.2
            · cases h
          · cases h
        · cases h
      · cases h
    | Attribute e f pos =>
      replace h : (if notSuper e = true then (erE nm N n sc e).map fun c => CE.fld c f else none) = some c := h
      split at h
      · rename_i hs
        obtain ⟨ce, he, rfl⟩ := Option.map_eq_some_iff.mp h
        exact ep_fld (hp e ce he) hs
      · cases h
    | ListComp elt gs scope pos =>
      replace h : erLc nm N (erE nm N n) n sc elt gs scope = some c := h
      obtain ⟨tg, it, ifs, t, ci, cc, ce, rfl, rfl, P⟩ := lc_parts ih hsc g h
      exact ep_lc g P
    | DictComp kx vx gs scope pos =>
      replace h : ((erLc nm N (erE nm N n) n sc kx gs scope).bind fun a => (erLc nm N (erE nm N n) n sc vx gs scope).bind fun b => match a, b with
        | .lc vs t i c ck, .lc _ _ _ _ cv => some (CE.dc vs t i c ck cv)
        | _, _ => none) = some c := h
      obtain ⟨a, ha, h⟩ := Option.bind_eq_some_iff.mp h
      obtain ⟨b, hb, h⟩ := Option.bind_eq_some_iff.mp h
      obtain ⟨tg, it, ifs, t, ci, cc, ck, rfl, rfl, P⟩ := lc_parts ih hsc g ha
      obtain ⟨tg2, it2, ifs2, t2, ci2, cc2, cv, hgs, rfl, P2⟩ := lc_parts ih hsc g hb
      cases hgs
      cases h
      refine .of ((pe_dc g.cg.calm (by rw [g.n]; exact g.nd) P.hi P.ok P.hg P.ht P.he P2.he (fold_of P.hns)).imp fun σ H Q q => dc_go P.sub q) fun _ => rfl
    | _ => cases h
end Mi
namespace Mi
open PySem L2
theorem blk_kind {env : Env} {sc : Scope} (hsc : env.scope = sc) (hk : sc.kind = .function) : env.blockKind = .function := by
  unfold Env.blockKind; rw [hsc, hk]; rfl
def isLn (sc : Scope) (line : Nat) : Expr → Bool
  | .Name id pos => sc.names.lookup id == some .local && pos.line == line
  | _ => false
def headLine (ts : List Expr) : Nat := (ts.head?.map (·.pos.line)).getD 0
def parNo (sc : Scope) (ts vs : List Expr) : Bool :=
  !(ts.length == 2 || ts.length == 3) || vs.length != ts.length || !(ts.all (isLn sc (headLine ts))) || vs.all (foldedForSure 8)
theorem star_any {vs : List Expr} (h : vs.all notStar = true) : (vs.any fun | .Starred .. => true | _ => false) = false := by
  induction vs with
  | nil => rfl
  | cons v vs ih =>
    rw [List.all_cons, Bool.and_eq_true] at h
    rw [List.any_cons, ih h.2, Bool.or_false]
    cases v <;> first | rfl | cases h.1
theorem sw_none {ts vs : List Expr} {k k2 : Nat} {p p2 : Pos} {env : Env} {sc : Scope} (hsc : env.scope = sc) (hs : vs.all notStar = true) (h : parNo sc ts vs = true) : swappedStores [.Tuple ts k p] (.Tuple vs k2 p2) env = pure none := by
  have hk : ∀ id, env.kindOf id = sc.names.lookup id := fun id => by unfold Env.kindOf; rw [hsc]
  unfold swappedStores
  simp
  intro q1 q2 q3 q4 q5 q6 x hx hf
  exfalso
  unfold parNo at h
  simp only [Bool.or_eq_true, Bool.not_eq_true', Bool.or_eq_false_iff, beq_eq_false_iff_ne, bne_iff_ne, ne_eq, List.all_eq_true] at h
  rcases h with ((h | h) | h) | h
  · exact h.2 (q1 h.1)
  · exact h q2
  · rw [← Bool.not_eq_true, List.all_eq_true] at h
    apply h
    intro t ht
    have := q5 t ht
    unfold isLn
    cases t with
    | Name id pos =>
      simp only [hk] at this
      simp only [headLine]
      by_cases hb : sc.names.lookup id = some .local ∧ pos.line = (Option.map (fun x => x.pos.line) ts.head?).getD 0
      · simp [hb.1, hb.2]
      · rw [if_neg hb] at this; exact absurd rfl this
    | _ => exact absurd rfl this
  · have := h x hx
    rw [hf] at this; cases this
/-- two names, three names, whose stores are swapped -/
def isPar (sc : Scope) (ts vs : List Expr) : Bool := match ts, vs with
  | [.Name x px, .Name y py], [a, b] => isLn sc px.line (.Name x px) && isLn sc px.line (.Name y py) && decide (x ≠ y) && !(foldedForSure 8 a && foldedForSure 8 b) && !(constantsAlone 8 a && constantsAlone 8 b)
  | [.Name x px, .Name y py, .Name z pz], [a, b, c] => isLn sc px.line (.Name x px) && isLn sc px.line (.Name y py) && isLn sc px.line (.Name z pz) && decide (x ≠ y) && decide (x ≠ z) && decide (y ≠ z) && !(foldedForSure 8 a && foldedForSure 8 b && foldedForSure 8 c) && !(constantsAlone 8 a && constantsAlone 8 b && constantsAlone 8 c)
  | _, _ => false
theorem lns {sc : Scope} {l : Nat} {x : Str} {p : Pos} (h : isLn sc l (.Name x p) = true) : sc.names.lookup x = some .local ∧ p.line = l := by
  unfold isLn at h
  simpa using h
theorem sw_two {x y : Str} {px py p p2 : Pos} {a b : Expr} {k k2 : Nat} {env : Env} {sc : Scope} (hsc : env.scope = sc) (hk : sc.kind = .function) (hs : [a, b].all notStar = true) (h : isPar sc [.Name x px, .Name y py] [a, b] = true) :
    swappedStores [.Tuple [.Name x px, .Name y py] k p] (.Tuple [a, b] k2 p2) env = pure (some [x, y]) := by
  simp only [isPar, Bool.and_eq_true, Bool.not_eq_true', decide_eq_true_eq] at h
  obtain ⟨⟨⟨⟨h1, h2⟩, h3⟩, h4⟩, h5⟩ := h
  have e1 := lns h1
  have e2 := lns h2
  have kx : env.kindOf x = some .local := by unfold Env.kindOf; rw [hsc]; exact e1.1
  have ky : env.kindOf y = some .local := by unfold Env.kindOf; rw [hsc]; exact e2.1
  have hb := blk_kind hsc hk
  have dups : [x, y].eraseDups = [x, y] := by
    simp [List.eraseDups_cons, Ne.symm h3]
  unfold swappedStores
  simp only [star_any hs]
  simp [kx, ky, hb, e2.2, dups, h3, Ne.symm h3, h4, h5, Expr.pos]
  intro hh
  exfalso
  simp only [List.all_cons, Bool.and_eq_true] at hs
  rcases hh with hh | hh
  · cases a <;> first | exact absurd hs.1 Bool.false_ne_true | cases hh
  · cases b <;> first | exact absurd hs.2.1 Bool.false_ne_true | cases hh
theorem sw_three {x y z : Str} {px py pz p p2 : Pos} {a b c : Expr} {k k2 : Nat} {env : Env} {sc : Scope} (hsc : env.scope = sc) (hk : sc.kind = .function) (hs : [a, b, c].all notStar = true) (h : isPar sc [.Name x px, .Name y py, .Name z pz] [a, b, c] = true) :
    swappedStores [.Tuple [.Name x px, .Name y py, .Name z pz] k p] (.Tuple [a, b, c] k2 p2) env = pure (some [x, y, z]) := by
  simp only [isPar, Bool.and_eq_true, Bool.not_eq_true', decide_eq_true_eq] at h
  obtain ⟨⟨⟨⟨⟨⟨⟨h1, h2⟩, h3⟩, h4⟩, h5⟩, h6⟩, h7⟩, h8⟩ := h
  have e1 := lns h1
  have e2 := lns h2
  have e3 := lns h3
  have kx : env.kindOf x = some .local := by unfold Env.kindOf; rw [hsc]; exact e1.1
  have ky : env.kindOf y = some .local := by unfold Env.kindOf; rw [hsc]; exact e2.1
  have kz : env.kindOf z = some .local := by unfold Env.kindOf; rw [hsc]; exact e3.1
  have hb := blk_kind hsc hk
  have dups : [x, y, z].eraseDups = [x, y, z] := by
    simp [List.eraseDups_cons, Ne.symm h4, Ne.symm h5, Ne.symm h6]
  have h7 : foldedForSure 8 a = true → foldedForSure 8 b = true → foldedForSure 8 c = false := by
    intro q1 q2; rw [q1, q2] at h7; simpa using h7
  have h8 : constantsAlone 8 a = true → constantsAlone 8 b = true → constantsAlone 8 c = false := by
    intro q1 q2; rw [q1, q2] at h8; simpa using h8
  unfold swappedStores
  simp only [star_any hs]
  by_cases f : foldedForSure 8 a = true ∧ foldedForSure 8 b = true ∧ foldedForSure 8 c = true
  · rw [h7 f.1 f.2.1] at f; exact absurd f.2.2 Bool.false_ne_true
  · by_cases g : constantsAlone 8 a = true ∧ constantsAlone 8 b = true ∧ constantsAlone 8 c = true
    · rw [h8 g.1 g.2.1] at g; exact absurd g.2.2 Bool.false_ne_true
    · simp [kx, ky, kz, hb, e2.2, e3.2, dups, Expr.pos, f, g]
      intro hh
      exfalso
      simp only [List.all_cons, Bool.and_eq_true] at hs
      rcases hh with hh | hh | hh
      · cases a <;> first | exact absurd hs.1 Bool.false_ne_true | cases hh
      · cases b <;> first | exact absurd hs.2.1 Bool.false_ne_true | cases hh
      · cases c <;> first | exact absurd hs.2.2.1 Bool.false_ne_true | cases hh
end Mi
set_option maxHeartbeats 2000000
namespace Mi
open PySem PySem.Spec PyProof.Rows L2
/-- C(), C an exception class of the program without own __init__ -/
theorem pmk_own0 {X : Cx} {C : Addr} {bmB : List Value} {B newId initId : String} {x : Str} {p pos : Pos} (F : ExcBaseFacts B newId initId bmB) (q : PySem.W.excIn X.K C bmB newId = true) (gC : X.mg x = some (.ref C)) (kC : PySem.W.keepIn X.K (.ref C) = true) (rs : Raises X (.ref C)) (hg : Gl X x)
    (hdb : (x == ("__debug__" : Str)) = false) : L2.PMk X (.Call (.Name x p) [] [] pos) (fun _ H Q => Q (.ref C) none H) := by
  intro pins s σ H Q I h
  refine wpAny_Call_Name_kw (ld_glob I hg gC ?_ hdb)
  refine PySem.W.callWith_K0 I.kIn kC ?_
  obtain ⟨bm, N, nm, qn, bs, hdct, sn, sub, ab, col, dd, k0, k1, k2, k3, k5, mN, hC, hN, hni, T⟩ := exc_obj I.kIn q
  exact wpAny_call_exc_subT F T hC hN hni (fun h' e hm => mk_of I hm rs h (I.hok.gone hm.new)) (Nat.zero_le _)
section
variable {X : Cx} {pins : List (Addr × Obj)} {σ : L2.St} {H : Hp} {s : Shared}
/-- an object that nobody tracks is tracked: an exception -/
theorem Inv_track (I : Inv X pins σ H s) {ea C : Addr} {o : Obj} (J : PySem.W.InstAt s.heap ea o C none) (na : H ea = none) (n0 : X.s_0.heap.get? ea = none) (nL : ea ≠ X.env.locals) (nC : ∀ y c, X.env.cells.lookup y = some c → c ≠ ea) (np : ∀ p ∈ X.pn ++ pins, p.1 ≠ ea) : Inv X pins σ (upd H ea (xHO C ea)) s := by
  have keepN : ∀ {b : Addr} {u : HO}, H b = some u → upd H ea (xHO C ea) b = some u := fun {b u} q => by rw [upd_ne (ne_of_none q na)]; exact q
  refine ⟨I.ok, I.os, I.bare, ⟨I.base.keep, I.base.slot, ?_, I.base.there, ?_, ?_, ?_⟩, I.loc, I.cell, ?_, ?_, ?_, ?_, I.len⟩
  · intro b u q n hx
    have hb : b ≠ ea := by
      rintro rfl
      rw [n0] at q; cases q
    rw [upd_ne hb]
    exact I.base.free b u q n hx
  · exact fun b xs q => keepN (I.base.tups b xs q)
  · exact fun b u v q => keepN (I.base.frzs b u v q)
  · intro b ps q
    obtain ⟨more, e⟩ := I.base.tbls b ps q
    exact ⟨more, keepN e⟩
  · rw [upd_ne (Ne.symm nL)]; exact I.free
  · intro y c e
    rw [upd_ne (nC y c e)]; exact I.freeC y c e
  · intro p hp
    obtain ⟨e, n, r⟩ := I.pin p hp
    exact ⟨e, by rw [upd_ne (np p hp)]; exact n, r⟩
  · intro b u e
    by_cases hb : b = ea
    · subst hb
      rw [upd_same] at e
      cases e
      exact ⟨⟨o, J⟩, ⟨o, J.1⟩, fun h1 h2 ⟨o', j⟩ k => ⟨o', ⟨k _ j.1, j.2, j.3, by have := j.4; cases e : o'.dict <;> rw [e] at this <;> exact this⟩⟩⟩
    · rw [upd_ne hb] at e
      exact (I.hok b u e).stay (fun _ _ _ q => q) (fun _ q => keepN q) fun _ _ q => keepN q
end
/-- what 'try: body; except x as n: m = n' wishes of the body's exception -/
def wKeep (K : PySem.W.Frag) (c : Value) (i j : Nat) (D : Ends) : L2.WX := fun cls d σ H =>
  PySem.W.exmOne K cls c = some true ∧ d = none ∧ ∃ C, cls = .ref C ∧ ∀ ea, H ea = none → D.nx (((σ.set i (some (.ref ea))).set j (some (.ref ea))).set i none) (upd H ea (xHO C ea))
section
variable {X : Cx} {x n m : Str} {c : Value} {i j : Nat} {body : List Stmt} {np kp vp ap hp pos : Pos} {tb : L2.WX → TS}
theorem ps_keep (hs : X.stack = X.env :: X.outer) (hf : X.env.frame = some X.env.locals) (hN : X.N.Nodup) (hi : X.N[i]? = some n) (hj : X.N[j]? = some m) (hil : i < X.N.length) (hln : X.env.kindOf n = some .local) (hlm : X.env.scope.names.lookup m = some .local) (hnd : (n == ("__debug__" : Str)) = false) (hnc : (n == ("__classdict__" : Str)) = false) (hc : Names X x c) (hex : X.ex = [])
    (hb : ∀ (W : L2.WX) (pn : List (Addr × Obj)) (xe : Value → Shared → Prop), L2.Takes (X.tr pn xe) W → PassesOwn (model X.prog X.w) X.A X.env xe → PSs (X.tr pn xe) body (tb W)) :
    PS X (.Try body [.ExceptHandler (some (.Name x np)) (some n) [.Assign [.Name m kp] (.Name n vp) ap] hp] [] [] pos) (fun D σ H => tb (wKeep X.K c i j D) D σ H) := by
  refine ⟨fun pins s σ H D I h => wpAny_Try_except ?_⟩
  have ok := I.ok
  have frm : X.A.frames = some (X.env :: X.outer) := by rw [ok.frames, hs]
  refine wpAny_mono ((hb (wKeep X.K c i j D) (X.pn ++ pins) (fun e s₁ => wpAny (model X.prog X.w) X.A (noteFrame e X.env) (fun _ s₂ => wpAny (model X.prog X.w) X.A (setFlight e none) (fun _ s₃ =>
    wpAny (model X.prog X.w) X.A (handleBy e X.env [.ExceptHandler (some (.Name x np)) (some n) [.Assign [.Name m kp] (.Name n vp) ap] hp]) (SP X pins D) X.xe s₃) X.xe s₂) X.xe s₁) ?_ PassesOwn.looking).run [] s σ H D (I.toTry _) h) ?_ (fun _ _ z => z)
  · -- it is caught
    rintro u s' ⟨ea, B, sI, pins', σ', H', cls, d, rfl, JT, nb, up, sky, na, os, ag, hb1, rfl, C, rfl, hnx⟩
    have J0 : Inv X pins σ' H' sI := JT.ofTry ok
    rw [hs] at sky
    refine Sky.land Zc.steady frm hf sky fun h3 fl3 up3 => ?_
    have J3 : Inv X pins σ' H' { s' with heap := h3 } := J0.landed nb fl3.1 (up.trans up3) os ag
    obtain ⟨oe3, vs3, he3, hz3, hd3⟩ := fl3.there
    have noFr : ea ∉ frs (X.env :: X.outer) := fun hm => by
      obtain ⟨_, o', e', hnf⟩ := fl3.2.2.1.mem hm
      rw [he3] at e'
      cases e'
      exact hnf _ hd3
    have nL : ea ≠ X.env.locals := fun z => noFr (List.mem_filterMap.mpr ⟨X.env, List.mem_cons_self, by rw [hf, z]⟩)
    have nF : ea ∉ X.fs := fun hm => by
      obtain ⟨v, hv, q⟩ := List.mem_filterMap.mp hm
      exact noFr (List.mem_filterMap.mpr ⟨v, List.mem_cons_of_mem _ hv, q⟩)
    have notB : B.get? ea = none := fl3.2.1
    have newI : sI.heap.get? ea = none := by
      cases q : sI.heap.get? ea with
      | none => rfl
      | some o =>
        have := nb ea o q (by rw [hs]; exact noFr)
        rw [notB] at this
        cases this
    have new0 : X.s_0.heap.get? ea = none := by
      cases q : X.s_0.heap.get? ea with
      | none => rfl
      | some o =>
        obtain ⟨o', e'⟩ := J0.base.there ea o q (by rw [hex]; exact List.not_mem_nil)
        rw [newI] at e'
        cases e'
    have nC : ∀ y cc, X.env.cells.lookup y = some cc → cc ≠ ea := by
      rintro y cc e rfl
      obtain ⟨v, hv⟩ := J0.cell y cc e
      obtain ⟨o, ho, _⟩ := hv
      rw [newI] at ho
      cases ho
    have np' : ∀ p ∈ X.pn ++ pins, p.1 ≠ ea := by
      rintro p hp rfl
      have := (J0.pin p hp).1
      rw [newI] at this
      cases this
    have S3 := J3.suite he3 hd3 na nL nF
    refine wpAny_handleBy_cons (codeAny_handlers_test ?_) (by intro q; cases q)
    have LT : PySem.W.Looks (model X.prog X.w) h3 (typeOf (.ref ea)) (.ref C) := fun A Q E s k q => wpAny_typeOf_ref (k _ _ he3) (by rw [hz3.1]; exact q)
    have LM := PySem.W.exm_one (M := model X.prog X.w) J3.kIn LT hb1
    have asks : ∀ {Q E : Value → Shared → Prop}, Q c { s' with heap := h3 } → wpAny (model X.prog X.w) (X.A.mark (some (.ref ea))) (eval (.Name x np) X.env) Q E { s' with heap := h3 } := by
      intro Q E q
      obtain ⟨hg, hdbg, hm | ⟨hm, hv, hnn⟩⟩ := hc
      · exact ld_glob (X := X.suite ea ((ea, oe3) :: (X.pn ++ pins))) S3 hg hm q hdbg
      · exact ld_blt (X := X.suite ea ((ea, oe3) :: (X.pn ++ pins))) S3 hg hm hv q hnn hdbg
    refine asks (LM.here ?_)
    refine codeAny_handlers_suite_as ?_
    refine HandSPX.lands_againZ fl3 fun h4 fl4 up4 => ?_
    have J4 : Inv X pins σ' H' { s' with heap := h4 } := J0.landed nb fl4.1 ((up.trans up3).trans up4) os ag
    obtain ⟨oe4, vs4, he4, hz4, hd4⟩ := fl4.there
    have S4 := J4.suite he4 hd4 na nL nF
    refine store_ok (X := X.suite ea ((ea, oe4) :: (X.pn ++ pins))) (v := .ref ea) S4 hN hi (.inl hln) rfl (fun s5 S5 => ?_) (.inr hln)
    have st : PSs (X.suite ea ((ea, oe4) :: (X.pn ++ pins))) [.Assign [.Name m kp] (.Name n vp) ap] _ := pss_one (ps_set (i := j) hN hj (.inl hlm) (pe_var (i := i) hi (.inl hln) hnd hnc) (by rfl) (.inr hlm))
    refine wpAny_mono (st.run [] s5 _ H' { nx := fun σ6 H6 => σ6 = (σ'.set i (some (.ref ea))).set j (some (.ref ea)) ∧ H6 = H', rt := fun _ _ => False } S5 ⟨.ref ea, by rw [List.getElem?_set_self (by rw [J0.len]; exact hil)], ⟨rfl, rfl⟩⟩) ?_ (fun _ _ z => False.elim z)
    intro f s6 hsp
    cases f with
    | next =>
      obtain ⟨σ6, H6, S6, rfl, rfl⟩ := hsp
      obtain ⟨he6, _⟩ := S6.pin (ea, oe4) (List.mem_append_left _ List.mem_cons_self)
      have I6 : Inv X pins _ H6 s6 := S6.unsuite ok
      have JJ : PySem.W.InstAt s6.heap ea oe4 C none := by
        obtain ⟨oc, od, dt, sl⟩ := oe4
        obtain ⟨z1, z2⟩ := hz4
        dsimp only at z1 z2 hd4
        subst z1 z2 hd4
        exact ⟨he6, rfl, rfl, trivial⟩
      have I7 := Inv_track I6 JJ na new0 nL nC np'
      exact gone_ok I7 hN hi hln fun s7 J7 => ⟨_, _, J7, hnx ea na⟩
    | brk => obtain ⟨_, _, _, z⟩ := hsp; exact z.elim
    | cont => obtain ⟨_, _, _, z⟩ := hsp; exact z.elim
    | ret u => obtain ⟨_, _, _, _, _, z⟩ := hsp; exact z.elim
  · intro f s1 hsp
    cases f with
    | next =>
      obtain ⟨σ', H', JT, q⟩ := hsp
      exact wpAny_execs_nil ⟨σ', H', JT.ofTry ok, q⟩
    | brk => obtain ⟨σ', H', JT, q⟩ := hsp; exact ⟨σ', H', JT.ofTry ok, q⟩
    | cont => obtain ⟨σ', H', JT, q⟩ := hsp; exact ⟨σ', H', JT.ofTry ok, q⟩
    | ret u => obtain ⟨v, σ', H', JT, rr, q⟩ := hsp; exact ⟨v, σ', H', JT.ofTry ok, rr, q⟩
end
end Mi
set_option maxHeartbeats 2000000
namespace Mi
open PySem PySem.Spec PyProof.Rows L2
/-- a clause as the body's exception meets it: its class, its name's slot, what its suite reads -/
structure Cla where
  c : Value
  o : Option Nat
  ts : Addr → Value → Option Addr → TS
def endsO (o : Option Nat) (D : Ends) : Ends := match o with
  | none => D
  | some i => { nx := fun σ' H' => D.nx (σ'.set i none) H', rt := D.rt, bk := fun σ' H' => D.bk (σ'.set i none) H', ct := fun σ' H' => D.ct (σ'.set i none) H' }
def nameV (o : Option Nat) (a : Addr) (σ : L2.St) : L2.St := match o with
  | none => σ
  | some i => σ.set i (some (.ref a))
/-- what the clauses wish of the body's exception -/
def wCla (K : PySem.W.Frag) (Wo : L2.WX) (D : Ends) : List Cla → L2.WX
  | [] => Wo
  | q :: r => fun cls d σ H => ∃ b, PySem.W.exmOne K cls q.c = some b ∧ (b = true → ∀ ea, H ea = none → q.ts ea cls d (endsO q.o D) (nameV q.o ea σ) H) ∧ (b = false → wCla K Wo D r cls d σ H)
def nameO (X : Cx) (o : Option Nat) (n : Option Str) : Prop := match o, n with
  | none, none => True
  | some i, some n => X.N[i]? = some n ∧ X.env.kindOf n = some .local
  | _, _ => False
inductive ClasOk (X : Cx) : List ExceptHandler → List Cla → Prop
  | nil : ClasOk X [] []
  | cons {x : Str} {n : Option Str} {q : Cla} {st : Stmt} {sts : List Stmt} {p p' : Pos} {hds : List ExceptHandler} {l : List Cla} (hc : Names X x q.c) (hn : nameO X q.o n)
      (hsu : ∀ (ea : Addr) (eo : Obj) (cls : Value) (d : Option Addr) (pn : List (Addr × Obj)), Zc cls d eo → (∃ vs, eo.data = .fields vs) → PSs (X.suite ea ((ea, eo) :: pn)) (st :: sts) (q.ts ea cls d)) (r : ClasOk X hds l) :
      ClasOk X (.ExceptHandler (some (.Name x p)) n (st :: sts) p' :: hds) (q :: l)
section
variable {X : Cx} {body : List Stmt} {hd1 : ExceptHandler} {hds : List ExceptHandler} {l : List Cla} {pos : Pos} {tb : L2.WX → TS} {Wo : L2.WX}
theorem ps_clauses (hs : X.stack = X.env :: X.outer) (hf : X.env.frame = some X.env.locals) (hN : X.N.Nodup) (tk : L2.Takes X Wo)
    (hb : ∀ (W : L2.WX) (pn : List (Addr × Obj)) (xe : Value → Shared → Prop), L2.Takes (X.tr pn xe) W → PassesOwn (model X.prog X.w) X.A X.env xe → PSs (X.tr pn xe) body (tb W)) (hh : ClasOk X (hd1 :: hds) l) :
    PS X (.Try body (hd1 :: hds) [] [] pos) (fun D σ H => tb (wCla X.K Wo D l) D σ H) := by
  refine ⟨fun pins s σ H D I h => wpAny_Try_except ?_⟩
  have ok := I.ok
  have frm : X.A.frames = some (X.env :: X.outer) := by rw [ok.frames, hs]
  refine wpAny_mono ((hb (wCla X.K Wo D l) (X.pn ++ pins) (fun e s₁ => wpAny (model X.prog X.w) X.A (noteFrame e X.env) (fun _ s₂ => wpAny (model X.prog X.w) X.A (setFlight e none) (fun _ s₃ =>
    wpAny (model X.prog X.w) X.A (handleBy e X.env (hd1 :: hds)) (SP X pins D) X.xe s₃) X.xe s₂) X.xe s₁) ?_ PassesOwn.looking).run [] s σ H D (I.toTry _) h) ?_ (fun _ _ z => z)
  · rintro u s' ⟨ea, B, sI, pins', σ', H', cls, d, rfl, JT, nb, up, sky, na, os, ag, w⟩
    have J0 : Inv X pins σ' H' sI := JT.ofTry ok
    rw [hs] at sky
    refine Sky.land Zc.steady frm hf sky fun h3 fl3 up3 => ?_
    have J3 : Inv X pins σ' H' { s' with heap := h3 } := J0.landed nb fl3.1 (up.trans up3) os ag
    obtain ⟨oe3, vs3, he3, hz3, hd3⟩ := fl3.there
    have noFr : ea ∉ frs (X.env :: X.outer) := fun hm => by
      obtain ⟨_, o', e', hnf⟩ := fl3.2.2.1.mem hm
      rw [he3] at e'
      cases e'
      exact hnf _ hd3
    have nL : ea ≠ X.env.locals := fun z => noFr (List.mem_filterMap.mpr ⟨X.env, List.mem_cons_self, by rw [hf, z]⟩)
    have nF : ea ∉ X.fs := fun hm => by
      obtain ⟨v, hv, q⟩ := List.mem_filterMap.mp hm
      exact noFr (List.mem_filterMap.mpr ⟨v, List.mem_cons_of_mem _ hv, q⟩)
    have S3 := J3.suite he3 hd3 na nL nF
    have turn : ∀ {hs' : List ExceptHandler} {l' : List Cla}, ClasOk X hs' l' → wCla X.K Wo D l' cls d σ' H' → wpAny (model X.prog X.w) X.A (handleBy (.ref ea) X.env hs') (SP X pins D) X.xe { s' with heap := h3 } := by
      intro hs' l' ck
      induction ck with
      | nil =>
        intro w
        refine wpAny_handleBy_nil ?_
        obtain ⟨_, _, _, oo, fs, T, _, _, eo, _, df, h1, _⟩ := id fl3
        have away : wpAny (model X.prog X.w) X.A (setFlight (.ref ea) X.env.frame) (fun _ s4 => wpAny (model X.prog X.w) X.A (throw (.ref ea) : Sem Flow) (SP X pins D) X.xe s4) X.xe { s' with heap := h3 } := by
          rw [hf]
          refine HandSPX.setFlight_upZ fl3 fun h4 k4 up4 => wpAny_throw (tk _ _ ⟨ea, B, sI, pins, σ', H', cls, d, rfl, J0, nb, (up.trans up3).trans up4, .inr (.inr ?_), na, os, ag, w⟩)
          rw [hs]; exact k4
        unfold PySem.passOn
        refine wpAny_bind (wpAny_field eo df h1 ?_)
        rw [if_neg (by simp)]
        first
          | exact wpAny_bind (wpAny_pure (wpAny_bind away))
          | exact wpAny_bind away
      | @cons x n q st sts p p' hds2 l2 hc hn hsu r ih =>
        intro w
        obtain ⟨b, hb1, yes, no⟩ := w
        refine wpAny_handleBy_cons (codeAny_handlers_test ?_) (by intro q; cases q)
        have LT : PySem.W.Looks (model X.prog X.w) h3 (typeOf (.ref ea)) cls := fun A Q E s k q => wpAny_typeOf_ref (k _ _ he3) (by rw [hz3.1]; exact q)
        have LM := PySem.W.exm_one (M := model X.prog X.w) J3.kIn LT hb1
        have asks : ∀ {Q E : Value → Shared → Prop}, Q q.c { s' with heap := h3 } → wpAny (model X.prog X.w) (X.A.mark (some (.ref ea))) (eval (.Name x p) X.env) Q E { s' with heap := h3 } := by
          intro Q E q
          obtain ⟨hg, hdbg, hm | ⟨hm, hv, hnn⟩⟩ := hc
          · exact ld_glob (X := X.suite ea ((ea, oe3) :: (X.pn ++ pins))) S3 hg hm q hdbg
          · exact ld_blt (X := X.suite ea ((ea, oe3) :: (X.pn ++ pins))) S3 hg hm hv q hnn hdbg
        refine asks (LM.here ?_)
        cases b with
        | false => exact ih (no rfl)
        | true =>
          have ys := yes rfl ea na
          obtain ⟨c, o, ts⟩ := q
          cases o with
          | none =>
            cases n with
            | some _ => exact hn.elim
            | none =>
              refine codeAny_handlers_suite ?_
              refine HandSPX.lands_againZ fl3 fun h4 fl4 up4 => ?_
              have J4 : Inv X pins σ' H' { s' with heap := h4 } := J0.landed nb fl4.1 ((up.trans up3).trans up4) os ag
              obtain ⟨oe4, vs4, he4, hz4, hd4⟩ := fl4.there
              have S4 := J4.suite he4 hd4 na nL nF
              refine wpAny_mono ((hsu ea oe4 cls d (X.pn ++ pins) hz4 ⟨_, hd4⟩).run [] _ _ H' _ S4 ys) ?_ (fun _ _ z => z.elim)
              intro f s6 hsp
              cases f with
              | next => obtain ⟨σ6, H6, S6, q6⟩ := hsp; exact ⟨σ6, H6, S6.unsuite ok, q6⟩
              | brk => obtain ⟨σ6, H6, S6, q6⟩ := hsp; exact ⟨σ6, H6, S6.unsuite ok, q6⟩
              | cont => obtain ⟨σ6, H6, S6, q6⟩ := hsp; exact ⟨σ6, H6, S6.unsuite ok, q6⟩
              | ret u => obtain ⟨v6, σ6, H6, S6, r6, q6⟩ := hsp; exact ⟨v6, σ6, H6, S6.unsuite ok, r6, q6⟩
          | some i =>
            cases n with
            | none => exact hn.elim
            | some n =>
              obtain ⟨hi, hln⟩ := hn
              refine codeAny_handlers_suite_as ?_
              refine HandSPX.lands_againZ fl3 fun h4 fl4 up4 => ?_
              have J4 : Inv X pins σ' H' { s' with heap := h4 } := J0.landed nb fl4.1 ((up.trans up3).trans up4) os ag
              obtain ⟨oe4, vs4, he4, hz4, hd4⟩ := fl4.there
              have S4 := J4.suite he4 hd4 na nL nF
              refine store_ok (X := X.suite ea ((ea, oe4) :: (X.pn ++ pins))) (v := .ref ea) S4 hN hi (.inl hln) rfl (fun s5 S5 => ?_) (.inr hln)
              refine wpAny_mono ((hsu ea oe4 cls d (X.pn ++ pins) hz4 ⟨_, hd4⟩).run [] s5 _ H' _ S5 ys) ?_ (fun _ _ z => z.elim)
              intro f s6 hsp
              cases f with
              | next => obtain ⟨σ6, H6, S6, q6⟩ := hsp; exact gone_ok (S6.unsuite ok) hN hi hln fun s7 J7 => ⟨_, _, J7, q6⟩
              | brk => obtain ⟨σ6, H6, S6, q6⟩ := hsp; exact gone_ok (S6.unsuite ok) hN hi hln fun s7 J7 => ⟨_, _, J7, q6⟩
              | cont => obtain ⟨σ6, H6, S6, q6⟩ := hsp; exact gone_ok (S6.unsuite ok) hN hi hln fun s7 J7 => ⟨_, _, J7, q6⟩
              | ret u => obtain ⟨v6, σ6, H6, S6, r6, q6⟩ := hsp; exact gone_ok (S6.unsuite ok) hN hi hln fun s7 J7 => ⟨_, _, _, J7, r6, q6⟩
    exact turn hh w
  · intro f s1 hsp
    cases f with
    | next =>
      obtain ⟨σ', H', JT, q⟩ := hsp
      exact wpAny_execs_nil ⟨σ', H', JT.ofTry ok, q⟩
    | brk => obtain ⟨σ', H', JT, q⟩ := hsp; exact ⟨σ', H', JT.ofTry ok, q⟩
    | cont => obtain ⟨σ', H', JT, q⟩ := hsp; exact ⟨σ', H', JT.ofTry ok, q⟩
    | ret u => obtain ⟨v, σ', H', JT, rr, q⟩ := hsp; exact ⟨v, σ', H', JT.ofTry ok, rr, q⟩
end
end Mi
namespace Mi
open PySem L2
variable {W : St → WT}
section
variable (nm : Nm) (N : List Str) (tc : Str → Bool)
/-- a name that may be stored -/
def stL (sc : Scope) (x : Str) : Bool := match sc.names.lookup x with
  | some .local => true
  | some .cell => tc x
  | _ => false
def notComp : Expr → Bool
  | .ListComp _ _ _ _ => false
  | .SetComp _ _ _ _ => false
  | .DictComp _ _ _ _ _ => false
  | _ => true
def isLc : Expr → Bool
  | .ListComp _ _ _ _ => true
  | _ => false
/-- stores that stand as they are written -/
def plainSt (sc : Scope) (tg e : Expr) : Bool := match tg, e with
  | .Tuple ts _ _, .Tuple vs _ _ => parNo sc ts vs || isPar sc ts vs
  | _, _ => true
/-- a call of a def that may raise -/
def erX (sc : Scope) : Expr → Option (Nat × List Expr)
  | .Call (.Name x _) es kws _ => if isG sc x = true ∧ x ∈ nm.rx ∧ es.all notStar = true ∧ es.isEmpty = false ∧ kws.isEmpty = true then (nm.fn x).map fun i => (i, es) else none
  | _ => none
def erRaise (er : Expr → Option CE) (sc : Scope) (e c : Option Expr) : CSs := match e, c with
  | some (.Call (.Name x _) [] [] _), none => if isG sc x = true ∧ x ∈ nm.xs then .raise x else .nev
  | some (.Call (.Name x _) [a] [] _), none => if isG sc x = true ∧ notStar2 a = true then (match nm.fx.lookup x, er a with
    | some f, some c => .raiseF x f c
    | _, _ => .nev) else .nev
  | _, _ => .nev
/-- try: f(..); except c as n: m = n.g -/
def erTryF (sc : Scope) (body : List Stmt) (hs : List ExceptHandler) (els fin : List Stmt) : Option (Nat × List Expr × Str × Str × Nat × Nat) := match body, hs, els, fin with
  | [.Expr e _], [.ExceptHandler (some (.Name c _)) (some n) [.Assign [.Name m _] (.Attribute (.Name n2 _) g _) _] _], [], [] =>
    if n2 = n ∧ isG sc c = true ∧ nm.fx.lookup c = some g ∧ sc.names.lookup n = some .local ∧ sc.names.lookup m = some .local ∧ (n == ("__debug__" : Str)) = false ∧ (n == ("__classdict__" : Str)) = false then
      (erX nm sc e).bind fun q => (ixOf N n).bind fun i => (ixOf N m).map fun j => (q.1, q.2, c, g, i, j)
    else none
  | _, _, _, _ => none
/-- try: return f(..); except c as n: m = n -/
def erTry (sc : Scope) (body : List Stmt) (hs : List ExceptHandler) (els fin : List Stmt) : Option (Nat × List Expr × Nat × Nat) := match body, hs, els, fin with
  | [.Return (some e) _], [.ExceptHandler (some (.Name c _)) (some n) [.Assign [.Name m _] (.Name n2 _) _] _], [], [] =>
    if n2 = n ∧ isG sc c = true ∧ c ∈ nm.cat ∧ sc.names.lookup n = some .local ∧ sc.names.lookup m = some .local ∧ (n == ("__debug__" : Str)) = false ∧ (n == ("__classdict__" : Str)) = false then
      (erX nm sc e).bind fun q => (ixOf N n).bind fun i => (ixOf N m).map fun j => (q.1, q.2, i, j)
    else none
  | _, _, _, _ => none
/-- what a clause keeps, of its name -/
def erHE (n : Option Str) : Expr → Option HE
  | .Constant c _ _ => (erC c).bind fun q => match q with
    | .cst d => some (.cst d)
    | _ => none
  | .Attribute (.Name x _) f _ => if n = some x ∧ (x == ("__debug__" : Str)) = false ∧ (x == ("__classdict__" : Str)) = false then some (.fld ((nm.fx.filter fun p => p.2 == f).map (·.1)) f) else none
  | .Tuple [.Constant (.str s) _ _, .Attribute (.Name x _) f _] _ _ => if n = some x ∧ (x == ("__debug__" : Str)) = false ∧ (x == ("__classdict__" : Str)) = false then some (.tupf s ((nm.fx.filter fun p => p.2 == f).map (·.1)) f) else none
  | _ => none
def erHB (sc : Scope) (n : Option Str) : List Stmt → Option HB
  | [.Assign [.Name m _] e _] => if sc.names.lookup m = some .local then (erHE nm n e).bind fun h => (ixOf N m).map fun j => .asg j h else none
  | [.Return (some (.Constant c _ _)) _] => (erC c).bind fun q => match q with
    | .cst d => some (.ret d)
    | _ => none
  | _ => none
def erHd (sc : Scope) : ExceptHandler → Option Hd
  | .ExceptHandler (some (.Name c _)) n b _ => if isG sc c = true then (nm.hd.lookup c).bind fun yes => (erHB nm N sc n b).bind fun h => match n with
    | none => some ⟨yes, none, h⟩
    | some x => if sc.names.lookup x = some .local then (ixOf N x).map fun i => ⟨yes, some i, h⟩ else none
    else none
  | _ => none
def erS1 (erS : Nat → Scope → List Stmt → Option CSs) (n : Nat) (sc : Scope) (sts : List Stmt) : Option CSs := match sts with
    | [] => some .nil
    | st :: rest => match st with
      | .Assign tgs e _ => match tgs with
        | [tg] => match tg with
          | .Subscript o i _ => if notComp e = true ∧ notSlice i = true then (erE nm N n sc e).bind fun ce => (erE nm N n sc o).bind fun co => (erE nm N n sc i).bind fun ci => (erS n sc rest).map fun r => .sub co ci ce r else none
          | .Attribute o f _ => if notComp e = true then (nm.fl.lookup f).bind fun cs => (erE nm N n sc e).bind fun ce => (erE nm N n sc o).bind fun co => (erS n sc rest).map fun r => .sat co cs f ce r else none
          | tg => if nm.xap.contains (fzPos e.pos) = true then (erX nm sc e).bind fun q => (erT N sc tc n tg).bind fun t => (erAll (erE nm N n sc) q.2).bind fun cs => (erS n sc rest).map fun r => .xasg (nm.fzp.contains (fzPos e.pos)) t q.1 (caOf cs) r else
            if plainSt sc tg e = true ∧ (notComp e = true ∨ isLc e = true) then (erT N sc tc n tg).bind fun t => (erE nm N n sc e).bind fun c => (erS n sc rest).map fun r => .asg t c r else none
        | _ => none
      | .AugAssign tg op e _ => match tg with
        | .Name x _ => if stL tc sc x = true then (ixOf N x).bind fun i => (erE nm N n sc e).bind fun c => (erS n sc rest).map fun r => .aug i op c r else none
        | _ => none
      | .Expr e _ => match erX nm sc e with
        | some q => (erAll (erE nm N n sc) q.2).bind fun cs => (erS n sc rest).map fun r => .xexp q.1 (caOf cs) r
        | none => if notComp e = true then (erE nm N n sc e).bind fun c => (erS n sc rest).map fun r => .exp c r else none
      | .Raise e c _ => if rest.isEmpty = true then some (erRaise nm (erE nm N n sc) sc e c) else none
      | .Try body hs els fin _ => match erTryF nm N sc body hs els fin with
        | some q => (erAll (erE nm N n sc) q.2.1).bind fun cs => (erS n sc rest).map fun r => .tryF q.1 (caOf cs) q.2.2.1 q.2.2.2.1 q.2.2.2.2.1 q.2.2.2.2.2 r
        | none => match erTry nm N sc body hs els fin with
          | some q => (erAll (erE nm N n sc) q.2.1).bind fun cs => (erS n sc rest).map fun r => .tryR q.1 (caOf cs) q.2.2.1 q.2.2.2 nm.xs r
          | none => if els.isEmpty = true ∧ fin.isEmpty = true ∧ hs.isEmpty = false then (erS n sc body).bind fun b => (allSome (hs.map (erHd nm N sc))).bind fun hd => (erS n sc rest).map fun r => .tryM b nm.held hd r else none
      | .Return v _ => match v with
        | some e => if nm.xap.contains (fzPos e.pos) = true then (erX nm sc e).bind fun q => (erAll (erE nm N n sc) q.2).map fun cs => .xret (nm.fzp.contains (fzPos e.pos)) q.1 (caOf cs) else (erE nm N n sc e).map .ret
        | none => some (.ret (.cst .non))
      | .If c a b _ => (erE nm N n sc c).bind fun c => (erS n sc a).bind fun a => (erS n sc b).bind fun b => (erS n sc rest).map fun r => .ifs c a b r
      | .For tg it body els _ => if els.isEmpty = true then (erT N sc tc n tg).bind fun t => (erI (erE nm N n sc) nm sc tg it).bind fun i => (erS n sc body).bind fun b => (erS n sc rest).map fun r => .for_ t i b r else none
      | .While c body els _ => if els.isEmpty = true then (erE nm N n sc c).bind fun c => (erS n sc body).bind fun b => (erS n sc rest).map fun r => .whl c b r else none
      | .Pass _ => erS n sc rest
      | .Break _ => some .brk
      | .Continue _ => some .cont
      | _ => none
def fzsL (sts : List Stmt) : List Nat := match sts with
  | [] => []
  | st :: _ => (nm.fzs.filter fun p => p.1 == fzPos st.pos).map (·.2)
def fzvs : List Nat → CSs → CSs
  | [], c => c
  | i :: r, c => .fzv i (fzvs r c)
/-- what is not known is never reached -/
def erS : Nat → Scope → List Stmt → Option CSs
  | 0, _, _ => none
  | n + 1, sc, sts => some (fzvs (fzsL nm sts) ((erS1 nm N tc (fun _ => erS n) n sc sts).getD .nev))
theorem erS_of {n : Nat} {sc : Scope} {sts : List Stmt} {c : CSs} (h : erS nm N tc (n + 1) sc sts = some c) : ∃ is c', c = fzvs is c' ∧ (c' = .nev ∨ erS1 nm N tc (fun _ => erS nm N tc n) n sc sts = some c') := by
  simp only [erS] at h
  cases q : erS1 nm N tc (fun _ => erS nm N tc n) n sc sts with
  | none => rw [q] at h; cases h; exact ⟨_, .nev, rfl, .inl rfl⟩
  | some c' => rw [q] at h; cases h; exact ⟨_, c', rfl, .inr rfl⟩
end
def FlOk (K : PySem.W.Frag) (W : St → WT) (ι : List Addr) (H : Hp) (D : Ends) (fl : Fl) (σ : St) : Prop := match fl with
  | .nx => D.nx σ H
  | .brk => D.bk σ H
  | .ct => D.ct σ H
  | .ret d => ∀ v, DR K ι H d v → D.rt v H
  | .xc x => ∀ o, XF K ι H x.fld o → W σ x.cls o H
def ResS (K : PySem.W.Frag) (W : St → WT) (ι : List Addr) (H : Hp) (r : R (Fl × Lcs)) (D : Ends) : Prop := match r with
  | .ok p S' => ∀ ι' H' σ', ι <+: ι' → Xt H H' → Sok K ι' H' S' → Lok K ι' H' p.2 σ' → FlOk K W ι' H' D p.1 σ'
  | _ => False
def TSc (G : Gv) (K : PySem.W.Frag) (W : St → WT) (c : CSs) : TS := fun D σ H => ∃ ι S L, Sok K ι H S ∧ Lok K ι H L σ ∧ ResS K W ι H (exS G c L S) D
theorem ResS.step {α : Type} {K : PySem.W.Frag} {ι : List Addr} {H : Hp} {r : R α} {f : α → Store → R (Fl × Lcs)} {D : Ends} (h : ResS K W ι H (r.bind f) D) : ∃ d S1, r = .ok d S1 ∧ ResS K W ι H (f d S1) D := by
  cases r with
  | ok d S' => exact ⟨d, S', rfl, h⟩
  | exc _ _ => exact h.elim
  | bad => exact h.elim
theorem ResS.mono {K : PySem.W.Frag} {ι ι1 : List Addr} {H H1 : Hp} {r : R (Fl × Lcs)} {D : Ends} (h : ResS K W ι H r D) (p : ι <+: ι1) (x : Xt H H1) : ResS K W ι1 H1 r D := by
  cases r with
  | ok d S' => exact fun ι' H' v a b c e => h ι' H' v (p.trans a) (x.trans b) c e
  | exc _ _ => exact h
  | bad => exact h
theorem ofO_resS {α : Type} {o : Option α} {S : Store} {K : PySem.W.Frag} {ι : List Addr} {H : Hp} {f : α → Store → R (Fl × Lcs)} {D : Ends} (h : ResS K W ι H ((ofO o S).bind f) D) : ∃ a, o = some a ∧ ResS K W ι H (f a S) D := by
  cases o with
  | some a => exact ⟨a, rfl, h⟩
  | none => exact h.elim
theorem ifB_resS {K : PySem.W.Frag} {ι : List Addr} {H : Hp} {d : D} {x y : R (Fl × Lcs)} {f : Fl × Lcs → Store → R (Fl × Lcs)} {D : Ends} (h : ResS K W ι H ((ifB d x y).bind f) D) : ∃ b, d = .bl b ∧ ResS K W ι H ((if b = true then x else y).bind f) D := by
  cases d with
  | bl b => exact ⟨b, rfl, h⟩
  | _ => exact h.elim
section
variable {G : Gv} {X : Cx}
/-- behind a part that may leave: what the rest wants -/
theorem ResS.rest {K : PySem.W.Frag} {ι : List Addr} {H : Hp} {q : R (Fl × Lcs)} {r : CSs} {D : Ends} (h : ResS K W ι H (q.bind fun p S2 => match p.1 with
    | .nx => exS G r p.2 S2
    | _ => .ok p S2) D) : ResS K W ι H q { D with nx := TSc G K W r D } := by
  cases q with
  | bad => exact h.elim
  | exc _ _ => exact h.elim
  | ok p S' =>
    obtain ⟨fl, L'⟩ := p
    intro ι' H' σ' pp xx so lo
    cases fl with
    | nx => exact ⟨ι', S', L', so, lo, ResS.mono h pp xx⟩
    | brk => exact h ι' H' σ' pp xx so lo
    | ct => exact h ι' H' σ' pp xx so lo
    | ret d => exact h ι' H' σ' pp xx so lo
    | xc x => exact h ι' H' σ' pp xx so lo
theorem res_nx {K : PySem.W.Frag} {ι : List Addr} {H : Hp} {S : Store} {L : Lcs} {σ : St} {D : Ends} (so : Sok K ι H S) (lo : Lok K ι H L σ) (h : ResS K W ι H (.ok (.nx, L) S) D) : D.nx σ H := h ι H σ (List.prefix_refl ι) (Xt.refl H) so lo
noncomputable def bodyF (G : Gv) (t : CT) (b : CSs) : D → Lcs → Store → R (Fl × Lcs) := fun d L1 S2 => (ofO (asgT t d S2 L1) S2).bind fun L2 S3 => exS G b L2 S3
theorem for_go {t : CT} {ci : CI} {b r : CSs} {D : Ends} {σ : St} {H : Hp} (h : TSc G X.K W (.for_ t ci b r) D σ H) : tSeq (tFor (TIc G X.K ci) (TGc X.K t) (TSc G X.K W b)) (TSc G X.K W r) D σ H := by
  obtain ⟨ι, S, L, so, lo, res⟩ := h
  have res : ResS X.K W ι H ((evI G ci L S).bind fun q S1 => (forLoop (bodyF G t b) q.2 q.1 L S1).bind fun p S2 => match p.1 with
    | .nx => exS G r p.2 S2
    | _ => .ok p S2) D := res
  obtain ⟨q, S1, e1, res⟩ := ResS.step res
  obtain ⟨items, gd⟩ := q
  refine ⟨ι, S, L, so, lo, ?_⟩
  rw [e1]
  refine fun ι1 H1 J p1 x1 so1 wk => ?_
  have lo1 := lo.mono p1 x1
  have res := ResS.rest (res.mono p1 x1)
  have res : ResS X.K W ι1 H1 (forLoop (bodyF G t b) gd items L S1) { D with nx := TSc G X.K W r D } := res
  refine ⟨fun i m σ H' => m = items.length - i ∧ i ≤ items.length ∧ ∃ ι' S' L', ι1 <+: ι' ∧ Xt H1 H' ∧ Sok X.K ι' H' S' ∧ Lok X.K ι' H' L' σ ∧ ResS X.K W ι' H' (forLoop (bodyF G t b) gd (items.drop i) L' S') { D with nx := TSc G X.K W r D },
    ⟨items.length, by simp, Nat.zero_le _, ι1, S1, L, List.prefix_refl _, Xt.refl _, so1, lo1, by rw [List.drop_zero]; exact res⟩, ?_⟩
  rintro i m σ' H' ⟨rfl, hle, ι', S', L', pw, xw, sw, lw, rw'⟩
  have wkr := wk.run ι' H' S' i pw xw sw
  by_cases hlt : i < items.length
  · have hd : items.drop i = items[i] :: items.drop (i + 1) := List.drop_eq_getElem_cons hlt
    rw [hd] at rw'
    simp only [forLoop] at rw'
    by_cases hgd : Gok gd S'
    · rw [if_pos hgd] at rw'
      obtain ⟨hgo, hy⟩ := (wkr hgd).2 items[i] (List.getElem?_eq_getElem hlt)
      refine .inr ⟨hgo, fun σ3 H3 => ∃ ι3 S3 L3, ι1 <+: ι3 ∧ Xt H1 H3 ∧ Sok X.K ι3 H3 S3 ∧ Lok X.K ι3 H3 L3 σ3 ∧ ResS X.K W ι3 H3 (forLoop (bodyF G t b) gd (items.drop (i + 1)) L3 S3) { D with nx := TSc G X.K W r D },
        fun σ3 H3 ⟨ι3, S3, L3, a1, a2, a3, a4, a5⟩ => ⟨items.length - (i + 1), by omega, rfl, hlt, ι3, S3, L3, a1, a2, a3, a4, a5⟩, fun x H2 y => ?_⟩
      obtain ⟨x2, s2, r2⟩ := hy x H2 y
      have rw2 := rw'.mono (List.prefix_refl ι') x2
      have l2 := lw.mono (List.prefix_refl _) x2
      obtain ⟨pf, Sf, ef, rw2⟩ := ResS.step rw2
      have ef : ((ofO (asgT t items[i] S' L') S').bind fun L2 S3 => exS G b L2 S3) = .ok pf Sf := ef
      cases ea : asgT t items[i] S' L' with
      | none => rw [ea] at ef; cases ef
      | some L2 =>
        rw [ea] at ef
        have ef : exS G b L2 S' = .ok pf Sf := ef
        refine ⟨ι', S', L', items[i], L2, s2, l2, r2, ea, fun σ2 lo2 sm => ⟨ι', S', L2, s2, lo2, ?_⟩⟩
        rw [ef]
        obtain ⟨fl, Lf⟩ := pf
        intro ι3 H3 σ3 p3 x3 so3 lo3
        cases fl with
        | nx => exact ⟨ι3, Sf, Lf, pw.trans p3, xw.trans (x2.trans x3), so3, lo3, ResS.mono rw2 p3 x3⟩
        | ct => exact ⟨ι3, Sf, Lf, pw.trans p3, xw.trans (x2.trans x3), so3, lo3, ResS.mono rw2 p3 x3⟩
        | brk => exact rw2 ι3 H3 σ3 p3 x3 so3 lo3
        | ret d => exact rw2 ι3 H3 σ3 p3 x3 so3 lo3
        | xc x => exact rw2 ι3 H3 σ3 p3 x3 so3 lo3
    · rw [if_neg hgd] at rw'
      exact rw'.elim
  · have e : i = items.length := by omega
    subst e
    rw [List.drop_length] at rw'
    simp only [forLoop] at rw'
    by_cases hgd : Gok gd S'
    · rw [if_pos hgd] at rw'
      exact .inl ⟨(wkr hgd).1 (Nat.le_refl _), res_nx sw lw rw'⟩
    · rw [if_neg hgd] at rw'
      exact rw'.elim
noncomputable def whF (G : Gv) (c : CE) (b : CSs) : Turn := fun L1 S1 => (evE G c L1 S1).bind fun x S2 => ifB x ((exS G b L1 S2).bind fun p S3 => match p.1 with
  | .nx => .ok (true, .nx, p.2) S3
  | .ct => .ok (true, .nx, p.2) S3
  | .brk => .ok (false, .nx, p.2) S3
  | .ret v => .ok (false, .ret v, p.2) S3
  | .xc x => .ok (false, .xc x, p.2) S3) (.ok (false, .nx, L1) S2)
theorem wh_some {f : Turn} {L : Lcs} {S : Store} (h : wh f L S ≠ .bad) : ∃ n, whN f n L S = some (wh f L S) := by
  unfold wh at h ⊢
  split at h
  · rename_i hx
    refine ⟨hx.choose, ?_⟩
    rw [dif_pos hx]
    exact (Classical.choose_spec hx).choose_spec
  · exact absurd rfl h
theorem wh_go {c : CE} {b r : CSs} {D : Ends} {σ : St} {H : Hp} (h : TSc G X.K W (.whl c b r) D σ H) : tSeq (tWhile (TTc G X.K c) (TSc G X.K W b)) (TSc G X.K W r) D σ H := by
  obtain ⟨ι, S, L, so, lo, res⟩ := h
  have res : ResS X.K W ι H ((wh (whF G c b) L S).bind fun p S2 => match p.1 with
    | .nx => exS G r p.2 S2
    | _ => .ok p S2) D := res
  have res := ResS.rest res
  obtain ⟨n, hn⟩ := wh_some (f := whF G c b) (L := L) (S := S) (by intro e; rw [e] at res; exact res.elim)
  refine ⟨fun m σ H' => ∃ ι' S' L' q, ι <+: ι' ∧ Xt H H' ∧ Sok X.K ι' H' S' ∧ Lok X.K ι' H' L' σ ∧ whN (whF G c b) m L' S' = some q ∧ ResS X.K W ι' H' q { D with nx := TSc G X.K W r D }, ⟨n, ι, S, L, _, List.prefix_refl _, Xt.refl _, so, lo, hn, res⟩, ?_⟩
  rintro m σ' H' ⟨ι', S', L', q, pw, xw, sw, lw, hq, rq⟩
  cases m with
  | zero => cases hq
  | succ m =>
    simp only [whN] at hq
    have def_ : whF G c b L' S' = (evE G c L' S').bind fun x S2 => ifB x ((exS G b L' S2).bind fun p S3 => match p.1 with
      | .nx => .ok (true, .nx, p.2) S3
      | .ct => .ok (true, .nx, p.2) S3
      | .brk => .ok (false, .nx, p.2) S3
      | .ret v => .ok (false, .ret v, p.2) S3
      | .xc x => .ok (false, .xc x, p.2) S3) (.ok (false, .nx, L') S2) := rfl
    cases ec : evE G c L' S' with
    | bad => rw [def_, ec] at hq; cases hq; exact rq.elim
    | exc _ _ => rw [def_, ec] at hq; cases hq; exact rq.elim
    | ok x S2 =>
      rw [ec, R.bind_ok] at def_
      cases x with
      | bl bb =>
        rw [ifB_bl] at def_
        refine TTc.of sw lw ec fun ι2 H2 p2 x2 so2 => ?_
        cases bb with
        | false =>
          rw [if_neg Bool.false_ne_true] at def_ ⊢
          rw [def_] at hq
          cases hq
          exact rq ι2 H2 σ' p2 x2 so2 (lw.mono p2 x2)
        | true =>
          rw [if_pos rfl] at def_ ⊢
          refine ⟨fun σ3 H3 => ∃ ι3 S3 L3 q3, ι <+: ι3 ∧ Xt H H3 ∧ Sok X.K ι3 H3 S3 ∧ Lok X.K ι3 H3 L3 σ3 ∧ whN (whF G c b) m L3 S3 = some q3 ∧ ResS X.K W ι3 H3 q3 { D with nx := TSc G X.K W r D },
            fun σ3 H3 h => ⟨m, Nat.lt_succ_self m, h⟩, ι2, S2, L', so2, lw.mono p2 x2, ?_⟩
          cases eb : exS G b L' S2 with
          | bad => rw [eb, R.bind_bad] at def_; rw [def_] at hq; cases hq; exact rq.elim
          | exc _ _ => rw [eb, R.bind_exc] at def_; rw [def_] at hq; cases hq; exact rq.elim
          | ok pf S3 =>
            rw [eb, R.bind_ok] at def_
            obtain ⟨fl, Lf⟩ := pf
            intro ι3 H3 σ3 p3 x3 so3 lo3
            have rq3 := rq.mono (p2.trans p3) (x2.trans x3)
            cases fl with
            | nx =>
              rw [def_] at hq
              exact ⟨ι3, S3, Lf, q, pw.trans (p2.trans p3), xw.trans (x2.trans x3), so3, lo3, hq, rq3⟩
            | ct =>
              rw [def_] at hq
              exact ⟨ι3, S3, Lf, q, pw.trans (p2.trans p3), xw.trans (x2.trans x3), so3, lo3, hq, rq3⟩
            | brk =>
              rw [def_] at hq
              cases hq
              exact rq3 ι3 H3 σ3 (List.prefix_refl _) (Xt.refl _) so3 lo3
            | ret d =>
              rw [def_] at hq
              cases hq
              exact rq3 ι3 H3 σ3 (List.prefix_refl _) (Xt.refl _) so3 lo3
            | xc x =>
              rw [def_] at hq
              cases hq
              exact rq3 ι3 H3 σ3 (List.prefix_refl _) (Xt.refl _) so3 lo3
      | _ => rw [def_] at hq; cases hq; exact rq.elim
/-- what stands in a name becomes a value -/
theorem pss_fzv {sts : List Stmt} {i : Nat} {c : CSs} (h : PSs X sts (TSc G X.K W c)) : PSs X sts (TSc G X.K W (.fzv i c)) := by
  refine ⟨fun pins s σ H D I ⟨ι, S, L, so, lo, res⟩ => ?_⟩
  have go : ∀ {n : Nat} {a : Addr} {cl : Cell} {u : HO} {d : Mi.D}, L[i]? = some (some (.ref n)) → ι[n]? = some a → S[n]? = some cl → cl.mu = true → H a = some u → Mut (some u) → (∀ od ι' H', ι <+: ι' → Xt H H' → H' a = some (.frz od u) → DR X.K ι' H' d (.ref a)) → σ[i]? = some (some (.ref a)) → ResS X.K W ι H (exS G c (L.set i (some d)) (S.set n .ded)) D →
      wpAny (model X.prog X.w) X.A (execs sts X.env) (SP X pins D) X.xe s := by
    intro n a cl u d hi ea hc mu e m dr ev res
    obtain ⟨od, I2⟩ := I.lock e m
    obtain ⟨so2, x⟩ := so.put (o := .frz od u) (c' := .ded) ea hc mu fun x => trivial
    refine h.run pins s σ _ D I2 ⟨ι, _, _, so2, ?_, ResS.mono res (List.prefix_refl ι) x⟩
    have l2 := (lo.mono (List.prefix_refl ι) x).set i (dr od ι _ (List.prefix_refl ι) x upd_same)
    have es : σ.set i (some (.ref a)) = σ := by
      obtain ⟨hl, e2⟩ := List.getElem?_eq_some_iff.mp ev
      rw [← e2, List.set_getElem_self]
    rw [es] at l2
    exact l2
  simp only [exS] at res
  split at res
  · rename_i n hi
    obtain ⟨v, ev, a, ea, rfl⟩ := lo.2 i _ hi
    split at res
    · rename_i ds hc
      obtain ⟨vs, e, dr⟩ := so.ok n a _ ea hc
      exact go (d := .pl ds) hi ea hc rfl e trivial (fun od ι' H' p x e2 => ⟨a, vs, rfl, ⟨od, e2⟩, dr.mono p x⟩) ev res
    · rename_i ds hc
      obtain ⟨vs, e, ek, dr⟩ := so.ok n a _ ea hc
      exact go (d := .pd (ds.map (·.1)) (ds.map (·.2))) hi ea hc rfl e trivial (fun od ι' H' p x e2 => ⟨a, od, vs, rfl, e2, ek.symm, dr.mono p x⟩) ev res
    · rename_i ds hc
      obtain ⟨vs, e, ek, dr⟩ := so.ok n a _ ea hc
      exact go (d := .pt (ds.map (·.1)) (ds.map (·.2))) hi ea hc rfl e trivial (fun od ι' H' p x e2 => ⟨a, od, vs, rfl, e2, ek.symm, dr.mono p x⟩) ev res
    · exact res.elim
  · exact res.elim
theorem pss_fzvs {sts : List Stmt} {c : CSs} (h : PSs X sts (TSc G X.K W c)) : ∀ is : List Nat, PSs X sts (TSc G X.K W (fzvs is c))
  | [] => h
  | i :: is => pss_fzv (pss_fzvs h is)
/-- what is new in a name becomes a value, ahead of the rest -/
theorem pss_lk {sts : List Stmt} {t : TS} (h : PSs X sts t) : PSs X sts (fun D σ H => ∃ as, Lkb as H ∧ ∀ H2, LkTo as H H2 → t D σ H2) := by
  refine ⟨fun pins s σ H D I ⟨as, lk, q⟩ => ?_⟩
  obtain ⟨H2, L, I2⟩ := lock_all as I lk
  exact h.run pins s σ H2 D I2 (q H2 L)
end
end Mi
namespace Mi
open PySem L2
variable {W : St → WT}
section
variable {nm : Nm} {N : List Str} {G : Gv} {k : Nat} {X : Cx} {tc : Str → Bool}
theorem sw_plain {e tg : Expr} {line : Nat} {env : Env} (h : notComp e = true) : swapsWith e (some tg) line env = pure false := by
  unfold swapsWith
  cases e <;> first | rfl | cases h
theorem sw_drop {e : Expr} {line : Nat} {env : Env} (h : notComp e = true) : swapsWith e none line env = pure false := by
  unfold swapsWith
  cases e <;> first | rfl | cases h
theorem sw_notName {e tg : Expr} {line : Nat} {env : Env} (h : notComp e = true ∨ isLc e = true) (ht : ∀ x p, tg ≠ .Name x p) : swapsWith e (some tg) line env = pure false := by
  rcases h with h | h
  · exact sw_plain h
  · unfold swapsWith
    cases e <;> first
      | (cases tg <;> first | rfl | exact absurd rfl (ht _ _))
      | cases h
def swB (sc scope : Scope) (x : Str) (pline eline : Nat) : Bool := sc.names.lookup x == some .local && pline == eline && !(scope.names.any fun (n, k) => n == x && (k == .local || k == .cell))
theorem sw_name {elt : Expr} {gs : List Comprehension} {scope sc : Scope} {pos py : Pos} {x : Str} {l : Nat} {env : Env} (hsc : env.scope = sc) (hk : sc.kind = .function) : swapsWith (.ListComp elt gs scope pos) (some (.Name x py)) l env = pure (swB sc scope x py.line pos.line) := by
  have hb := blk_kind hsc hk
  have kx : env.kindOf x = sc.names.lookup x := by unfold Env.kindOf; rw [hsc]
  unfold swapsWith swB
  simp only [hb, kx, Expr.pos]
  rfl
theorem each1 {tg : Expr} {env : Env} (h : notStar tg = true) : (assignEach [tg] env).map (·.2) = [assign tg env] := by
  cases tg <;> first | rfl | cases h
/-- target = e, the stores as they are written -/
theorem asg_plain {tg e : Expr} {t : CT} {c : CE} {p : Pos} {rest : List Stmt} {r : CSs} (he : PE X e (TEc G X.K c)) (hg : PG X tg (TGc X.K t)) (hst : notStar tg = true) (hs : swapsWith e (some tg) p.line X.env = pure false) (hw : swappedStores [tg] e X.env = pure none) (hr : PSs X rest (TSc G X.K W r)) : PSs X (.Assign [tg] e p :: rest) (TSc G X.K W (.asg t c r)) := by
  refine (pss_cons (ps_asg he hg hs hw (each1 hst)) hr).imp fun D σ H ⟨ι, S, L, so, lo, res⟩ => ?_
  obtain ⟨d, S1, e1, res⟩ := ResS.step res
  obtain ⟨L1, a1, res⟩ := ofO_resS res
  refine TEc.of so lo e1 fun ι1 H1 v p1 x1 so1 r1 => ?_
  exact ⟨ι1, S1, L, d, L1, so1, lo.mono p1 x1, r1, a1, fun σ' lo' _ => ⟨ι1, S1, L1, so1, lo', res.mono p1 x1⟩⟩
theorem asg_lc {tg it elt : Expr} {ifs : List Expr} {scope : Scope} {x : Str} {py pos p : Pos} {i : Nat} {t : CT} {ci : CI} {cc ce : CE} {sc : Scope} {rest : List Stmt} {r : CSs} (hsc : X.env.scope = sc) (g : Gd nm N G k X) (P : LcP X G N elt tg it ifs scope t ci cc ce)
    (hx : sc.names.lookup x = some .local) (hi : ixOf N x = some i) (hsw : swapsWith (.ListComp elt [⟨tg, it, ifs, 0⟩] scope pos) (some (.Name x py)) p.line X.env = pure true) (hr : PSs X rest (TSc G X.K W r)) :
    PSs X (.Assign [.Name x py] (.ListComp elt [⟨tg, it, ifs, 0⟩] scope pos) p :: rest) (TSc G X.K W (.asg (.nm i) (.lc ((ownOf N scope).map (·.2)) t ci cc ce) r)) := by
  refine (pss_cons (ps_setLc g.cg.calm (by rw [g.n]; exact g.nd) (by rw [g.n]; exact ixOf_get hi) (by rw [hsc]; exact hx) hsw P.hi P.ok P.hg P.ht P.he (fold_of P.hns)) hr).imp fun D σ H ⟨ι, S, L, so, lo, res⟩ => ?_
  change tLc _ _ _ _ _ σ H (fun x H1 => gName i x σ H1 (TSc G X.K W r D))
  refine lc_go P.sub ?_
  obtain ⟨d, S1, e1, res⟩ := ResS.step res
  obtain ⟨L1, a1, res⟩ := ofO_resS res
  refine TEc.of so lo e1 fun ι1 H1 v p1 x1 so1 r1 => ?_
  simp only [asgT] at a1
  split at a1
  · cases a1
    exact ⟨ι1, S1, _, so1, (lo.mono p1 x1).set i r1, res.mono p1 x1⟩
  · cases a1
theorem asg_lcF {tg it elt : Expr} {ifs : List Expr} {scope : Scope} {x : Str} {py pos p : Pos} {i : Nat} {t : CT} {ci : CI} {cc ce : CE} {sc : Scope} {rest : List Stmt} {r : CSs} (hsc : X.env.scope = sc) (g : Gd nm N G k X) (P : LcP X G N elt tg it ifs scope t ci cc ce)
    (hx : sc.names.lookup x = some .local) (hi : ixOf N x = some i) (hsw : swapsWith (.ListComp elt [⟨tg, it, ifs, 0⟩] scope pos) (some (.Name x py)) p.line X.env = pure true) (hr : PSs X rest (TSc G X.K W r)) :
    PSs X (.Assign [.Name x py] (.ListComp elt [⟨tg, it, ifs, 0⟩] scope pos) p :: rest) (TSc G X.K W (.asg (.nm i) (.fz (.lc ((ownOf N scope).map (·.2)) t ci cc ce)) r)) := by
  refine (pss_cons (ps_setLc g.cg.calm (by rw [g.n]; exact g.nd) (by rw [g.n]; exact ixOf_get hi) (by rw [hsc]; exact hx) hsw P.hi P.ok P.hg P.ht P.he (fold_of P.hns)) (pss_lk hr)).imp fun D σ H ⟨ι, S, L, so, lo, res⟩ => ?_
  change tLc _ _ _ _ _ σ H (fun x H1 => gName i x σ H1 (fun σ' H1 => ∃ as, Lkb as H1 ∧ ∀ H2, LkTo as H1 H2 → TSc G X.K W r D σ' H2))
  refine lc_go P.sub ?_
  obtain ⟨d, S1, e1, res⟩ := ResS.step res
  obtain ⟨L1, a1, res⟩ := ofO_resS res
  have key : Res X.K ι H (evE G (.fz (.lc ((ownOf N scope).map (·.2)) t ci cc ce)) L S) (fun v H1 => TSc G X.K W r D (σ.set i (some v)) H1) := by
    rw [e1]
    intro ι1 H1 v p1 x1 so1 r1
    simp only [asgT] at a1
    split at a1
    · cases a1
      exact ⟨ι1, S1, _, so1, (lo.mono p1 x1).set i r1, res.mono p1 x1⟩
    · cases a1
  exact ⟨ι, S, L, so, lo, fz_res so key⟩
theorem evA_two {a b : CE} {L : Lcs} {S S' : Store} {ds : List D} (h : evA G (caOf [a, b]) L S = .ok ds S') : ∃ d1 d2, ds = [d1, d2] := by
  have h : ((evE G a L S).bind fun d S1 => ((evE G b L S1).bind fun d S1 => (R.ok [] S1).bind fun ds S2 => .ok (d :: ds) S2).bind fun ds S2 => .ok (d :: ds) S2) = .ok ds S' := h
  cases e1 : evE G a L S with
  | bad => rw [e1] at h; cases h
  | exc _ _ => rw [e1] at h; cases h
  | ok d1 S1 =>
    rw [e1, R.bind_ok] at h
    cases e2 : evE G b L S1 with
    | bad => rw [e2] at h; cases h
    | exc _ _ => rw [e2] at h; cases h
    | ok d2 S2 =>
      rw [e2, R.bind_ok, R.bind_ok, R.bind_ok] at h
      cases h
      exact ⟨d1, d2, rfl⟩
theorem evA_three {a b c : CE} {L : Lcs} {S S' : Store} {ds : List D} (h : evA G (caOf [a, b, c]) L S = .ok ds S') : ∃ d1 d2 d3, ds = [d1, d2, d3] := by
  have h : ((evE G a L S).bind fun d S1 => (evA G (caOf [b, c]) L S1).bind fun ds S2 => .ok (d :: ds) S2) = .ok ds S' := h
  cases e1 : evE G a L S with
  | bad => rw [e1] at h; cases h
  | exc _ _ => rw [e1] at h; cases h
  | ok d1 S1 =>
    rw [e1, R.bind_ok] at h
    cases e2 : evA G (caOf [b, c]) L S1 with
    | bad => rw [e2] at h; cases h
    | exc _ _ => rw [e2] at h; cases h
    | ok ds2 S2 =>
      rw [e2, R.bind_ok] at h
      cases h
      obtain ⟨d2, d3, rfl⟩ := evA_two e2
      exact ⟨d1, d2, d3, rfl⟩
theorem erT_two {sc : Scope} {n : Nat} {x y : Str} {px py : Pos} {t : CT} {kk : Nat} {tp : Pos} (hx : sc.names.lookup x = some .local) (hy : sc.names.lookup y = some .local) (h : erT N sc tc n (.Tuple [.Name x px, .Name y py] kk tp) = some t) : ∃ i j, ixOf N x = some i ∧ ixOf N y = some j ∧ t = .tp [.nm i, .nm j] := by
  cases n with
  | zero => cases h
  | succ n =>
    simp only [erT] at h
    obtain ⟨ts, hts, rfl⟩ := Option.map_eq_some_iff.mp h
    obtain ⟨t1, r1, h1, h2, rfl⟩ := allSome_cons hts
    obtain ⟨t2, r2, h3, h4, rfl⟩ := allSome_cons h2
    cases h4
    cases n with
    | zero => cases h1
    | succ n =>
      simp only [erT, hx, hy] at h1 h3
      obtain ⟨i, hi, rfl⟩ := Option.map_eq_some_iff.mp h1
      obtain ⟨j, hj, rfl⟩ := Option.map_eq_some_iff.mp h3
      exact ⟨i, j, hi, hj, rfl⟩
theorem erT_three {sc : Scope} {n : Nat} {x y z : Str} {px py pz : Pos} {t : CT} {kk : Nat} {tp : Pos} (hx : sc.names.lookup x = some .local) (hy : sc.names.lookup y = some .local) (hz : sc.names.lookup z = some .local) (h : erT N sc tc n (.Tuple [.Name x px, .Name y py, .Name z pz] kk tp) = some t) : ∃ i j l, ixOf N x = some i ∧ ixOf N y = some j ∧ ixOf N z = some l ∧ t = .tp [.nm i, .nm j, .nm l] := by
  cases n with
  | zero => cases h
  | succ n =>
    simp only [erT] at h
    obtain ⟨ts, hts, rfl⟩ := Option.map_eq_some_iff.mp h
    obtain ⟨t1, r1, h1, h2, rfl⟩ := allSome_cons hts
    obtain ⟨t2, r2, h3, h4, rfl⟩ := allSome_cons h2
    obtain ⟨t3, r3, h5, h6, rfl⟩ := allSome_cons h4
    cases h6
    cases n with
    | zero => cases h1
    | succ n =>
      simp only [erT, hx, hy, hz] at h1 h3 h5
      obtain ⟨i, hi, rfl⟩ := Option.map_eq_some_iff.mp h1
      obtain ⟨j, hj, rfl⟩ := Option.map_eq_some_iff.mp h3
      obtain ⟨l, hl, rfl⟩ := Option.map_eq_some_iff.mp h5
      exact ⟨i, j, l, hi, hj, hl, rfl⟩
theorem ix_ne {x y : Str} {i j : Nat} (hi : ixOf N x = some i) (hj : ixOf N y = some j) (h : x ≠ y) : i ≠ j := by
  rintro rfl
  have a := ixOf_get hi
  rw [ixOf_get hj] at a
  exact h (Option.some.inj a).symm
theorem asg_two {x y : Str} {px py tp p p2 : Pos} {a b : Expr} {ca cb : CE} {kk k2 : Nat} {sc : Scope} {i j : Nat} {rest : List Stmt} {r : CSs} (hsc : X.env.scope = sc) (hk : sc.kind = .function) (g : Gd nm N G k X) (hs : [a, b].all notStar = true) (hpar : isPar sc [.Name x px, .Name y py] [a, b] = true)
    (hi : ixOf N x = some i) (hj : ixOf N y = some j) (ha : PA X [a, b] (TAc G X.K (caOf [ca, cb]))) (hr : PSs X rest (TSc G X.K W r)) : PSs X (.Assign [.Tuple [.Name x px, .Name y py] kk tp] (.Tuple [a, b] k2 p2) p :: rest) (TSc G X.K W (.asg (.tp [.nm i, .nm j]) (.tup (caOf [ca, cb])) r)) := by
  have h := hpar
  simp only [isPar, Bool.and_eq_true, Bool.not_eq_true', decide_eq_true_eq] at h
  obtain ⟨⟨⟨⟨h1, h2⟩, h3⟩, _⟩, _⟩ := h
  refine (pss_cons (ps_par (X := X) g.cg.calm (by rw [g.n]; exact g.nd) (by rw [g.n]; exact ixOf_get hi) (by rw [g.n]; exact ixOf_get hj) (ix_ne hi hj h3) (by rw [hsc]; exact (lns h1).1) (by rw [hsc]; exact (lns h2).1) ha (sw_two hsc hk hs hpar) (by rfl)) hr).imp fun D σ H ⟨ι, S, L, so, lo, res⟩ => ?_
  obtain ⟨d, S1, e1, res⟩ := ResS.step res
  obtain ⟨L1, a1, res⟩ := ofO_resS res
  have e1 : ((evA G (caOf [ca, cb]) L S).bind fun ds S1 => okIf (sizeOk ds.length) (.tup ds) S1) = .ok d S1 := e1
  cases ea : evA G (caOf [ca, cb]) L S with
  | bad => rw [ea] at e1; cases e1
  | exc _ _ => rw [ea] at e1; cases e1
  | ok ds S2 =>
    rw [ea, R.bind_ok] at e1
    obtain ⟨d1, d2, rfl⟩ := evA_two ea
    have e1 : R.ok (Mi.D.tup [d1, d2]) S2 = .ok d S1 := e1
    cases e1
    refine TAc.of so lo ea fun ι1 H1 vs p1 x1 so1 r1 => ?_
    obtain ⟨v1, v2, rfl, q1, q2⟩ := r1.two
    refine ⟨v1, v2, rfl, ?_⟩
    have a1 : ((if i < L.length then some (L.set i (some d1)) else none).bind fun L2 => ((if j < L2.length then some (L2.set j (some d2)) else none).bind fun L3 => some L3)) = some L1 := a1
    split at a1
    · rw [Option.bind_some] at a1
      split at a1
      · cases a1
        exact ⟨ι1, S1, _, so1, ((lo.mono p1 x1).set i q1).set j q2, res.mono p1 x1⟩
      · cases a1
    · cases a1
theorem asg_three {x y z : Str} {px py pz tp p p2 : Pos} {a b c : Expr} {ca cb cc : CE} {kk k2 : Nat} {sc : Scope} {i j l : Nat} {rest : List Stmt} {r : CSs} (hsc : X.env.scope = sc) (hk : sc.kind = .function) (g : Gd nm N G k X) (hs : [a, b, c].all notStar = true) (hpar : isPar sc [.Name x px, .Name y py, .Name z pz] [a, b, c] = true)
    (hi : ixOf N x = some i) (hj : ixOf N y = some j) (hl : ixOf N z = some l) (ha : PA X [a, b, c] (TAc G X.K (caOf [ca, cb, cc]))) (hr : PSs X rest (TSc G X.K W r)) : PSs X (.Assign [.Tuple [.Name x px, .Name y py, .Name z pz] kk tp] (.Tuple [a, b, c] k2 p2) p :: rest) (TSc G X.K W (.asg (.tp [.nm i, .nm j, .nm l]) (.tup (caOf [ca, cb, cc])) r)) := by
  have h := hpar
  simp only [isPar, Bool.and_eq_true, Bool.not_eq_true', decide_eq_true_eq] at h
  obtain ⟨⟨⟨⟨⟨⟨⟨h1, h2⟩, h3⟩, h4⟩, h5⟩, h6⟩, _⟩, _⟩ := h
  refine (pss_cons (ps_par3 (X := X) g.cg.calm (by rw [g.n]; exact g.nd) (by rw [g.n]; exact ixOf_get hi) (by rw [g.n]; exact ixOf_get hj) (by rw [g.n]; exact ixOf_get hl) (ix_ne hi hj h4) (ix_ne hi hl h5) (ix_ne hj hl h6) (by rw [hsc]; exact (lns h1).1) (by rw [hsc]; exact (lns h2).1) (by rw [hsc]; exact (lns h3).1) ha (sw_three hsc hk hs hpar) (by rfl)) hr).imp fun D σ H ⟨ι, S, L, so, lo, res⟩ => ?_
  obtain ⟨d, S1, e1, res⟩ := ResS.step res
  obtain ⟨L1, a1, res⟩ := ofO_resS res
  have e1 : ((evA G (caOf [ca, cb, cc]) L S).bind fun ds S1 => okIf (sizeOk ds.length) (.tup ds) S1) = .ok d S1 := e1
  cases ea : evA G (caOf [ca, cb, cc]) L S with
  | bad => rw [ea] at e1; cases e1
  | exc _ _ => rw [ea] at e1; cases e1
  | ok ds S2 =>
    rw [ea, R.bind_ok] at e1
    obtain ⟨d1, d2, d3, rfl⟩ := evA_three ea
    have e1 : R.ok (Mi.D.tup [d1, d2, d3]) S2 = .ok d S1 := e1
    cases e1
    refine TAc.of so lo ea fun ι1 H1 vs p1 x1 so1 r1 => ?_
    obtain ⟨v1, vr, rfl, q1, r1⟩ := r1
    obtain ⟨v2, v3, rfl, q2, q3⟩ := r1.two
    refine ⟨v1, v2, v3, rfl, ?_⟩
    have a1 : ((if i < L.length then some (L.set i (some d1)) else none).bind fun L2 => ((if j < L2.length then some (L2.set j (some d2)) else none).bind fun L3 => (if l < L3.length then some (L3.set l (some d3)) else none).bind fun L4 => some L4)) = some L1 := a1
    split at a1
    · rw [Option.bind_some] at a1
      split at a1
      · rw [Option.bind_some] at a1
        split at a1
        · cases a1
          exact ⟨ι1, S1, _, so1, (((lo.mono p1 x1).set i q1).set j q2).set l q3, res.mono p1 x1⟩
        · cases a1
      · cases a1
    · cases a1
end
end Mi
namespace Mi
open PySem L2
variable {W : St → WT}
section
variable {nm : Nm} {N : List Str} {G : Gv} {k : Nat} {X : Cx}
theorem pe_ex {α : Type} {e : Expr} {P : α → Prop} {t : α → TE} (h : ∀ c, P c → PE X e (t c)) : PE X e (fun σ H Q => ∃ c, P c ∧ t c σ H Q) := ⟨fun pins s σ H Q I ⟨c, hc, ht⟩ => (h c hc).run pins s σ H Q I ht⟩
def cV : D → Option V
  | .non => some .non
  | .bl b => some (.bl b)
  | .int i => some (.int i)
  | .str x => some (.str x)
  | _ => none
theorem pe_erC {c : Const} {d : D} {kk : Nat} {p : Pos} (h : erC c = some (.cst d)) : ∃ v, cV d = some v ∧ (∀ ι H, DR X.K ι H d v) ∧ ∀ Y : Cx, PE Y (.Constant c kk p) (tC v) := by
  cases c with
  | int i => cases h; exact ⟨.int i, rfl, fun _ _ => rfl, fun _ => pe_int⟩
  | bool b => cases h; exact ⟨.bl b, rfl, fun _ _ => rfl, fun _ => pe_bl⟩
  | none => cases h; exact ⟨.non, rfl, fun _ _ => rfl, fun _ => pe_non⟩
  | str x => cases h; exact ⟨.str x, rfl, fun _ _ => rfl, fun _ => pe_str⟩
  | _ => cases h
/-- the caught refusal's field -/
def tFx (K : PySem.W.Frag) (a : Addr) (cls : Value) (d : Option Addr) (f : Str) (i : Nat) : TE := fun σ H Q => ∃ C, (XfC K C ∧ PySem.W.findIn K (.ref C) f = some none) ∧ tXf a cls d C f (tVar i) σ H Q
def teH (K : PySem.W.Frag) (a : Addr) (cls : Value) (d : Option Addr) (i : Nat) : HE → TE
  | .cst c => fun σ H Q => ∃ v, cV c = some v ∧ Q v H
  | .fld _ f => tFx K a cls d f i
  | .tupf s _ f => tTup (tCons (tC (.str s)) (tCons (tFx K a cls d f i) tNil))
def tsH (K : PySem.W.Frag) (i : Nat) (h : HB) : Addr → Value → Option Addr → TS := fun a cls d => match h with
  | .asg j e => tAsg (teH K a cls d i e) (gName j)
  | .ret c => tRet (fun σ H Q => ∃ v, cV c = some v ∧ Q v H)
/-- a clause's name's slot; without name any -/
def slot (o : Option Nat) : Nat := o.getD 0
theorem pe_cst {c : Const} {d : D} {kk : Nat} {p : Pos} (h : erC c = some (.cst d)) (Y : Cx) : PE Y (.Constant c kk p) (fun σ H Q => ∃ v, cV d = some v ∧ Q v H) := by
  obtain ⟨v, hv, _, hp⟩ := pe_erC (X := Y) (kk := kk) (p := p) h
  exact (hp Y).imp fun σ H Q ⟨w, hw, q⟩ => by
    rw [hv] at hw; cases hw; exact q
theorem pe_tfx {ea : Addr} {eo : Obj} {cls : Value} {d : Option Addr} {pn : List (Addr × Obj)} {x f : Str} {p q : Pos} {i : Nat} (hi : X.N[i]? = some x) (hl : X.env.scope.names.lookup x = some .local) (h1 : (x == ("__debug__" : Str)) = false) (h2 : (x == ("__classdict__" : Str)) = false) (hz : Zc cls d eo) (hf : ∃ vs, eo.data = .fields vs) :
    PE (X.suite ea ((ea, eo) :: pn)) (.Attribute (.Name x p) f q) (tFx X.K ea cls d f i) :=
  pe_ex fun C hC => pe_xf hC.1 hC.2 hz hf (pe_var (X := X.suite ea ((ea, eo) :: pn)) hi (.inl hl) h1 h2) (base_of rfl)
theorem pe_he {ea : Addr} {eo : Obj} {cls : Value} {d : Option Addr} {pn : List (Addr × Obj)} {n : Option Str} {e : Expr} {h : HE} {o : Option Nat} (hn : nameO X o n) (he : erHE nm n e = some h) (hz : Zc cls d eo) (hf : ∃ vs, eo.data = .fields vs) :
    PE (X.suite ea ((ea, eo) :: pn)) e (teH X.K ea cls d (slot o) h) ∧ notComp e = true := by
  unfold erHE at he
  split at he
  · rename_i c kk p
    obtain ⟨q, hq, he⟩ := Option.bind_eq_some_iff.mp he
    split at he
    · cases he
      exact ⟨pe_cst hq _, rfl⟩
    · cases he
  · rename_i x p f q
    split at he
    · rename_i hc
      obtain ⟨rfl, h1, h2⟩ := hc
      cases he
      cases o with
      | none => exact hn.elim
      | some i => exact ⟨pe_tfx hn.1 hn.2 h1 h2 hz hf, rfl⟩
    · cases he
  · rename_i s kk p1 x p2 f q kk2 p3
    split at he
    · rename_i hc
      obtain ⟨rfl, h1, h2⟩ := hc
      cases he
      cases o with
      | none => exact hn.elim
      | some i => exact ⟨pe_tup (pa_cons pe_str (pa_cons (pe_tfx hn.1 hn.2 h1 h2 hz hf) pa_nil (star_cons _ (by rfl))) (star_cons _ (by rfl))), rfl⟩
    · cases he
  · cases he
/-- what the first clause that catches has to do -/
def hdP (x : Exn) (P : Hd → Prop) (Pn : Prop) : List Hd → Prop
  | [] => Pn
  | h :: r => (h.yes.contains x.cls = true → P h) ∧ (h.yes.contains x.cls = false → hdP x P Pn r)
theorem clas_ok {sc : Scope} (hsc : X.env.scope = sc) (g : Gd nm N G k X) : ∀ (hds : List ExceptHandler) (hs : List Hd), allSome (hds.map (erHd nm N sc)) = some hs →
    ∃ l : List Cla, ClasOk X hds l ∧ ∀ (x : Exn) (C : Addr) (Wo : L2.WX) (D : Ends) (d : Option Addr) (σ : St) (H : Hp), x.cls ∈ nm.held → ClsN X.K x.cls C →
      hdP x (fun h => ∀ ea, H ea = none → tsH X.K (slot h.nm) h.b ea (.ref C) d (endsO h.nm D) (nameV h.nm ea σ) H) (Wo (.ref C) d σ H) hs → wCla X.K Wo D l (.ref C) d σ H
  | [], hs, h => by
    cases h
    exact ⟨[], .nil, fun x C Wo D d σ H _ _ hw => hw⟩
  | hd :: hds, hs, h => by
    obtain ⟨h1, r1, e1, e2, rfl⟩ := allSome_cons h
    obtain ⟨l, ok, hl⟩ := clas_ok hsc g hds r1 e2
    unfold erHd at e1
    split at e1
    · rename_i c cp n b bp
      split at e1
      · rename_i hg
        obtain ⟨yes, hy, e1⟩ := Option.bind_eq_some_iff.mp e1
        obtain ⟨hb, hhb, e1⟩ := Option.bind_eq_some_iff.mp e1
        obtain ⟨u, ⟨cdb, cu⟩, hcx⟩ := (g.hd (c, yes) (PySem.mem_of_lookup hy)).ex
        have nms : Names X c u := ⟨lk_gl (X := X) hsc hg, cdb, by
          rcases cu with ⟨h1, _⟩ | ⟨h1, h2, h3, _⟩
          · exact .inl h1
          · exact .inr ⟨h1, h2, h3⟩⟩
        -- the name
        obtain ⟨o, hn, rfl⟩ : ∃ o, nameO X o n ∧ h1 = ⟨yes, o, hb⟩ := by
          cases n with
          | none => cases e1; exact ⟨none, trivial, rfl⟩
          | some x =>
            replace e1 : (if sc.names.lookup x = some .local then (ixOf N x).map fun i => (⟨yes, some i, hb⟩ : Hd) else none) = some h1 := e1
            split at e1
            · rename_i hx
              obtain ⟨i, hi, rfl⟩ := Option.map_eq_some_iff.mp e1
              exact ⟨some i, ⟨by rw [g.n]; exact ixOf_get hi, by show X.env.scope.names.lookup x = _; rw [hsc]; exact hx⟩, rfl⟩
            · cases e1
        have main : ∃ st sts, b = st :: sts ∧ ∀ (ea : Addr) (eo : Obj) (cls : Value) (d : Option Addr) (pn : List (Addr × Obj)), Zc cls d eo → (∃ vs, eo.data = .fields vs) → PSs (X.suite ea ((ea, eo) :: pn)) b (tsH X.K (slot o) hb ea cls d) := by
          unfold erHB at hhb
          split at hhb
          · rename_i m mp e ap e1x
            split at hhb
            · rename_i hm
              obtain ⟨he, hhe, hhb⟩ := Option.bind_eq_some_iff.mp hhb
              obtain ⟨j, hj, rfl⟩ := Option.map_eq_some_iff.mp hhb
              refine ⟨_, _, rfl, fun ea eo cls d pn hz hf => ?_⟩
              obtain ⟨pe, nc⟩ := pe_he (pn := pn) hn hhe hz hf
              have ndX : X.N.Nodup := by rw [g.n]; exact g.nd
              exact pss_one (ps_set (X := X.suite ea ((ea, eo) :: pn)) ndX (show X.N[j]? = some m by rw [g.n]; exact ixOf_get hj) (.inl (by show X.env.scope.names.lookup m = _; rw [hsc]; exact hm)) pe (sw_plain nc) (.inr (by show X.env.scope.names.lookup m = _; rw [hsc]; exact hm)))
            · cases hhb
          · rename_i cc kk p1 p2 e1x
            obtain ⟨q, hq, hhb⟩ := Option.bind_eq_some_iff.mp hhb
            split at hhb
            · cases hhb
              exact ⟨_, _, rfl, fun ea eo cls d pn hz hf => pss_one (ps_ret (pe_cst hq _))⟩
            · cases hhb
          · cases hhb
        obtain ⟨st, sts, rfl, hsu⟩ := main
        refine ⟨⟨u, o, tsH X.K (slot o) hb⟩ :: l, .cons nms hn hsu ok, fun x C Wo D d σ H hx hC hh => ?_⟩
        exact ⟨yes.contains x.cls, hcx x.cls hx C hC, fun hyes ea na => hh.1 hyes ea na, fun hno => hl x C Wo D d σ H hx hC (hh.2 hno)⟩
      · cases e1
    · cases e1
theorem lok_any {K : PySem.W.Frag} {ι : List Addr} {H : Hp} (σ : St) : Lok K ι H (List.replicate σ.length none) σ := ⟨by simp, fun i d e => by
  rw [List.getElem?_replicate] at e
  split at e <;> cases e⟩
theorem wipe_name {o : Option Nat} {ea : Addr} {σ : St} {j : Nat} {v : V} : (match o with | none => (nameV o ea σ).set j (some v) | some i => ((nameV o ea σ).set j (some v)).set i none) = (match o with | none => σ.set j (some v) | some i => (σ.set j (some v)).set i none) := by
  cases o with
  | none => rfl
  | some i =>
    show ((σ.set i (some (V.ref ea))).set j (some v)).set i none = (σ.set j (some v)).set i none
    by_cases hij : i = j
    · subst hij; simp
    · rw [List.set_comm _ _ hij, List.set_set]
theorem lok_name {K : PySem.W.Frag} {ι : List Addr} {H : Hp} {L : Lcs} {σ : St} (lo : Lok K ι H L σ) (o : Option Nat) {j : Nat} {d : D} {v : V} (r : DR K ι H d v) : Lok K ι H (wipeO o (L.set j (some d))) (match o with | none => σ.set j (some v) | some i => (σ.set j (some v)).set i none) := by
  cases o with
  | none => exact lo.set j r
  | some i => exact (lo.set j r).wipe [i]
theorem nx_ends {o : Option Nat} {D : Ends} {σ : St} {H : Hp} : (endsO o D).nx σ H = D.nx (match o with | none => σ | some i => σ.set i none) H := by cases o <;> rfl
theorem rt_ends {o : Option Nat} {D : Ends} : (endsO o D).rt = D.rt := by cases o <;> rfl
/-- the field that a clause reads -/
theorem fx_read (g : Gd nm N G k X) {x : Exn} {C : Addr} {d : Option Addr} {o : Option (Str × V)} {ι : List Addr} {H H2 : Hp} {f : Str} {dv : D} {nmo : Option Nat} {ea : Addr} {σ : St} {Q : VK} (hC : ClsN X.K x.cls C) (hx : x.fld = some (f, dv)) (hy : ((nm.fx.filter fun p => p.2 == f).map (·.1)).contains x.cls = true)
    (xd : XD H d o) (xf : XF X.K ι H x.fld o) (hin : ∃ i, nmo = some i ∧ i < σ.length) (hq : ∀ v, DR X.K ι H dv v → Q v H) : tFx X.K ea (.ref C) d f (slot nmo) (nameV nmo ea σ) H Q := by
  rw [hx] at xf
  obtain ⟨v, rfl, dr⟩ := xf
  obtain ⟨i, rfl, hi⟩ := hin
  have hm : (x.cls, f) ∈ nm.fx := by
    rw [List.contains_iff_mem] at hy
    obtain ⟨q, hq1, hq2⟩ := List.mem_map.mp hy
    obtain ⟨hq3, hq4⟩ := List.mem_filter.mp hq1
    obtain ⟨a, b⟩ := q
    have : b = f := by simpa using hq4
    subst this
    have : a = x.cls := hq2
    subst this
    exact hq3
  obtain ⟨C0, fI, fd, pS, pV, h1, h2, T, _⟩ := (g.fx _ hm).ex
  have hC' := h2.symm.trans hC
  cases hC'
  rcases xd with ⟨_, h0⟩ | ⟨a2, f2, v2, e4, e5, e6⟩
  · cases h0
  · cases e5
    exact ⟨_, ⟨⟨T.as.hg, T.as.hk, T.as.hs, T.as.hd⟩, T.no⟩, .ref ea, by show (σ.set i (some (V.ref ea)))[i]? = _; rw [List.getElem?_set_self hi], rfl, rfl, a2, [(f, v)], v, e4, e6, by simp [List.lookup], hq v dr⟩
theorem he_run (g : Gd nm N G k X) {h : HE} {x : Exn} {C : Addr} {d : Option Addr} {o : Option (Str × V)} {ι : List Addr} {H : Hp} {S : Store} {nmo : Option Nat} {ea : Addr} {σ : St} {dv : D} {Q : VK} {n : Option Str} {e : Expr} (her : erHE nm n e = some h) (hno : n = none → nmo = none) (hns : ∀ y, n = some y → ∃ i, nmo = some i ∧ i < σ.length) (hC : ClsN X.K x.cls C)
    (xd : XD H d o) (xf : XF X.K ι H x.fld o) (so : Sok X.K ι H S) (hv : h.val x = some dv) (hq : ∀ v H', Xt H H' → Sok X.K ι H' S → DR X.K ι H' dv v → Q v H') : teH X.K ea (.ref C) d (slot nmo) h (nameV nmo ea σ) H Q := by
  unfold erHE at her
  split at her
  · rename_i c kk p
    obtain ⟨q, hq1, her⟩ := Option.bind_eq_some_iff.mp her
    split at her
    · cases her
      cases hv
      obtain ⟨v, h1, h2, _⟩ := pe_erC (X := X) (kk := kk) (p := p) hq1
      exact ⟨v, h1, hq v H (Xt.refl H) so (h2 ι H)⟩
    · cases her
  · rename_i y p f q
    split at her
    · rename_i hc
      obtain ⟨rfl, _, _⟩ := hc
      cases her
      simp only [HE.val] at hv
      split at hv
      · rename_i g2 d2 hx
        split at hv
        · rename_i hg
          obtain ⟨rfl, hy⟩ := hg
          cases hv
          exact fx_read g (H2 := H) hC hx hy xd xf (hns _ rfl) fun v r => hq v H (Xt.refl H) so r
        · cases hv
      · cases hv
    · cases her
  · rename_i s kk p1 y p2 f q kk2 p3
    split at her
    · rename_i hc
      obtain ⟨rfl, _, _⟩ := hc
      cases her
      simp only [HE.val] at hv
      split at hv
      · rename_i g2 d2 hx
        split at hv
        · rename_i hg
          obtain ⟨rfl, hy⟩ := hg
          cases hv
          show tTup (tCons (tC (.str s)) (tCons (tFx X.K ea (.ref C) d _ (slot nmo)) tNil)) (nameV nmo ea σ) H Q
          refine fx_read g (H2 := H) (Q := fun v H' => _) hC hx hy xd xf (hns _ rfl) fun v r => ?_
          refine ⟨by rw [PySem.sizeLine_eq]; simp, fun pp hpp => ?_⟩
          have xx : Xt H (upd H pp (.tup [V.str s, v])) := Xt.new hpp
          exact hq _ _ xx (so.tup hpp) ⟨pp, [V.str s, v], rfl, upd_same, V.str s, [v], rfl, rfl, v, [], rfl, r.mono (List.prefix_refl _) xx _, rfl⟩
        · cases hv
      · cases hv
    · cases her
  · cases her
theorem allSome_nil {α : Type} {l : List (Option α)} (h : allSome l = some []) : l = [] := by
  cases l with
  | nil => rfl
  | cons o r => cases o with
    | none => cases h
    | some a =>
      obtain ⟨b, _, hb⟩ := Option.map_eq_some_iff.mp (show (allSome r).map (a :: ·) = some [] from h)
      cases hb
/-- what an erased clause is -/
theorem erHd_is {sc : Scope} {hd : ExceptHandler} {h : Hd} (hh : erHd nm N sc hd = some h) : ∃ n b, erHB nm N sc n b = some h.b ∧ ((n = none ∧ h.nm = none) ∨ ∃ y i, n = some y ∧ h.nm = some i) := by
  unfold erHd at hh
  split at hh
  · rename_i c cp n b bp
    split at hh
    · obtain ⟨yes, hy, hh⟩ := Option.bind_eq_some_iff.mp hh
      obtain ⟨hb, hhb, hh⟩ := Option.bind_eq_some_iff.mp hh
      cases n with
      | none => cases hh; exact ⟨none, b, hhb, .inl ⟨rfl, rfl⟩⟩
      | some x =>
        replace hh : (if sc.names.lookup x = some .local then (ixOf N x).map fun i => (⟨yes, some i, hb⟩ : Hd) else none) = some h := hh
        split at hh
        · obtain ⟨i, hi, rfl⟩ := Option.map_eq_some_iff.mp hh
          exact ⟨some x, b, hhb, .inr ⟨x, i, rfl, rfl⟩⟩
        · cases hh
    · cases hh
  · cases hh
theorem hd_mem {sc : Scope} : ∀ {hds : List ExceptHandler} {hs : List Hd}, allSome (hds.map (erHd nm N sc)) = some hs → ∀ h ∈ hs, ∃ hd, erHd nm N sc hd = some h
  | [], hs, e, h, hm => by cases e; cases hm
  | hd :: hds, hs, e, h, hm => by
    obtain ⟨a, r, e1, e2, rfl⟩ := allSome_cons e
    rcases List.mem_cons.mp hm with rfl | hm
    · exact ⟨hd, e1⟩
    · exact hd_mem e2 h hm
/-- try with except clauses -/
theorem try_m {sc : Scope} {body rest : List Stmt} {hds : List ExceptHandler} {p : Pos} {b r : CSs} {hs : List Hd} (hsc : X.env.scope = sc) (g : Gd nm N G k X) (tk : L2.Takes X (WXs X.K W)) (top : X.stack = X.env :: X.outer ∧ X.env.frame = some X.env.locals ∧ X.ex = [])
    (hb : ∀ (W2 : St → WT) (pn : List (Addr × Obj)) (xe : Value → Shared → Prop), L2.Takes (X.tr pn xe) (WXs X.K W2) → PassesOwn (model X.prog X.w) X.A X.env xe → PSs (X.tr pn xe) body (TSc G X.K W2 b)) (hh : allSome (hds.map (erHd nm N sc)) = some hs) (hne : hds.isEmpty = false) (hr : PSs X rest (TSc G X.K W r)) :
    PSs X (.Try body hds [] [] p :: rest) (TSc G X.K W (.tryM b nm.held hs r)) := by
  obtain ⟨hs1, hs2, _⟩ := top
  obtain ⟨l, ok, hl⟩ := clas_ok hsc g hds hs hh
  have hmem := hd_mem hh
  have ndX : X.N.Nodup := by rw [g.n]; exact g.nd
  cases hds with
  | nil => cases hne
  | cons hd1 hds =>
  have ts := ps_clauses (pos := p) (body := body) (Wo := WXs X.K W) (tb := fun W' => TSc G X.K (fun σ x o H2 => ∀ C d, ClsN X.K x C → XD H2 d o → W' (.ref C) d σ H2) b) hs1 hs2 ndX tk (fun W' pn xe tk' pw' =>
    hb _ pn xe (tk'.imp fun c d σ H ⟨x, C, o, hC, e1, xd, w⟩ => by rw [e1]; exact w C d hC xd) pw') ok
  refine (pss_cons ts hr).imp fun D σ H ⟨ι, S, L, so, lo, res⟩ => ⟨ι, S, L, so, lo, ?_⟩
  replace res : ResS X.K W ι H ((exS G b L S).bind fun p S1 => match p.1 with
    | .nx => exS G r p.2 S1
    | .xc x => if nm.held.contains x.cls = true then (hdS x hs p.2 S1).bind fun q S2 => (match q.1 with
      | .nx => exS G r q.2 S2
      | _ => .ok q S2) else .bad
    | _ => .ok p S1) D := res
  cases e : exS G b L S with
  | bad => rw [e] at res; exact res.elim
  | exc _ _ => rw [e] at res; exact res.elim
  | ok q S1 =>
    rw [e, R.bind_ok] at res
    obtain ⟨fl, L1⟩ := q
    intro ι1 H1 σ1 p1 x1 so1 lo1
    cases fl with
    | nx => exact ⟨ι1, S1, L1, so1, lo1, ResS.mono res p1 x1⟩
    | brk => exact res ι1 H1 σ1 p1 x1 so1 lo1
    | ct => exact res ι1 H1 σ1 p1 x1 so1 lo1
    | ret d => exact res ι1 H1 σ1 p1 x1 so1 lo1
    | xc x =>
      intro o hx C d hC xd
      have res := ResS.mono res p1 x1
      simp only at res
      split at res
      · rename_i hheld
        refine hl x C (WXs X.K W) _ d σ1 H1 (by simpa using hheld) hC ?_
        clear hh hl ts ok e
        have key : ∀ hs : List Hd, (∀ h ∈ hs, ∃ hd, erHd nm N sc hd = some h) → ResS X.K W ι1 H1 ((hdS x hs L1 S1).bind fun q S2 => (match q.1 with
            | .nx => exS G r q.2 S2
            | _ => .ok q S2)) D → hdP x (fun h => ∀ ea, H1 ea = none → tsH X.K (slot h.nm) h.b ea (.ref C) d (endsO h.nm { D with nx := TSc G X.K W r D }) (nameV h.nm ea σ1) H1) (WXs X.K W (.ref C) d σ1 H1) hs := by
          intro hs
          induction hs with
          | nil =>
            intro _ res
            exact ⟨x.cls, C, o, hC, rfl, xd, res ι1 H1 σ1 (List.prefix_refl _) (Xt.refl _) so1 lo1 o hx⟩
          | cons h hs ih =>
            intro hm res
            simp only [hdS] at res
            refine ⟨fun hy ea na => ?_, fun hn => ?_⟩
            · rw [if_pos hy] at res
              obtain ⟨hd, hhd⟩ := hm h (by simp)
              obtain ⟨n, bb, hhb, hno⟩ := erHd_is hhd
              have inn : inO h.nm L1 = true → ∀ y, n = some y → ∃ i, h.nm = some i ∧ i < σ1.length := fun hi y hy => by
                rcases hno with ⟨z, _⟩ | ⟨y2, i, _, z⟩
                · rw [z] at hy; cases hy
                · rw [z] at hi
                  exact ⟨i, z, by rw [← lo1.1]; exact of_decide_eq_true hi⟩
              unfold erHB at hhb
              split at hhb
              · rename_i m mp e ap
                split at hhb
                · obtain ⟨he, hhe, hhb⟩ := Option.bind_eq_some_iff.mp hhb
                  obtain ⟨j, hj, e4⟩ := Option.map_eq_some_iff.mp hhb
                  rw [← e4] at res ⊢
                  simp only [HB.run] at res
                  split at res
                  · rename_i dv hdv
                    split at res
                    · rename_i hin
                      rw [R.bind_ok] at res
                      replace res : ResS X.K W ι1 H1 (exS G r (wipeO h.nm (L1.set j (some dv))) S1) D := res
                      show teH X.K ea (.ref C) d (slot h.nm) he (nameV h.nm ea σ1) H1 fun v H2 => gName j v (nameV h.nm ea σ1) H2 (endsO h.nm { D with nx := TSc G X.K W r D }).nx
                      refine he_run g hhe (fun z => by
                        rcases hno with ⟨_, z2⟩ | ⟨y2, i, z2, _⟩
                        · exact z2
                        · rw [z2] at z; cases z) (inn hin) hC xd hx so1 hdv fun v H2 x2 so2 dr => ?_
                      show (endsO h.nm { D with nx := TSc G X.K W r D }).nx ((nameV h.nm ea σ1).set j (some v)) H2
                      rw [nx_ends]
                      have ew := wipe_name (o := h.nm) (ea := ea) (σ := σ1) (j := j) (v := v)
                      have lo2 := lok_name (lo1.mono (List.prefix_refl _) x2) h.nm (j := j) dr
                      refine ⟨ι1, S1, _, so2, ?_, ResS.mono res (List.prefix_refl _) x2⟩
                      cases hnm : h.nm with
                      | none => rw [hnm] at lo2; exact lo2
                      | some i => rw [hnm] at lo2 ew; rw [← ew] at lo2; exact lo2
                    · exact res.elim
                  · exact res.elim
                · cases hhb
              · rename_i cc kk p1 p2
                obtain ⟨q, hq, hhb⟩ := Option.bind_eq_some_iff.mp hhb
                split at hhb
                · rename_i dv
                  have e4 : HB.ret dv = h.b := Option.some.inj hhb
                  rw [← e4] at res ⊢
                  simp only [HB.run] at res
                  split at res
                  · rw [R.bind_ok] at res
                    obtain ⟨v, h1, h2, _⟩ := pe_erC (X := X) (kk := 0) (p := ⟨0, 0, 0, 0⟩) hq
                    refine ⟨v, h1, ?_⟩
                    show (endsO h.nm { D with nx := TSc G X.K W r D }).rt v H1
                    rw [rt_ends]
                    have lo2 : ∃ σ2, Lok X.K ι1 H1 (wipeO h.nm L1) σ2 := by
                      cases h.nm with
                      | none => exact ⟨σ1, lo1⟩
                      | some i => exact ⟨_, lo1.wipe [i]⟩
                    obtain ⟨σ2, lo2⟩ := lo2
                    exact res ι1 H1 σ2 (List.prefix_refl _) (Xt.refl _) so1 lo2 v (h2 ι1 H1)
                  · exact res.elim
                · cases hhb
              · cases hhb
            · rw [if_neg (by rw [hn]; exact Bool.false_ne_true)] at res
              exact ih (fun h' hm' => hm h' (List.mem_cons_of_mem _ hm')) res
        exact key hs hmem res
      · exact res.elim
end
end Mi
namespace Mi
open PySem L2
section
variable {X : Cx} {G : Gv} {W : St → WT}
theorem ps_sat {rest : List Stmt} {e o : Expr} {f : Str} {ce co : CE} {r : CSs} {cs : List Str} {p q : Pos} (no : ∀ c ∈ cs, ∀ C, ClsN X.K c C → NoAttr X.K C f) (he : EP2 X G e ce) (ho : EP2 X G o co) (hc : notComp e = true) (hr : PSs X rest (TSc G X.K W r)) :
    PSs X (.Assign [.Attribute o f q] e p :: rest) (TSc G X.K W (.sat co cs f ce r)) := by
  refine (pss_cons (L2.ps_fld ho.pe he.pe (sw_plain hc)) hr).imp fun D σ H ⟨ι, S, L, so, lo, res⟩ => ?_
  obtain ⟨v, S1, e1, res⟩ := ResS.step res
  refine TEc.of so lo e1 fun ι1 H1 vv p1 x1 so1 r1 => ?_
  obtain ⟨x, S2, e2, res⟩ := ResS.step (res.mono p1 x1)
  have lo1 := lo.mono p1 x1
  refine TEc.of so1 lo1 e2 fun ι2 H2 vo p2 x2 so2 r2 => ?_
  have res := res.mono p2 x2
  cases x with
  | ref n =>
    simp only at res
    split at res
    · rename_i c fs hx
      split at res
      · rename_i hl
        obtain ⟨a, ea, rfl⟩ := r2
        obtain ⟨C, dx, vs, ev, hcl, hno, hvl, so3, x3⟩ := ins_put so2 ea hx hl.1 (r1.mono p2 x2 _) (no c (by simpa using hl.2))
        exact ⟨a, C, dx, vs, rfl, ev, hcl, hno, hvl, ⟨ι2, _, L, so3, (lo1.mono p2 x2).mono (List.prefix_refl _) x3, res.mono (List.prefix_refl _) x3⟩⟩
      · exact res.elim
    · exact res.elim
  | _ => exact res.elim
variable {nm : Nm} {N : List Str} {k : Nat}
/-- behind a call: what is new is kept, or dropped -/
noncomputable def keepZ (z : Bool) (S : Store) (d : Mi.D) (S2 : Store) : R Mi.D := if z = true then fz S d S2 else gc S d S2
def LkZ (z : Bool) (Q : VK) : VK := if z = true then LkQ Q else Q
theorem keep_res {z : Bool} {ι : List Addr} {H : Hp} {S S2 : Store} {d : Mi.D} {Q : VK} (so : Sok X.K ι H S) (h : Res X.K ι H (keepZ z S d S2) Q) : Res X.K ι H (.ok d S2) (LkZ z Q) := by
  unfold keepZ at h
  unfold LkZ
  cases z with
  | true => exact fz_res (r := .ok d S2) so h
  | false => exact Res.ungc (r := .ok d S2) so h
theorem keep_ok {z : Bool} {S S2 : Store} {d : Mi.D} : ∃ d' S', keepZ z S d S2 = .ok d' S' := by
  have gcc : ∃ d' S', gc S d S2 = .ok d' S' := by
    unfold Mi.gc
    split
    · exact ⟨_, _, rfl⟩
    · split
      · split
        · split
          · exact ⟨_, _, rfl⟩
          · exact ⟨_, _, rfl⟩
        · exact ⟨_, _, rfl⟩
      · exact ⟨_, _, rfl⟩
  unfold keepZ
  cases z with
  | false => exact gcc
  | true =>
    rw [if_pos rfl]
    unfold fz
    split
    · split
      · exact ⟨_, _, rfl⟩
      · exact gcc
    · exact gcc
theorem pe_xz {e : Expr} {z : Bool} {t : TE} (h : PE X e t) : PE X e (fun σ H Q => t σ H (LkZ z Q)) := by
  refine ⟨fun pins s σ H Q I q => ?_⟩
  cases z with
  | false => exact h.run pins s σ H Q I q
  | true => exact thn (h.run pins s σ H (LkQ Q) I q) fun u s1 q => ep_lk q
end
end Mi
namespace Mi
open PySem L2
variable {W : St → WT}
section
variable {nm : Nm} {N : List Str} {G : Gv} {k : Nat} {X : Cx} {tc : Str → Bool}
theorem pip_aug (op : Operator) : PIp X op (RO X.K (augD op)) := by
  intro pins s σ H x y v u Q I r1 r2 h
  obtain ⟨ι, S, d1, d2, so, q1, q2, res⟩ := h
  cases op with
  | Add =>
    cases d1 with
    | int i =>
      cases d2 with
      | int j =>
        have e1 := int_dr q1
        have e2 := int_dr q2
        subst e1 e2
        exact ip_add pins s σ H _ _ v u Q I r1 r2 ⟨i, j, rfl, rfl, res.val so rfl⟩
      | _ => exact res.elim
    | ref m =>
      cases d2 with
      | ref n =>
        simp only [augD] at res
        split at res
        · rename_i xs ys hm hn
          split at res
          · rename_i hz
            obtain ⟨a, ea, ck⟩ := so.at hm
            obtain ⟨b, eb, ck2⟩ := so.at hn
            obtain ⟨a', ea', rfl⟩ := q1
            obtain ⟨b', eb', rfl⟩ := q2
            rw [ea] at ea'; cases ea'
            rw [eb] at eb'; cases eb'
            obtain ⟨vs, hv, dv⟩ := ck
            obtain ⟨us, hu, du⟩ := ck2
            refine iop_ext pins s σ H _ _ v u Q I r1 r2 ⟨a, b, vs, us, rfl, rfl, hv, hu, ?_, ?_⟩
            · rw [dv.length, du.length]; exact of_decide_eq_true hz
            · obtain ⟨s3, x3⟩ := so.put (o := .lst (vs ++ us)) (c' := .lst (xs ++ ys)) ea hm rfl fun x => ⟨_, upd_same, (dv.mono (List.prefix_refl _) x).append (du.mono (List.prefix_refl _) x)⟩
              exact res ι _ _ (List.prefix_refl _) x3 s3 ⟨a, ea, rfl⟩
          · exact res.elim
        · exact res.elim
      | _ => exact res.elim
    | _ => cases d2 <;> exact res.elim
  | Sub =>
    cases d1 with
    | int i =>
      cases d2 with
      | int j =>
        have e1 := int_dr q1
        have e2 := int_dr q2
        subst e1 e2
        exact ip_sub pins s σ H _ _ v u Q I r1 r2 ⟨i, j, rfl, rfl, res.val so rfl⟩
      | _ => exact res.elim
    | _ => cases d2 <;> exact res.elim
  | _ => cases d1 <;> cases d2 <;> exact res.elim
theorem st_loc {sc : Scope} (hsc : X.env.scope = sc) (hf : ∀ x, tc x = true → X.fn x = true) {x : Str} (h : stL tc sc x = true) : L2.Loc X.env.scope x ∧ (X.fn x = true ∨ X.env.scope.names.lookup x = some .local) := by
  unfold stL at h
  split at h
  · rename_i e
    exact ⟨.inl (by rw [hsc]; exact e), .inr (by rw [hsc]; exact e)⟩
  · rename_i e
    exact ⟨.inr (by rw [hsc]; exact e), .inl (hf x h)⟩
  · cases h
theorem erT_star {sc : Scope} {n : Nat} {tg : Expr} {t : CT} (h : erT N sc tc n tg = some t) : notStar tg = true := by
  cases n with
  | zero => cases h
  | succ n =>
    cases tg with
    | Name x p => rfl
    | Tuple es kk p => rfl
    | _ => cases h
def tsetD (K : PySem.W.Frag) : TSet := fun o i v H Q => ∃ ι S S' d k e, Sok K ι H S ∧ DR K ι H d o ∧ DR K ι H k i ∧ DR K ι H e v ∧ subD d k e S = some S' ∧ ∀ H', Xt H H' → Sok K ι H' S' → Q H'
theorem pset_ok (c : Cg X) : PSet X (tsetD X.K) := by
  intro pins s σ H o i v ov iv u Q I ro ri rv h
  obtain ⟨ι, S, S', d, kk, e, so, h1, h2, h3, hs, q⟩ := h
  exact set_ok c I ro ri rv so h1 h2 h3 hs q
theorem erX_is {sc : Scope} {e : Expr} {q : Nat × List Expr} (hsc : X.env.scope = sc) (g : Gd nm N G k X) (h : erX nm sc e = some q) : ∃ x e0 es i p1 p2, e = .Call (.Name x p1) (e0 :: es) [] p2 ∧ q = (i, e0 :: es) ∧ L2.Gl X x ∧ FnAt X k x (G.fn i) ∧ (x == ("__debug__" : Str)) = false ∧ (e0 :: es).all notStar = true := by
  unfold erX at h
  split at h
  · rename_i x p1 es kws p2
    split at h
    · rename_i hc
      obtain ⟨hg, _, hst, hne, hk⟩ := hc
      obtain ⟨i, hi, rfl⟩ := Option.map_eq_some_iff.mp h
      cases kws with
      | cons _ _ => cases hk
      | nil =>
        cases es with
        | nil => cases hne
        | cons e0 es => exact ⟨x, e0, es, i, p1, p2, rfl, rfl, lk_gl (X := X) hsc hg, (g.fns x i hi).1, (g.fns x i hi).2, hst⟩
    · cases h
  · cases h
theorem pss_bad {sts : List Stmt} : PSs X sts (TSc G X.K W .nev) := ⟨fun pins s σ H D I ⟨ι, S, L, so, lo, res⟩ => res.elim⟩
theorem pss_nvr {sts : List Stmt} {t : CT} {r : CSs} : PSs X sts (TSc G X.K W (.asg t .nvr r)) := ⟨fun pins s σ H D I ⟨ι, S, L, so, lo, res⟩ => res.elim⟩
/-- C(e) is raised, C with an own __init__ that keeps one field -/
def tMkF (C : Addr) (f : Str) (te : TE) : St → Hp → XK → Prop := fun σ H Q => te σ H fun v H1 => ∀ d, H1 d = none → Q (.ref C) (some d) (upd H1 d (.xd [(f, v)]))
theorem pmk_fx {x f : Str} {C fI : Addr} {fd : FuncData} {pS pV : Str} {e : Expr} {te : TE} {p pos : Pos} (T : FxC X.K C f) (iC : PySem.W.findIn X.K (.ref C) "__init__" = some (some (.ref fI))) (tI : PySem.W.typeIn X.K (.ref fI) = some (.type "function"))
    (F1 : FnOk X.prog X.w X.K X.mg X.base (L2.CX X.prog X.w) 1 fI fd [pS, pV] (spI X.K f)) (hr : Room 2 X.A) (hb : Binds X.K fd [pS, pV] []) (hg : L2.Gl X x) (hm : X.mg x = some (.ref C)) (he : PE X e te) (hdb : (x == ("__debug__" : Str)) = false) (hst : notStar e = true) :
    PMk X (.Call (.Name x p) [e] [] pos) (tMkF C f te) := by
  have he2 : PE X e (fun σ H Q => ∃ Q0 : VK, te σ H Q0 ∧ ∀ v H1, Q0 v H1 → Q v H1) := ⟨fun pins s σ H Q I ⟨Q0, h0, hq⟩ => thn (he.run pins s σ H Q0 I h0) fun u s1 ⟨v, H1, I1, r1, q⟩ => ⟨v, H1, I1, r1, hq _ _ q⟩⟩
  have pa : PA X [e] (tCons (fun σ H Q => ∃ Q0 : VK, te σ H Q0 ∧ ∀ v H1, Q0 v H1 → Q v H1) tNil) := pa_cons he2 pa_nil (star_cons X.env (by rw [List.all_cons, hst]; rfl))
  have P0 : Passes (L2.CX X.prog X.w) X (fun _ _ _ => False) := fun pins σ H s e' s' _ h => by
    obtain ⟨_, _, _, _, _, _, _, _, _, _, _, _, _, _, _, _, _, no⟩ := h
  have key := pmk_oex (ds := []) (dvs := []) (p := p) (pos := pos) T.own iC tI F1 hr hb .nil P0 hg hm pa hdb (star_cons X.env (by rw [List.all_cons, hst]; rfl)) (star_plain X.env pos rfl)
  intro pins s σ H Q I h
  refine key pins s σ H Q I ⟨_, h, fun v H1 hq => ?_⟩
  refine ⟨by simp, fun a ha => ⟨a, C, v, rfl, upd_same, T.own, T.no, fun dx h1 h2 => ⟨rfl, dx, [(f, v)], upd_same, ?_, ?_, ?_⟩⟩⟩
  · rw [upd_ne h2, upd_same]
  · rw [upd_ne h2] at h1; exact h1
  · rw [upd_ne h2] at h1
    have e : upd (L2.del (upd (upd (upd H1 a (exo a C none)) dx (exd dx [(f, v)])) a (exo a C (some dx))) a) dx (.xd [(f, v)]) = upd H1 dx (.xd [(f, v)]) := by
      funext b
      by_cases hb : b = dx
      · rw [hb, upd_same, upd_same]
      · rw [upd_ne hb, upd_ne hb]
        by_cases hb2 : b = a
        · rw [hb2, L2.del_same, ha]
        · rw [L2.del_ne hb2, upd_ne hb2, upd_ne hb, upd_ne hb2]
    rw [e]
    exact hq dx h1
theorem pss_nvrF {sts : List Stmt} {t : CT} {r : CSs} : PSs X sts (TSc G X.K W (.asg t (.fz .nvr) r)) := ⟨fun pins s σ H D I ⟨ι, S, L, so, lo, res⟩ => res.elim⟩
theorem try_f {sc : Scope} {n : Nat} {body rest : List Stmt} {hds : List ExceptHandler} {els fin : List Stmt} {p : Pos} {q : Nat × List Expr × Str × Str × Nat × Nat} {cs : List CE} {r : CSs} (hsc : X.env.scope = sc) (hk : sc.kind = .function) (g : Gd nm N G k X) (tk : L2.Takes X (WXs X.K W)) (top : X.stack = X.env :: X.outer ∧ X.env.frame = some X.env.locals ∧ X.ex = []) (ndX : X.N.Nodup)
    (hp : ∀ e c, erE nm N n sc e = some c → EP2 X G e c) (hpt : ∀ (pn : List (Addr × Obj)) (xe : Value → Shared → Prop), ∀ e c, erE nm N n sc e = some c → EP2 (X.tr pn xe) G e c) (hF : erTryF nm N sc body hds els fin = some q) (hcs : erAll (erE nm N n sc) q.2.1 = some cs) (hr : PSs X rest (TSc G X.K W r)) :
    PSs X (.Try body hds els fin p :: rest) (TSc G X.K W (.tryF q.1 (caOf cs) q.2.2.1 q.2.2.2.1 q.2.2.2.2.1 q.2.2.2.2.2 r)) := by
  unfold erTryF at hF
  split at hF
  · rename_i e rp cn cp n1 m mp n2 np fl fp ap hp'
    split at hF
    · rename_i hc
      obtain ⟨rfl, hg, hfx, hl1, hl2, hd1, hd2⟩ := hc
      obtain ⟨q', hx, hF⟩ := Option.bind_eq_some_iff.mp hF
      obtain ⟨i, hi, hF⟩ := Option.bind_eq_some_iff.mp hF
      obtain ⟨j, hj, rfl⟩ := Option.map_eq_some_iff.mp hF
      obtain ⟨hs1, hs2, hs3⟩ := top
      obtain ⟨C, fI, fd, pS, pV, hm, hCN, T, h4, h5, h6, h7, h8⟩ := (g.fx (cn, fl) (PySem.mem_of_lookup hfx)).ex
      have nms : Names X cn (.ref C) := ⟨lk_gl (X := X) hsc hg, h8, .inl hm⟩
      have hi' : X.N[i]? = some n2 := by rw [g.n]; exact ixOf_get hi
      have hj' : X.N[j]? = some m := by rw [g.n]; exact ixOf_get hj
      have hln : X.env.scope.names.lookup n2 = some .local := by rw [hsc]; exact hl1
      have hlm : X.env.scope.names.lookup m = some .local := by rw [hsc]; exact hl2
      have xfc : XfC X.K C := ⟨T.as.hg, T.as.hk, T.as.hs, T.as.hd⟩
      have ts := ps_try_as (i := i) (n := n2) (x := cn) (c := .ref C) (np := cp) (pos := p) (pos' := hp') (body := [.Expr e rp]) (b₀ := .Assign [.Name m mp] (.Attribute (.Name n2 np) fl fp) ap) (suite := []) (Wout := WXs X.K W)
        (tb := fun W' D σ H => TAc G X.K (caOf cs) σ H fun vs H1 => RXC X.K (G.fn q'.1) (fun x o H2 => ∀ C d, ClsN X.K x C → XD H2 d o → W' (.ref C) d σ H2) vs H1 fun _ H2 => D.nx σ H2)
        (ts := fun a cls d => tAsg (tXf a cls d C fl (tVar i)) (gName j)) hs1 hs2 ndX hi' (by show X.env.scope.names.lookup n2 = _; exact hln) nms tk (fun W' pn xe tk' pw' => by
          have g' := g.tr pn xe
          obtain ⟨x, e0, es, k2, p1, p2, rfl, rfl, gl, fa, hd, hst⟩ := erX_is (X := X.tr pn xe) hsc g' hx
          have pa := pa_of (X := X.tr pn xe) (G := G) hcs hst (hpt pn xe)
          have st2 : es.all notStar = true := by rw [List.all_cons, Bool.and_eq_true] at hst; exact hst.2
          exact pss_one (ps_expr (pe_callX (X := X.tr pn xe) (Wf := fun σ x o H2 => ∀ C d, ClsN X.K x C → XD H2 d o → W' (.ref C) d σ H2) (p := p1) (pos := p2) tk' (fun σ x C o d H2 hC hd w => w C d hC hd) fa (g'.room.mono (by omega)) g'.cg.gu gl hd pa (star_cons X.env hst) (star_plain X.env p2 st2)) (sw_drop rfl)))
        (fun a oe cls d pn hz hf => pss_one (ps_set (X := X.suite a ((a, oe) :: pn)) ndX hj' (.inl hlm) (pe_xf xfc T.no hz hf (pe_var (X := X.suite a ((a, oe) :: pn)) hi' (.inl hln) hd1 hd2) (base_of rfl)) (by rfl) (.inr hlm)))
      refine (pss_cons ts hr).imp fun D σ H ⟨ι, S, L, so, lo, res0⟩ => ?_
      obtain ⟨ds, S1, e1, res⟩ := ResS.step res0
      clear res0
      refine TAc.of so lo e1 fun ι1 H1 vs p1 x1 so1 r1 => ⟨ι1, S1, ds, so1, r1, ?_⟩
      have lo1 := lo.mono p1 x1
      replace res := res.mono p1 x1
      cases e2 : G.fn q'.1 ds S1 with
      | bad => rw [e2] at res; exact res.elim
      | ok d S2 =>
        rw [e2] at res
        exact fun ι2 H2 v p2 x2 so2 r2 => ⟨ι2, S2, L, so2, lo1.mono p2 x2, ResS.mono res p2 x2⟩
      | exc y S2 =>
        rw [e2] at res
        intro ι2 H2 o p2 x2 so2 hx C2 dd hC2 hdd
        replace res : ResS X.K W ι1 H1 (if y.cls = cn ∧ i < L.length then (match y.fld with
          | some (h, d) => if h = fl then exS G r ((L.set j (some d)).set i none) S2 else .bad
          | none => .bad) else .bad) D := res
        split at res
        · rename_i hy
          split at res
          · rename_i h d hfl
            split at res
            · rename_i hh
              subst hh
              rw [hy.1] at hC2
              have eC : C2 = C := by
                have := hC2.symm.trans hCN
                cases this; rfl
              subst eC
              rw [hfl] at hx
              obtain ⟨v, e3, dv⟩ := hx
              rcases hdd with ⟨_, h0⟩ | ⟨a2, f2, v2, e4, e5, e6⟩
              · rw [e3] at h0; cases h0
              · rw [e3] at e5
                cases e5
                refine ⟨true, PySem.W.exm_ref T.as.hs T.as.hd T.own.tyC T.se, fun _ a ha => ?_, fun z => by cases z⟩
                have hlen : i < σ.length := by
                  rw [← lo1.1]; exact hy.2
                refine ⟨.ref a, by rw [List.getElem?_set_self hlen], rfl, rfl, a2, [(h, v)], v, e4, e6, by simp [List.lookup], ?_⟩
                show TSc G X.K W r D (((σ.set i (some (.ref a))).set j (some v)).set i none) H2
                have es : ((σ.set i (some (V.ref a))).set j (some v)).set i none = (σ.set j (some v)).set i none := by
                  by_cases hij : i = j
                  · subst hij; simp
                  · rw [List.set_comm _ _ hij, List.set_set]
                rw [es]
                exact ⟨ι2, S2, _, so2, ((lo1.mono p2 x2).set j dv).wipe [i], res.mono p2 x2⟩
            · exact res.elim
          · exact res.elim
        · exact res.elim
    · cases hF
  · cases hF
/-- t = f(..), where f may raise -/
theorem x_asg {sc : Scope} {n : Nat} {e tg : Expr} {rest : List Stmt} {p : Pos} {q : Nat × List Expr} {cs : List CE} {t : CT} {r : CSs} {z : Bool} (hsc : X.env.scope = sc) (g : Gd nm N G k X) (tk : L2.Takes X (WXs X.K W))
    (hp : ∀ e c, erE nm N n sc e = some c → EP2 X G e c) (hx : erX nm sc e = some q) (hcs : erAll (erE nm N n sc) q.2 = some cs) (hg : PG X tg (TGc X.K t)) (hst1 : notStar tg = true) (hr : PSs X rest (TSc G X.K W r)) :
    PSs X (.Assign [tg] e p :: rest) (TSc G X.K W (.xasg z t q.1 (caOf cs) r)) := by
  obtain ⟨x, e0, es, i, p1, p2, rfl, rfl, gl, fa, hd, hst⟩ := erX_is (X := X) hsc g hx
  have pa := pa_of (X := X) (G := G) hcs hst hp
  have st2 : es.all notStar = true := by rw [List.all_cons, Bool.and_eq_true] at hst; exact hst.2
  have pc := pe_xz (z := z) (pe_callX (Wf := W) (p := p1) (pos := p2) tk (fun σ x C o d H2 hC hd w => ⟨x, C, o, hC, rfl, hd, w⟩) fa (g.room.mono (by omega)) g.cg.gu gl hd pa (star_cons X.env hst) (star_plain X.env p2 st2))
  refine (pss_cons (ps_asg pc hg (show swapsWith (.Call (.Name x p1) (e0 :: es) [] p2) (some tg) p.line X.env = pure false from sw_plain rfl) (by cases tg <;> rfl) (each1 hst1)) hr).imp fun D σ H ⟨ι, S, L, so, lo, res⟩ => ?_
  obtain ⟨ds, S1, e1, res⟩ := ResS.step res
  refine TAc.of so lo e1 fun ι1 H1 vs p1 x1 so1 r1 => ⟨ι1, S1, ds, so1, r1, ?_⟩
  cases e2 : G.fn i ds S1 with
  | bad => rw [e2] at res; exact res.elim
  | ok d S2 =>
    rw [e2] at res
    replace res : ResS X.K W ι H ((keepZ z S d S2).bind fun d S3 => (ofO (asgT t d S3 L) S3).bind fun L1 S4 => exS G r L1 S4) D := res
    have key : Res X.K ι H (keepZ z S d S2) (fun v H' => TGc X.K t v σ H' (TSc G X.K W r D)) := by
      obtain ⟨d3, S3, e3, res⟩ := ResS.step res
      obtain ⟨L1, a1, res⟩ := ofO_resS res
      rw [e3]
      exact fun ι2 H2 v p2 x2 so2 r2 => ⟨ι2, S3, L, d3, L1, so2, lo.mono p2 x2, r2, a1, fun σ' lo' _ => ⟨ι2, S3, L1, so2, lo', res.mono p2 x2⟩⟩
    exact (keep_res so key).mono p1 x1
  | exc y S2 =>
    rw [e2] at res
    have lo1 := lo.mono p1 x1
    have res := res.mono p1 x1
    exact fun ι2 H2 o p2 x2 so2 hx => res ι2 H2 σ p2 x2 so2 (lo1.mono p2 x2) o hx
theorem x_ret {sc : Scope} {n : Nat} {e : Expr} {rest : List Stmt} {p : Pos} {q : Nat × List Expr} {cs : List CE} {z : Bool} (hsc : X.env.scope = sc) (g : Gd nm N G k X) (tk : L2.Takes X (WXs X.K W))
    (hp : ∀ e c, erE nm N n sc e = some c → EP2 X G e c) (hx : erX nm sc e = some q) (hcs : erAll (erE nm N n sc) q.2 = some cs) :
    PSs X (.Return (some e) p :: rest) (TSc G X.K W (.xret z q.1 (caOf cs))) := by
  obtain ⟨x, e0, es, i, p1, p2, rfl, rfl, gl, fa, hd, hst⟩ := erX_is (X := X) hsc g hx
  have pa := pa_of (X := X) (G := G) hcs hst hp
  have st2 : es.all notStar = true := by rw [List.all_cons, Bool.and_eq_true] at hst; exact hst.2
  have pc := pe_xz (z := z) (pe_callX (Wf := W) (p := p1) (pos := p2) tk (fun σ x C o d H2 hC hd w => ⟨x, C, o, hC, rfl, hd, w⟩) fa (g.room.mono (by omega)) g.cg.gu gl hd pa (star_cons X.env hst) (star_plain X.env p2 st2))
  refine (pss_cons (ps_ret pc) pss_never).imp fun D σ H ⟨ι, S, L, so, lo, res⟩ => ?_
  obtain ⟨ds, S1, e1, res⟩ := ResS.step res
  refine TAc.of so lo e1 fun ι1 H1 vs p1 x1 so1 r1 => ⟨ι1, S1, ds, so1, r1, ?_⟩
  cases e2 : G.fn i ds S1 with
  | bad => rw [e2] at res; exact res.elim
  | ok d S2 =>
    rw [e2] at res
    replace res : ResS X.K W ι H ((keepZ z S d S2).bind fun d S3 => .ok (.ret d, L) S3) D := res
    have key : Res X.K ι H (keepZ z S d S2) D.rt := by
      obtain ⟨d3, S3, e3, res⟩ := ResS.step res
      rw [e3]
      exact fun ι2 H2 v p2 x2 so2 r2 => res ι2 H2 σ p2 x2 so2 (lo.mono p2 x2) v r2
    exact (keep_res so key).mono p1 x1
  | exc y S2 =>
    rw [e2] at res
    have lo1 := lo.mono p1 x1
    have res := res.mono p1 x1
    exact fun ι2 H2 o p2 x2 so2 hx => res ι2 H2 σ p2 x2 so2 (lo1.mono p2 x2) o hx
theorem er_sts : ∀ (n : Nat) {W : St → WT} (sc : Scope) (X : Cx), X.env.scope = sc → sc.kind = .function → Gd nm N G k X → PassesOwn (model X.prog X.w) X.A X.env X.xe → L2.Takes X (WXs X.K W) → (X.stack = X.env :: X.outer ∧ X.env.frame = some X.env.locals ∧ X.ex = []) → (∀ x, tc x = true → X.fn x = true) → ∀ (sts : List Stmt) (c : CSs), erS nm N tc n sc sts = some c → PSs X sts (TSc G X.K W c) := by
  intro n
  induction n with
  | zero => intro W sc X _ _ _ _ _ _ _ sts c h; cases h
  | succ n ih =>
    intro W sc X hsc hk g pw tk top hf sts c h
    have ihS := ih (W := W) sc X hsc hk g pw tk top hf
    obtain ⟨fis, c', rfl, h0⟩ := erS_of nm N tc h
    clear h
    refine pss_fzvs ?_ fis
    generalize c' = c at h0 ⊢
    rcases h0 with rfl | h
    · exact pss_bad
    have hp := er_exp (nm := nm) (N := N) (G := G) (k := k) n X sc hsc g
    have ndX : X.N.Nodup := by rw [g.n]; exact g.nd
    have tgt : ∀ {tg : Expr} {t : CT}, erT N sc tc n tg = some t → PG X tg (TGc X.K t) := fun {tg t} h => er_tgt g.cg.calm ndX hsc hf n tg t (by rw [g.n]; exact h)
    cases sts with
    | nil =>
      cases h
      exact pss_nil.imp fun D σ H ⟨ι, S, L, so, lo, res⟩ => res_nx so lo res
    | cons st rest =>
      cases st with
      | Assign tgs e p =>
        cases tgs with
        | nil => cases h
        | cons tg more =>
          cases more with
          | cons _ _ => cases h
          | nil =>
            by_cases hsub : ∃ o i q, tg = .Subscript o i q
            · obtain ⟨o, i, q, rfl⟩ := hsub
              replace h : (if notComp e = true ∧ notSlice i = true then (erE nm N n sc e).bind fun ce => (erE nm N n sc o).bind fun co => (erE nm N n sc i).bind fun ci => (erS nm N tc n sc rest).map fun r => CSs.sub co ci ce r else none) = some c := h
              split at h
              · rename_i hc
                obtain ⟨ce, he, h⟩ := Option.bind_eq_some_iff.mp h
                obtain ⟨co, ho, h⟩ := Option.bind_eq_some_iff.mp h
                obtain ⟨ci, hi, h⟩ := Option.bind_eq_some_iff.mp h
                obtain ⟨r, hr, rfl⟩ := Option.map_eq_some_iff.mp h
                have pg := pg_sub (pos := q) (hp o co ho).pe (hp i ci hi).pe (pset_ok g.cg) (by intro v; cases i <;> first | rfl | exact absurd hc.2 Bool.false_ne_true)
                refine (pss_cons (ps_asg (pos := p) (hp e ce he).pe pg (show swapsWith e (some (.Subscript o i q)) p.line X.env = pure false from sw_plain hc.1) (by rfl) (by rfl)) (ihS rest r hr)).imp fun D σ H ⟨ι, S, L, so, lo, res⟩ => ?_
                obtain ⟨v, S1, e1, res⟩ := ResS.step res
                refine TEc.of so lo e1 fun ι1 H1 vv p1 x1 so1 r1 => ?_
                obtain ⟨x, S2, e2, res⟩ := ResS.step (res.mono p1 x1)
                have lo1 := lo.mono p1 x1
                refine TEc.of so1 lo1 e2 fun ι2 H2 vo p2 x2 so2 r2 => ?_
                obtain ⟨kk, S3, e3, res⟩ := ResS.step (res.mono p2 x2)
                have lo2 := lo1.mono p2 x2
                refine TEc.of so2 lo2 e3 fun ι3 H3 vi p3 x3 so3 r3 => ?_
                have res := res.mono p3 x3
                split at res
                · rename_i S4 hs
                  exact ⟨ι3, S3, S4, x, kk, v, so3, r2.mono p3 x3 _, r3, (r1.mono p2 x2 _).mono p3 x3 _, hs, fun H4 x4 so4 => ⟨ι3, S4, L, so4, (lo2.mono p3 x3).mono (List.prefix_refl _) x4, res.mono (List.prefix_refl _) x4⟩⟩
                · exact res.elim
              · cases h
            by_cases hatt : ∃ o f q, tg = .Attribute o f q
            · obtain ⟨o, f, q, rfl⟩ := hatt
              replace h : (if notComp e = true then (nm.fl.lookup f).bind fun cs => (erE nm N n sc e).bind fun ce => (erE nm N n sc o).bind fun co => (erS nm N tc n sc rest).map fun r => CSs.sat co cs f ce r else none) = some c := h
              split at h
              · rename_i hc
                obtain ⟨cs, hfl, h⟩ := Option.bind_eq_some_iff.mp h
                obtain ⟨ce, he, h⟩ := Option.bind_eq_some_iff.mp h
                obtain ⟨co, ho, h⟩ := Option.bind_eq_some_iff.mp h
                obtain ⟨r, hr, rfl⟩ := Option.map_eq_some_iff.mp h
                exact ps_sat (fun c hc => g.fl (f, cs) (PySem.mem_of_lookup hfl) c hc) (hp e ce he) (hp o co ho) hc (ihS rest r hr)
              · cases h
            replace h : (if nm.xap.contains (fzPos e.pos) = true then (erX nm sc e).bind fun q => (erT N sc tc n tg).bind fun t => (erAll (erE nm N n sc) q.2).bind fun cs => (erS nm N tc n sc rest).map fun r => CSs.xasg (nm.fzp.contains (fzPos e.pos)) t q.1 (caOf cs) r else
                if plainSt sc tg e = true ∧ (notComp e = true ∨ isLc e = true) then (erT N sc tc n tg).bind fun t => (erE nm N n sc e).bind fun c => (erS nm N tc n sc rest).map fun r => CSs.asg t c r else none) = some c := by
              cases tg with
              | Subscript o i q => exact absurd ⟨o, i, q, rfl⟩ hsub
              | Attribute o f q => exact absurd ⟨o, f, q, rfl⟩ hatt
              | _ => exact h
            split at h
            · obtain ⟨q, hx, h⟩ := Option.bind_eq_some_iff.mp h
              obtain ⟨t, ht, h⟩ := Option.bind_eq_some_iff.mp h
              obtain ⟨cs, hcs, h⟩ := Option.bind_eq_some_iff.mp h
              obtain ⟨r, hr, rfl⟩ := Option.map_eq_some_iff.mp h
              exact x_asg hsc g tk hp hx hcs (tgt ht) (erT_star ht) (ihS rest r hr)
            · replace h : (if plainSt sc tg e = true ∧ (notComp e = true ∨ isLc e = true) then (erT N sc tc n tg).bind fun t => (erE nm N n sc e).bind fun c => (erS nm N tc n sc rest).map fun r => CSs.asg t c r else none) = some c := h
              split at h
              · rename_i hc
                obtain ⟨hpl, hcm⟩ := hc
                obtain ⟨t, ht, h⟩ := Option.bind_eq_some_iff.mp h
                obtain ⟨ce, he, h⟩ := Option.bind_eq_some_iff.mp h
                obtain ⟨r, hr, rfl⟩ := Option.map_eq_some_iff.mp h
                have hr2 := ihS rest r hr
                have st1 := erT_star ht
                cases tg with
                | Name x py =>
                  have nosw : swappedStores [.Name x py] e X.env = pure none := by rfl
                  rcases hcm with hcm | hcm
                  · exact asg_plain (hp e ce he).pe (tgt ht) st1 (sw_plain hcm) nosw hr2
                  · cases e with
                    | ListComp elt gs scope pos =>
                      have hsw := sw_name (elt := elt) (gs := gs) (scope := scope) (pos := pos) (py := py) (x := x) (l := p.line) (env := X.env) hsc hk
                      cases hb : swB sc scope x py.line pos.line with
                      | false =>
                        rw [hb] at hsw
                        exact asg_plain (hp _ ce he).pe (tgt ht) st1 hsw nosw hr2
                      | true =>
                        rw [hb] at hsw
                        cases n with
                        | zero => cases he
                        | succ n =>
                          obtain ⟨ce', hw, he0⟩ := erE_of he
                          clear he
                          rcases he0 with rfl | he0
                          · rcases hw with rfl | ⟨rfl, _⟩
                            · exact pss_nvr
                            · exact pss_nvrF
                          have he' : erLc nm N (erE nm N n) n sc elt gs scope = some ce' := he0
                          obtain ⟨tg2, it, ifs, t2, ci, cc, ce2, rfl, rfl, P⟩ := lc_parts (er_exp n) hsc g he'
                          have hx : sc.names.lookup x = some .local := by
                            unfold swB at hb
                            simp only [Bool.and_eq_true, beq_iff_eq] at hb
                            exact hb.1.1
                          have ht' : (ixOf N x).map CT.nm = some t := by
                            have ht := ht
                            simp only [erT, hx] at ht
                            exact ht
                          obtain ⟨i, hi, rfl⟩ := Option.map_eq_some_iff.mp ht'
                          rcases hw with rfl | ⟨rfl, _⟩
                          · exact asg_lc hsc g P hx hi hsw hr2
                          · exact asg_lcF hsc g P hx hi hsw hr2
                    | _ => cases hcm
                | Tuple ts kk tp =>
                  have hsw : swapsWith e (some (.Tuple ts kk tp)) p.line X.env = pure false := sw_notName hcm (fun x q z => by cases z)
                  by_cases het : ∃ vs k2 p2, e = .Tuple vs k2 p2
                  · obtain ⟨vs, k2, p2, rfl⟩ := het
                    replace hpl : (parNo sc ts vs || isPar sc ts vs) = true := hpl
                    cases n with
                    | zero => cases he
                    | succ m =>
                      obtain ⟨ce', hw, he0⟩ := erE_of he
                      have hw : ce = ce' := by
                        rcases hw with hw | ⟨_, hw⟩
                        · exact hw
                        · exact absurd rfl (hw vs k2 p2)
                      subst hw
                      rcases he0 with rfl | he0
                      · exact pss_nvr
                      obtain ⟨cs, hcs, rfl⟩ := Option.map_eq_some_iff.mp (show (erAll (erE nm N m sc) vs).map (fun cs => CE.tup (caOf cs)) = some ce from he0)
                      have hst := all_star hcs
                      cases hpn : parNo sc ts vs with
                      | true => exact asg_plain (hp _ _ he).pe (tgt ht) st1 hsw (sw_none hsc hst hpn) hr2
                      | false =>
                        rw [hpn, Bool.false_or] at hpl
                        have hpa := pa_of (X := X) (G := G) hcs hst (er_exp (nm := nm) (N := N) (G := G) (k := k) m X sc hsc g)
                        have hpl' := hpl
                        unfold isPar at hpl'
                        split at hpl'
                        · rename_i x px y py a b
                          have hh := hpl
                          simp only [isPar, Bool.and_eq_true, Bool.not_eq_true', decide_eq_true_eq] at hh
                          obtain ⟨⟨⟨⟨h1, h2⟩, h3⟩, _⟩, _⟩ := hh
                          obtain ⟨i, j, hi, hj, rfl⟩ := erT_two (lns h1).1 (lns h2).1 ht
                          have hcs' := hcs
                          unfold erAll at hcs'
                          obtain ⟨ca, r1, _, g2, rfl⟩ := allSome_cons hcs'
                          obtain ⟨cb, r2, _, g4, rfl⟩ := allSome_cons g2
                          cases g4
                          exact asg_two hsc hk g hst hpl hi hj hpa hr2
                        · rename_i x px y py z pz a b d
                          have hh := hpl
                          simp only [isPar, Bool.and_eq_true, Bool.not_eq_true', decide_eq_true_eq] at hh
                          obtain ⟨⟨⟨⟨⟨⟨⟨h1, h2⟩, h3⟩, h4⟩, h5⟩, h6⟩, _⟩, _⟩ := hh
                          obtain ⟨i, j, l, hi, hj, hl, rfl⟩ := erT_three (lns h1).1 (lns h2).1 (lns h3).1 ht
                          have hcs' := hcs
                          unfold erAll at hcs'
                          obtain ⟨ca, r1, _, g2, rfl⟩ := allSome_cons hcs'
                          obtain ⟨cb, r2, _, g4, rfl⟩ := allSome_cons g2
                          obtain ⟨cc, r3, _, g6, rfl⟩ := allSome_cons g4
                          cases g6
                          exact asg_three hsc hk g hst hpl hi hj hl hpa hr2
                        · cases hpl'
                  · have nosw : swappedStores [.Tuple ts kk tp] e X.env = pure none := by
                      cases e with
                      | Tuple vs k2 p2 => exact absurd ⟨vs, k2, p2, rfl⟩ het
                      | _ => rfl
                    exact asg_plain (hp e ce he).pe (tgt ht) st1 hsw nosw hr2
                | Subscript o i q => exact absurd ⟨o, i, q, rfl⟩ hsub
                | _ =>
                  cases n with
                  | zero => cases ht
                  | succ n => cases ht
              · cases h
      | AugAssign tg op e p =>
        cases tg with
        | Name x px =>
          replace h : (if stL tc sc x = true then (ixOf N x).bind fun i => (erE nm N n sc e).bind fun c => (erS nm N tc n sc rest).map fun r => CSs.aug i op c r else none) = some c := h
          split at h
          · rename_i hst
            obtain ⟨i, hi, h⟩ := Option.bind_eq_some_iff.mp h
            obtain ⟨ce, he, h⟩ := Option.bind_eq_some_iff.mp h
            obtain ⟨r, hr, rfl⟩ := Option.map_eq_some_iff.mp h
            obtain ⟨l1, l2⟩ := st_loc hsc hf hst
            refine (pss_cons (ps_aug ndX (by rw [g.n]; exact ixOf_get hi) l1 (hp e ce he).pe (pip_aug op) l2) (ihS rest r hr)).imp fun D σ H ⟨ι, S, L, so, lo, res⟩ => ?_
            simp only [exS] at res
            split at res
            · rename_i d hd
              obtain ⟨v, ev, rv⟩ := lo.2 i d hd
              refine ⟨v, ev, ?_⟩
              obtain ⟨d2, S1, e1, res⟩ := ResS.step res
              refine TEc.of so lo e1 fun ι1 H1 v2 p1 x1 so1 r1 => ?_
              obtain ⟨z, S2, e2, res⟩ := ResS.step (res.mono p1 x1)
              refine ⟨ι1, S1, d, d2, so1, rv.mono p1 x1 _, r1, ?_⟩
              rw [e2]
              exact fun ι2 H2 vz p2 x2 so2 r2 => ⟨ι2, S2, _, so2, ((lo.mono p1 x1).mono p2 x2).set i r2, res.mono p2 x2⟩
            · exact res.elim
          · cases h
        | _ => cases h
      | Expr e p =>
        replace h : (match erX nm sc e with
          | some q => (erAll (erE nm N n sc) q.2).bind fun cs => (erS nm N tc n sc rest).map fun r => CSs.xexp q.1 (caOf cs) r
          | none => if notComp e = true then (erE nm N n sc e).bind fun c => (erS nm N tc n sc rest).map fun r => CSs.exp c r else none) = some c := h
        cases hx : erX nm sc e with
        | some q =>
          rw [hx] at h
          obtain ⟨cs, hcs, h⟩ := Option.bind_eq_some_iff.mp h
          obtain ⟨r, hr, rfl⟩ := Option.map_eq_some_iff.mp h
          obtain ⟨x, e0, es, i, p1, p2, rfl, rfl, gl, fa, hd, hst⟩ := erX_is (X := X) hsc g hx
          have pa := pa_of (X := X) (G := G) hcs hst hp
          have st2 : es.all notStar = true := by rw [List.all_cons, Bool.and_eq_true] at hst; exact hst.2
          have pc := pe_callX (Wf := W) (p := p1) (pos := p2) tk (fun σ x C o d H2 hC hd w => ⟨x, C, o, hC, rfl, hd, w⟩) fa (g.room.mono (by omega)) g.cg.gu gl hd pa (star_cons X.env hst) (star_plain X.env p2 st2)
          refine (pss_cons (ps_expr pc (sw_drop rfl)) (ihS rest r hr)).imp fun D σ H ⟨ι, S, L, so, lo, res⟩ => ?_
          obtain ⟨ds, S1, e1, res⟩ := ResS.step res
          refine TAc.of so lo e1 fun ι1 H1 vs p1 x1 so1 r1 => ⟨ι1, S1, ds, so1, r1, ?_⟩
          have lo1 := lo.mono p1 x1
          have res := res.mono p1 x1
          cases e2 : G.fn i ds S1 with
          | bad => rw [e2] at res; exact res.elim
          | ok d S2 =>
            rw [e2] at res
            exact fun ι2 H2 v p2 x2 so2 r2 => ⟨ι2, S2, L, so2, lo1.mono p2 x2, ResS.mono res p2 x2⟩
          | exc y S2 =>
            rw [e2] at res
            exact fun ι2 H2 o p2 x2 so2 hx => res ι2 H2 σ p2 x2 so2 (lo1.mono p2 x2) o hx
        | none =>
        rw [hx] at h
        replace h : (if notComp e = true then (erE nm N n sc e).bind fun c => (erS nm N tc n sc rest).map fun r => CSs.exp c r else none) = some c := h
        split at h
        · rename_i hc
          obtain ⟨ce, he, h⟩ := Option.bind_eq_some_iff.mp h
          obtain ⟨r, hr, rfl⟩ := Option.map_eq_some_iff.mp h
          refine (pss_cons (ps_expr (hp e ce he).pe (sw_drop hc)) (ihS rest r hr)).imp fun D σ H ⟨ι, S, L, so, lo, res⟩ => ?_
          obtain ⟨d, S1, e1, res⟩ := ResS.step res
          exact TEc.of so lo e1 fun ι1 H1 v p1 x1 so1 r1 => ⟨ι1, S1, L, so1, lo.mono p1 x1, res.mono p1 x1⟩
        · cases h
      | Return v p =>
        cases v with
        | some e =>
          replace h : (if nm.xap.contains (fzPos e.pos) = true then (erX nm sc e).bind fun q => (erAll (erE nm N n sc) q.2).map fun cs => CSs.xret (nm.fzp.contains (fzPos e.pos)) q.1 (caOf cs) else (erE nm N n sc e).map CSs.ret) = some c := h
          split at h
          · obtain ⟨q, hx, h⟩ := Option.bind_eq_some_iff.mp h
            obtain ⟨cs, hcs, rfl⟩ := Option.map_eq_some_iff.mp h
            exact x_ret hsc g tk hp hx hcs
          obtain ⟨ce, he, rfl⟩ := Option.map_eq_some_iff.mp (show (erE nm N n sc e).map CSs.ret = some c from h)
          refine (pss_cons (ps_ret (hp e ce he).pe) pss_never).imp fun D σ H ⟨ι, S, L, so, lo, res⟩ => ?_
          obtain ⟨d, S1, e1, res⟩ := ResS.step res
          exact TEc.of so lo e1 fun ι1 H1 v p1 x1 so1 r1 => res ι1 H1 σ p1 x1 so1 (lo.mono p1 x1) v r1
        | none =>
          cases h
          refine (pss_cons ps_retN pss_never).imp fun D σ H ⟨ι, S, L, so, lo, res⟩ => ?_
          exact res ι H σ (List.prefix_refl _) (Xt.refl _) so lo .non rfl
      | If ce a b p =>
        replace h : ((erE nm N n sc ce).bind fun c => (erS nm N tc n sc a).bind fun a => (erS nm N tc n sc b).bind fun b => (erS nm N tc n sc rest).map fun r => CSs.ifs c a b r) = some c := h
        obtain ⟨cc, hcc, h⟩ := Option.bind_eq_some_iff.mp h
        obtain ⟨ca, ha, h⟩ := Option.bind_eq_some_iff.mp h
        obtain ⟨cb, hb, h⟩ := Option.bind_eq_some_iff.mp h
        obtain ⟨r, hr, rfl⟩ := Option.map_eq_some_iff.mp h
        refine (pss_cons (ps_if (hp ce cc hcc).pt (ihS a ca ha) (ihS b cb hb)) (ihS rest r hr)).imp fun D σ H ⟨ι, S, L, so, lo, res⟩ => ?_
        obtain ⟨d, S1, e1, res⟩ := ResS.step res
        obtain ⟨t, rfl, res⟩ := ifB_resS res
        refine TTc.of so lo e1 fun ι1 H1 p1 x1 so1 => ?_
        have res := ResS.rest (res.mono p1 x1)
        cases t with
        | true => exact ⟨ι1, S1, L, so1, lo.mono p1 x1, res⟩
        | false => exact ⟨ι1, S1, L, so1, lo.mono p1 x1, res⟩
      | For tg it body els p =>
        replace h : (if els.isEmpty = true then (erT N sc tc n tg).bind fun t => (erI (erE nm N n sc) nm sc tg it).bind fun i => (erS nm N tc n sc body).bind fun b => (erS nm N tc n sc rest).map fun r => CSs.for_ t i b r else none) = some c := h
        split at h
        · rename_i hels
          have hels : els = [] := by cases els with
            | nil => rfl
            | cons _ _ => cases hels
          subst hels
          obtain ⟨t, ht, h⟩ := Option.bind_eq_some_iff.mp h
          obtain ⟨ci, hci, h⟩ := Option.bind_eq_some_iff.mp h
          obtain ⟨cb, hb, h⟩ := Option.bind_eq_some_iff.mp h
          obtain ⟨r, hr, rfl⟩ := Option.map_eq_some_iff.mp h
          obtain ⟨hi, hns⟩ := pi_of (tg := tg) g hsc hp hci
          exact (pss_cons (ps_for pw g.cg.calm hi (tgt ht) (ihS body cb hb) (fold_of hns)) (ihS rest r hr)).imp fun D σ H h => for_go h
        · cases h
      | While ce body els p =>
        replace h : (if els.isEmpty = true then (erE nm N n sc ce).bind fun c => (erS nm N tc n sc body).bind fun b => (erS nm N tc n sc rest).map fun r => CSs.whl c b r else none) = some c := h
        split at h
        · rename_i hels
          have hels : els = [] := by cases els with
            | nil => rfl
            | cons _ _ => cases hels
          subst hels
          obtain ⟨cc, hcc, h⟩ := Option.bind_eq_some_iff.mp h
          obtain ⟨cb, hb, h⟩ := Option.bind_eq_some_iff.mp h
          obtain ⟨r, hr, rfl⟩ := Option.map_eq_some_iff.mp h
          exact (pss_cons (ps_while pw (hp ce cc hcc).pt (ihS body cb hb)) (ihS rest r hr)).imp fun D σ H h => wh_go h
        · cases h
      | Pass p =>
        exact (pss_cons ps_pass (ihS rest c h)).imp fun D σ H h => h
      | Break p =>
        cases h
        exact (pss_cons ps_break pss_never).imp fun D σ H ⟨ι, S, L, so, lo, res⟩ => res ι H σ (List.prefix_refl _) (Xt.refl _) so lo
      | Continue p =>
        cases h
        exact (pss_cons ps_continue pss_never).imp fun D σ H ⟨ι, S, L, so, lo, res⟩ => res ι H σ (List.prefix_refl _) (Xt.refl _) so lo
      | Raise e cz p =>
        replace h : (if rest.isEmpty = true then some (erRaise nm (erE nm N n sc) sc e cz) else none) = some c := h
        split at h
        · rename_i hre
          have hre : rest = [] := by cases rest with
            | nil => rfl
            | cons _ _ => cases hre
          subst hre
          cases h
          have nev : PSs X [.Raise e cz p] (TSc G X.K W .nev) := (pss_one ps_never).imp fun D σ H ⟨ι, S, L, so, lo, res⟩ => res.elim
          unfold erRaise
          split
          · rename_i x p1 p2
            split
            · rename_i hc
              obtain ⟨C, bmB, B, newId, initId, gC, hC, kC, F, q, rs, _, hdb⟩ := (g.xs x hc.2).ex
              refine (pss_one (ps_raise g.cg.calm tk (pmk_own0 F q gC kC rs (lk_gl (X := X) hsc hc.1) hdb))).imp fun D σ H ⟨ι, S, L, so, lo, res⟩ => ?_
              exact ⟨x, C, none, hC, rfl, .inl ⟨rfl, rfl⟩, res ι H σ (List.prefix_refl _) (Xt.refl _) so lo none rfl⟩
            · exact nev
          · rename_i x p1 a p2
            split
            · rename_i hc
              split
              · rename_i f ca hf hca
                obtain ⟨C, fI, fd, pS, pV, h1, h2, h3, h4, h5, h6, h7, h8⟩ := (g.fx (x, f) (PySem.mem_of_lookup hf)).ex
                refine (pss_one (ps_raise g.cg.calm tk (pmk_fx h3 h4 h5 h6 (g.room.mono (by omega)) h7 (lk_gl (X := X) hsc hc.1) h1 (hp a ca hca).pe h8 (erE_star hca)))).imp fun D σ H ⟨ι, S, L, so, lo, res⟩ => ?_
                obtain ⟨d, S1, e1, res⟩ := ResS.step res
                refine TEc.of so lo e1 fun ι1 H1 v q1 x1 so1 r1 => ?_
                intro dx hdx
                have xx := Xt.new (o := .xd [(f, v)]) hdx
                have res := res.mono q1 x1
                exact ⟨x, C, some (f, v), h2, rfl, .inr ⟨dx, f, v, rfl, rfl, upd_same⟩, res ι1 _ σ (List.prefix_refl _) xx (so1.tup hdx) ((lo.mono q1 x1).mono (List.prefix_refl _) xx) (some (f, v)) ⟨v, rfl, r1.mono (List.prefix_refl _) xx _⟩⟩
              · exact nev
            · exact nev
          · exact nev
        · cases h
      | Try body hds els fin p =>
        replace h : (match erTryF nm N sc body hds els fin with
          | some q => (erAll (erE nm N n sc) q.2.1).bind fun cs => (erS nm N tc n sc rest).map fun r => CSs.tryF q.1 (caOf cs) q.2.2.1 q.2.2.2.1 q.2.2.2.2.1 q.2.2.2.2.2 r
          | none => match erTry nm N sc body hds els fin with
            | some q => (erAll (erE nm N n sc) q.2.1).bind fun cs => (erS nm N tc n sc rest).map fun r => CSs.tryR q.1 (caOf cs) q.2.2.1 q.2.2.2 nm.xs r
            | none => if els.isEmpty = true ∧ fin.isEmpty = true ∧ hds.isEmpty = false then (erS nm N tc n sc body).bind fun b => (allSome (hds.map (erHd nm N sc))).bind fun hd => (erS nm N tc n sc rest).map fun r => CSs.tryM b nm.held hd r else none) = some c := h
        cases hF : erTryF nm N sc body hds els fin with
        | some q =>
          rw [hF] at h
          obtain ⟨cs, hcs, h⟩ := Option.bind_eq_some_iff.mp h
          obtain ⟨r, hr, rfl⟩ := Option.map_eq_some_iff.mp h
          exact try_f hsc hk g tk top ndX hp (fun pn xe => er_exp (nm := nm) (N := N) (G := G) (k := k) n (X.tr pn xe) sc hsc (g.tr pn xe)) hF hcs (ihS rest r hr)
        | none =>
        rw [hF] at h
        replace h : (match erTry nm N sc body hds els fin with
            | some q => (erAll (erE nm N n sc) q.2.1).bind fun cs => (erS nm N tc n sc rest).map fun r => CSs.tryR q.1 (caOf cs) q.2.2.1 q.2.2.2 nm.xs r
            | none => if els.isEmpty = true ∧ fin.isEmpty = true ∧ hds.isEmpty = false then (erS nm N tc n sc body).bind fun b => (allSome (hds.map (erHd nm N sc))).bind fun hd => (erS nm N tc n sc rest).map fun r => CSs.tryM b nm.held hd r else none) = some c := h
        cases hq : erTry nm N sc body hds els fin with
        | none =>
          rw [hq] at h
          replace h : (if els.isEmpty = true ∧ fin.isEmpty = true ∧ hds.isEmpty = false then (erS nm N tc n sc body).bind fun b => (allSome (hds.map (erHd nm N sc))).bind fun hd => (erS nm N tc n sc rest).map fun r => CSs.tryM b nm.held hd r else none) = some c := h
          split at h
          · rename_i hc
            obtain ⟨h1, h2, h3⟩ := hc
            have h1 : els = [] := by cases els with
              | nil => rfl
              | cons _ _ => cases h1
            have h2 : fin = [] := by cases fin with
              | nil => rfl
              | cons _ _ => cases h2
            subst h1 h2
            obtain ⟨b, hb, h⟩ := Option.bind_eq_some_iff.mp h
            obtain ⟨hd, hhd, h⟩ := Option.bind_eq_some_iff.mp h
            obtain ⟨r, hr, rfl⟩ := Option.map_eq_some_iff.mp h
            exact try_m hsc g tk top (fun W2 pn xe tk2 pw2 => ih (W := W2) sc (X.tr pn xe) hsc hk (g.tr pn xe) pw2 tk2 top hf body b hb) hhd h3 (ihS rest r hr)
          · cases h
        | some q =>
        rw [hq] at h
        obtain ⟨cs, hcs, h⟩ := Option.bind_eq_some_iff.mp h
        obtain ⟨r, hr, rfl⟩ := Option.map_eq_some_iff.mp h
        unfold erTry at hq
        split at hq
        · rename_i e rp cn cp n1 m mp n2 np ap hp'
          split at hq
          · rename_i hc
            obtain ⟨rfl, hg, hcat, hl1, hl2, hd1, hd2⟩ := hc
            obtain ⟨q', hx, hq⟩ := Option.bind_eq_some_iff.mp hq
            obtain ⟨i, hi, hq⟩ := Option.bind_eq_some_iff.mp hq
            obtain ⟨j, hj, rfl⟩ := Option.map_eq_some_iff.mp hq
            obtain ⟨hs1, hs2, hs3⟩ := top
            obtain ⟨u, ⟨cdb, cu⟩, hcx⟩ := (g.cat cn hcat).ex
            have nms : Names X cn u := ⟨lk_gl (X := X) hsc hg, cdb, by
              rcases cu with ⟨h1, _⟩ | ⟨h1, h2, h3, _⟩
              · exact .inl h1
              · exact .inr ⟨h1, h2, h3⟩⟩
            have hi' : X.N[i]? = some n2 := by rw [g.n]; exact ixOf_get hi
            have hj' : X.N[j]? = some m := by rw [g.n]; exact ixOf_get hj
            have keep := ps_keep (kp := mp) (vp := np) (ap := ap) (hp := hp') (pos := p) (np := cp) (body := [.Return (some e) rp]) (tb := fun W' D σ H => TAc G X.K (caOf cs) σ H fun vs H1 => RXC X.K (G.fn q'.1) (fun x o H2 => ∀ C d, ClsN X.K x C → XD H2 d o → W' (.ref C) d σ H2) vs H1 D.rt) hs1 hs2 ndX hi' hj' (List.getElem?_eq_some_iff.mp hi').1 (by show X.env.scope.names.lookup n2 = _; rw [hsc]; exact hl1) (by rw [hsc]; exact hl2) hd1 hd2 nms hs3 (fun W' pn xe tk' pw' => by
              have g' := g.tr pn xe
              obtain ⟨x, e0, es, k2, p1, p2, rfl, rfl, gl, fa, hd, hst⟩ := erX_is (X := X.tr pn xe) hsc g' hx
              have pa := pa_of (X := X.tr pn xe) (G := G) hcs hst (er_exp (nm := nm) (N := N) (G := G) (k := k) n (X.tr pn xe) sc hsc g')
              have st2 : es.all notStar = true := by rw [List.all_cons, Bool.and_eq_true] at hst; exact hst.2
              exact pss_one (ps_ret (pe_callX (X := X.tr pn xe) (Wf := fun σ x o H2 => ∀ C d, ClsN X.K x C → XD H2 d o → W' (.ref C) d σ H2) (p := p1) (pos := p2) tk' (fun σ x C o d H2 hC hd w => w C d hC hd) fa (g'.room.mono (by omega)) g'.cg.gu gl hd pa (star_cons X.env hst) (star_plain X.env p2 st2))))
            refine (pss_cons keep (ihS rest r hr)).imp fun D σ H ⟨ι, S, L, so, lo, res⟩ => ?_
            obtain ⟨ds, S1, e1, res⟩ := ResS.step res
            refine TAc.of so lo e1 fun ι1 H1 vs p1 x1 so1 r1 => ⟨ι1, S1, ds, so1, r1, ?_⟩
            have lo1 := lo.mono p1 x1
            have res := res.mono p1 x1
            cases e2 : G.fn q'.1 ds S1 with
            | bad => rw [e2] at res; exact res.elim
            | ok d S2 =>
              rw [e2] at res
              exact fun ι2 H2 v p2 x2 so2 r2 => res ι2 H2 σ p2 x2 so2 (lo1.mono p2 x2) v r2
            | exc y S2 =>
              rw [e2] at res
              intro ι2 H2 o p2 x2 so2 hx C dd hC hdd
              replace res : ResS X.K W ι1 H1 (if y.fld.isNone = true ∧ nm.xs.contains y.cls = true then exS G r (((L.set i (some (.ref S2.length))).set j (some (.ref S2.length))).set i none) (S2 ++ [.exc y.cls]) else .bad) D := res
              split at res
              · rename_i hy
                have hd0 : dd = none := by
                  have e0 : y.fld = none := by cases q : y.fld with
                    | none => rfl
                    | some _ => rw [q] at hy; cases hy.1
                  rw [e0] at hx
                  have e1 : o = none := hx
                  rcases hdd with h | ⟨_, _, _, _, h, _⟩
                  · exact h.1
                  · rw [e1] at h; cases h
                refine ⟨hcx y.cls (by simpa using hy.2) C hC, hd0, C, rfl, fun ea na => ?_⟩
                have xx : Xt H2 (upd H2 ea (xHO C ea)) := Xt.new na
                have so3 : Sok X.K (ι2 ++ [ea]) (upd H2 ea (xHO C ea)) (S2 ++ [.exc y.cls]) := so2.push na ⟨C, hC, upd_same⟩
                have hn : (ι2 ++ [ea])[S2.length]? = some ea := by rw [← so2.len]; simp
                have dr : DR X.K (ι2 ++ [ea]) (upd H2 ea (xHO C ea)) (.ref S2.length) (.ref ea) := ⟨ea, hn, rfl⟩
                have lo3 := (((lo1.mono p2 x2).mono (List.prefix_append ι2 [ea]) xx).set i dr).set j dr
                exact ⟨_, _, _, so3, lo3.wipe [i], ResS.mono res (p2.trans (List.prefix_append ι2 [ea])) (x2.trans xx)⟩
              · exact res.elim
          · cases hq
        · cases hq
      | _ => cases h
end
end Mi
namespace Mi
open PySem L2
theorem zip_look : ∀ {ns : List Str} {us : List Value}, ns.Nodup → us.length = ns.length → ∀ (l : List Str), (∀ n ∈ l, n ∈ ns) → (l.filter fun n => ((ns.zip us).lookup n).isNone) = [] := by
  intro ns us nd hl l hm
  rw [List.filter_eq_nil_iff]
  intro n hn
  have : ∀ {ns : List Str} {us : List Value}, us.length = ns.length → n ∈ ns → ((ns.zip us).lookup n).isNone = false := by
    intro ns
    induction ns with
    | nil => intro us _ h; cases h
    | cons m ns ih =>
      intro us hl h
      cases us with
      | nil => simp at hl
      | cons u us =>
        rw [List.zip_cons_cons, List.lookup_cons]
        by_cases e : n == m
        · rw [e]; rfl
        · have e : (n == m) = false := by simpa using e
          rw [e]
          rcases List.mem_cons.mp h with h | h
          · subst h; simp at e
          · exact ih (by simpa using hl) h
  rw [this hl (hm n hn)]
  exact Bool.false_ne_true
theorem zip_back : ∀ {ns : List Str} {us : List Value}, ns.Nodup → us.length = ns.length → (ns.filterMap fun n => ((ns.zip us).lookup n).map fun v => (n, v)) = ns.zip us := by
  have key : ∀ (ns : List Str) (us : List Value) (m : List (Str × Value)), ns.Nodup → us.length = ns.length → (∀ n ∈ ns, m.lookup n = (ns.zip us).lookup n) → (ns.filterMap fun n => (m.lookup n).map fun v => (n, v)) = ns.zip us := by
    intro ns
    induction ns with
    | nil => intro us m _ _ _; simp
    | cons n ns ih =>
      intro us m nd hl hm
      cases us with
      | nil => simp at hl
      | cons u us =>
        rw [List.filterMap_cons, hm n (by simp), List.zip_cons_cons, List.lookup_cons]
        simp only [beq_self_eq_true, Option.map_some]
        congr 1
        rw [List.nodup_cons] at nd
        refine ih us m nd.2 (by simpa using hl) fun k hk => ?_
        rw [hm k (by simp [hk]), List.zip_cons_cons, List.lookup_cons]
        have : (k == n) = false := by
          rw [beq_eq_false_iff_ne]
          rintro rfl
          exact nd.1 hk
        rw [this]
  intro ns us nd hl
  exact key _ _ _ nd hl fun _ _ => rfl
theorem bind_plain {fd : FuncData} {args : List Arg} {kd : List (Option Expr)} {dfs : List Expr} (hp : fd.params = ⟨[], args, none, [], kd, none, dfs⟩) (hd : fd.defaults = .none) {us : List Value} (hl : us.length = (args.map (·.arg)).length) (nd : (args.map (·.arg)).Nodup) :
    bindArgs fd ⟨us, []⟩ = pure ((args.map (·.arg)).zip us) := by
  have e0 : seqItems? Value.none = pure none := by rfl
  have hl2 : us.length = args.length := by simpa using hl
  have lk := zip_look nd hl (args.map (·.arg)) (fun n h => h)
  have bk := zip_back nd hl
  unfold bindArgs
  rw [hp, hd, e0]
  simp [hl2, bk]
  have lk2 : List.filter (fun n => (List.lookup n ((List.map (fun x => x.arg) args).zip us)).isNone) (List.take ((List.map (fun x => x.arg) ([] : List Arg) ++ List.map (fun x => x.arg) args).length - (List.drop ((#[] : Array Value).size - (List.map (fun x => x.arg) ([] : List Arg) ++ List.map (fun x => x.arg) args).length) ([] : List Value)).length) (List.map (fun x => x.arg) ([] : List Arg) ++ List.map (fun x => x.arg) args)) = [] :=
    zip_look nd hl _ (fun n h => by
      have := List.mem_of_mem_take h
      simpa using this)
  refine Eq.trans (if_neg ?_) ?_
  · rw [lk2]; exact Bool.false_ne_true
  · congr 1
    rw [← List.filterMap_map]
    exact bk
/-- a def of the text, erased: N: its names, parameters first -/
def erF (nm : Nm) (n : Nat) (N : List Str) (st : Stmt) : Option CF := match st with
  | .FunctionDef _ a b _ _ _ sc _ _ _ =>
    let ps := a.args.map (·.arg)
    if C8.scC N ps sc = true ∧ ps.Nodup ∧ a.posonlyargs.isEmpty = true ∧ a.vararg.isNone = true ∧ a.kwonlyargs.isEmpty = true ∧ a.kwarg.isNone = true then (erS nm N (fun _ => true) n sc b).map fun c => ⟨ps.length, N.length, c⟩ else none
  | _ => none
/-- classes, by the written part -/
structure XcK (K : PySem.W.Frag) (mg : Str → Option Value) (x : Str) : Prop where
  ex : ∃ (C : Addr) (bmB : List Value) (B newId initId : String), mg x = some (.ref C) ∧ ClsN K x C ∧ PySem.W.keepIn K (.ref C) = true ∧ ExcBaseFacts B newId initId bmB ∧ PySem.W.excIn K C bmB newId = true ∧
    PySem.W.subIn K (.ref C) (.type "BaseException") = some true ∧ PySem.W.typeIn K (.ref C) = some (.type "type") ∧ ExcC K C ∧ (x == ("__debug__" : Str)) = false
def ClsK2 (mg : Str → Option Value) (y : Str) (u : Value) : Prop := (y == ("__debug__" : Str)) = false ∧ ((mg y = some u ∧ ∃ C, u = .ref C) ∨ (mg y = none ∧ bootBuiltins y = some u ∧ y ≠ "__name__" ∧ ∃ t, u = .type t))
structure IsxK (K : PySem.W.Frag) (mg : Str → Option Value) (xs ys yes : List Str) : Prop where
  ex : ∃ us : List Value, us.length ≤ 1000 ∧ Paired (ClsK2 mg) ys us ∧ ∀ x ∈ xs, ∀ C, ClsN K x C → PySem.W.kitAny K (.ref C) us = some (yes.contains x)
structure CatK (K : PySem.W.Frag) (mg : Str → Option Value) (xs : List Str) (c : Str) : Prop where
  ex : ∃ u, ClsK2 mg c u ∧ ∀ x ∈ xs, ∀ C, ClsN K x C → PySem.W.exmOne K (.ref C) u = some true
/-- a class that keeps one field -/
structure FxK (K : PySem.W.Frag) (mg : Str → Option Value) (x f : Str) : Prop where
  ex : ∃ (C fI : Addr) (fd : FuncData) (pS pV : Str), mg x = some (.ref C) ∧ ClsN K x C ∧ FxC K C f ∧ PySem.W.findIn K (.ref C) "__init__" = some (some (.ref fI)) ∧ PySem.W.typeIn K (.ref fI) = some (.type "function") ∧ (∀ (P : Program) (w : World) (base : Heap), FnOk P w K mg base (L2.CX P w) 1 fI fd [pS, pV] (spI K f)) ∧ Binds K fd [pS, pV] [] ∧ (x == ("__debug__" : Str)) = false
structure DtK (w : World) (K : PySem.W.Frag) (mg : Str → Option Value) (x : Str) (tab : List (Str × Str)) : Prop where
  ex : ∃ d, mg x = some (.ref d) ∧ DtAt K w d tab ∧ (x == ("__debug__" : Str)) = false
/-- a class of an except clause -/
structure HdK (K : PySem.W.Frag) (mg : Str → Option Value) (xs : List Str) (c : Str) (yes : List Str) : Prop where
  ex : ∃ u, ClsK2 mg c u ∧ ∀ x ∈ xs, ∀ C, ClsN K x C → PySem.W.exmOne K (.ref C) u = some (yes.contains x)
/-- a def behind a number -/
def IsDef (P : Program) (w : World) (K : PySem.W.Frag) (mg : Str → Option Value) (base : Heap) (k : Nat) (f : Addr) (F : List D → Store → R D) : Prop := ∃ fd ps, FnG P w K mg base k f fd ps F ∧ Binds K fd ps [] ∧ ∀ ds S, ds.length ≠ ps.length → F ds S = .bad
/-- what stands around a call of any def -/
structure Gb (nm : Nm) (G : Gv) (P : Program) (w : World) (K : PySem.W.Frag) (mg : Str → Option Value) (base : Heap) (k : Nat) : Prop where
  sm : ∃ o es n, base.get? sysModules = some o ∧ o.data = .dict es n
  fns : ∀ x i, nm.fn x = some i → (x == ("__debug__" : Str)) = false ∧ ∃ f fd ps, mg x = some (.ref f) ∧ PySem.W.keepIn K (.ref f) = true ∧ FnG P w K mg base k f fd ps (G.fn i) ∧ Binds K fd ps [] ∧ ∀ ds S, ds.length ≠ ps.length → G.fn i ds S = .bad
  cts : ∀ x i d, nm.ct x = some i → G.ct i = some d → ∃ u v, mg x = some u ∧ RelV v u ∧ (∀ ι H, DR K ι H d v) ∧ (x == ("__debug__" : Str)) = false
  bls : ∀ x, x ∈ nm.bl → mg x = none
  xs : ∀ x, x ∈ nm.xs → XcK K mg x
  dt : ∀ p, p ∈ nm.dt → DtK w K mg p.1 p.2
  ix : ∀ ys yes, nm.yes ys = some yes → IsxK K mg nm.held ys yes
  cat : ∀ c, c ∈ nm.cat → CatK K mg nm.xs c
  fx : ∀ p, p ∈ nm.fx → FxK K mg p.1 p.2
  hd : ∀ p, p ∈ nm.hd → HdK K mg nm.held p.1 p.2
  mks : ∀ p, p ∈ nm.mks → ∃ C f, mg p.1 = some (.ref C) ∧ ClsN K p.1 C ∧ Cls K C ∧ Mk K C f ∧ IsDef P w K mg base k f (G.fn p.2) ∧ (p.1 == ("__debug__" : Str)) = false
  me : ∀ p, p ∈ nm.me → ∀ q, q ∈ p.2 → ∀ C, ClsN K q.1 C → ∃ f, Cls K C ∧ Meth K C p.1 f ∧ IsDef P w K mg base k f (G.fn q.2)
  fl : ∀ p, p ∈ nm.fl → ∀ c, c ∈ p.2 → ∀ C, ClsN K c C → NoAttr K C p.1
section
variable {nm : Nm} {N : List Str} {G : Gv} {k : Nat} {P : Program} {w : World} {K : PySem.W.Frag} {mg : Str → Option Value} {base : Heap}
theorem Room.un150 {A : Around} (h : Room k A) : A.units + 150 < cLine := by have := h.un; omega
theorem gc_isok (S : Store) (d : D) (S' : Store) : ∃ d2 S2, Mi.gc S d S' = .ok d2 S2 := by
  unfold Mi.gc
  split
  · exact ⟨_, _, rfl⟩
  · split
    · split
      · split
        · exact ⟨_, _, rfl⟩
        · exact ⟨_, _, rfl⟩
      · exact ⟨_, _, rfl⟩
    · exact ⟨_, _, rfl⟩
theorem ResX.ungc {K : PySem.W.Frag} {ι : List Addr} {H : Hp} {S : Store} {r : R D} {Q : VK} {W : WT} (so : Sok K ι H S) (h : ResX K ι H (r.gc S) Q W) : ResX K ι H r Q W := by
  cases r with
  | exc _ _ => exact h
  | bad => exact h
  | ok d S' =>
    obtain ⟨d2, S2, e⟩ := gc_isok S d S'
    have h1 : ResX K ι H (Mi.gc S d S') Q W := h
    rw [e] at h1
    have h2 : Res K ι H ((R.ok d S').gc S) Q := by
      show Res K ι H (Mi.gc S d S') Q
      rw [e]
      exact h1
    exact Res.ungc so h2
/-- THE RULE for a def -/
theorem fn_g {x qual : Str} {f : Addr} {n : Nat} {st : Stmt} {cf : CF} {oc dV kV doc pm cdv ct : Value} {od an : Option Addr} {osl : Array (Option Value)} (b : Gb nm G P w K mg base k) (er : erF nm n N st = some cf)
    (lk : K.lookup f = some ⟨oc, od, .func (PySem.W.fnOf x qual (defArgs st) (defBody st) (defScope st) dV kV doc pm an cdv ct), osl⟩) (hcd : PySem.W.codeIn K cdv qual = true) :
    FnG P w K mg base (k + 1) f (PySem.W.fnOf x qual (defArgs st) (defBody st) (defScope st) dV kV doc pm an cdv ct) ((defArgs st).args.map (·.arg)) (runF G cf) := by
  refine ⟨fun A outer s H args us vs Q W hr hgu e0 hb r hl hsp => ?_⟩
  obtain ⟨ι, S, ds, so, dr, res⟩ := hsp
  cases st with
  | FunctionDef nme a body dl rt tp sc ts bd pos =>
    simp only [erF] at er
    split at er
    · rename_i hc
      obtain ⟨c, hcs, rfl⟩ := Option.map_eq_some_iff.mp er
      have SS : FnScope N (a.args.map (·.arg)) sc := C8.fnScope_by hc.1
      have KX : K.In s.heap := e0.mod.kin.keeps fun b o e => (e0.bs b o e).1
      have lim : s.heap.NoLimit := e0.mod.nolimit.keeps fun b o e => (e0.bs b o e).1
      have hkind : ∀ y ∈ (a.args.map (·.arg)).zip us, sc.names.lookup y.1 = some .local ∨ (sc.names.lookup y.1 = some .cell ∧ ((cellsFrom (s.heap.objs.size + 1) sc.names []).lookup y.1).isSome = true) := fun ⟨n, v⟩ hy => by
        rcases SS.par n (List.of_mem_zip hy).1 with q | q
        · exact .inl q
        · exact .inr ⟨q, PySem.W.cellsFrom_some _ _ _ (.inl q)⟩
      have hl : vs.length = (a.args.map (·.arg)).length := hl
      refine codeAny_call_function hr.depth (KX _ _ lk) rfl SS.co SS.gen rfl (PySem.W.codeRec_of KX hcd) (hb _ _ _ _ ?_)
      refine wpAny_newFunctionEnv_cells SS.kind hkind fun env he s1 x => ?_
      subst he
      refine ⟨lim.keeps x.toInCall.keep, codeAny_func ?_⟩
      have I : Inv (cxOf (L2.CX P w) P w K mg base N qual sc f cdv A outer s H (WX0 K W)) [] (L2.start N vs) H s1 := inv_start SS hr.hd e0 hl r x
      have gd : Gd nm N G k (cxOf (L2.CX P w) P w K mg base N qual sc f cdv A outer s H (WX0 K W)) := by
        have hr' := hr.deeper (PyProof.Rows.envOfC qual sc s.heap.objs.size f cdv)
        refine ⟨⟨rfl, Room.un150 hr', hgu, b.sm⟩, rfl, SS.nd, hr'.mono (by omega), fun y i hy => ?_, b.cts, b.bls, fun x h => ?_, fun p h => ⟨(b.dt p h).ex⟩, fun ys yes h => ?_, fun c h => ?_, fun p h => ?_, fun p h => ⟨(b.hd p h).ex⟩, fun p h => ?_, fun p h q hq => ⟨fun C hC => ?_⟩, b.fl⟩
        · obtain ⟨h1, f2, fd2, ps2, h2, h3, h4, h5, h6⟩ := b.fns y i hy
          exact ⟨⟨f2, fd2, ps2, h2, h3, h4, h5, h6⟩, h1⟩
        · obtain ⟨C, bmB, B, n1, n2, a1, a2, a3, a4, a5, a6, a7, a8, a9⟩ := (b.xs x h).ex
          exact ⟨C, bmB, B, n1, n2, a1, a2, a3, a4, a5, raises_own a6 a7, a8, a9⟩
        · exact ⟨(b.ix ys yes h).ex⟩
        · exact ⟨(b.cat c h).ex⟩
        · obtain ⟨C, fI, fd, pS, pV, a1, a2, a3, a4, a5, a6, a7, a8⟩ := (b.fx p h).ex
          exact ⟨C, fI, fd, pS, pV, a1, a2, a3, a4, a5, a6 P w base, a7, a8⟩
        · obtain ⟨C, f2, a1, a2, a3, a4, ⟨fd2, ps2, a5, a6, a7⟩, a8⟩ := b.mks p h
          exact ⟨C, f2, fd2, ps2, a1, a2, a3, a4, a5, a6, a7, a8⟩
        · obtain ⟨f2, a1, a2, fd2, ps2, a5, a6, a7⟩ := b.me p h q hq C hC
          exact ⟨f2, fd2, ps2, a1, a2, a5, a6, a7⟩
      have body_ok := er_sts (nm := nm) (N := N) (G := G) (k := k) (tc := fun _ => true) (W := fun _ => W) n sc (cxOf (L2.CX P w) P w K mg base N qual sc f cdv A outer s H (WX0 K W)) rfl SS.kind gd (passes_of rfl) (takes_of rfl rfl rfl rfl) ⟨rfl, rfl, rfl⟩ (fun _ _ => rfl) body c hcs
      have hlen : ds.length = (a.args.map (·.arg)).length := by rw [← dr.length]; exact hl
      have res : ResX K ι H (((exS G c (ds.map some ++ List.replicate (N.length - (a.args.map (·.arg)).length) none) S).bindB fun p S' => match p.1 with
        | .nx => .ok .non S'
        | .ret d => .ok d S'
        | .xc x => .exc x S'
        | _ => .bad).gc S) Q W := by
        unfold runF at res
        rw [if_pos hlen] at res
        exact res
      have res := ResX.ungc so res
      refine wpAny_mono (body_ok.run [] s1 (L2.start N vs) H { nx := fun _ H' => Q .non H', rt := Q } I ⟨ι, S, _, so, Lok.start dr (by rw [hlen]), ?_⟩) (fun fl s' hs => ?_) fun e s' hs => hs
      · cases e1 : exS G c (ds.map some ++ List.replicate (N.length - (a.args.map (·.arg)).length) none) S with
        | bad => rw [e1] at res; exact res.elim
        | exc _ _ => rw [e1] at res; exact res.elim
        | ok p S' =>
          rw [e1, R.bindB_ok] at res
          obtain ⟨fl, L'⟩ := p
          intro ι' H' σ' pp xx so' lo'
          cases fl with
          | nx => exact res ι' H' .non pp xx so' rfl
          | ret d => exact fun v rv => res ι' H' v pp xx so' rv
          | brk => exact res.elim
          | ct => exact res.elim
          | xc x => exact fun o hx => res ι' H' o pp xx so' hx
      · have fin : ∀ {σ' : St} {H' : Hp} {v : V} {u : Value}, Inv (cxOf (L2.CX P w) P w K mg base N qual sc f cdv A outer s H (WX0 K W)) [] σ' H' s' → RelV v u → Q v H' → L2.CE outer P w H s Q u s' :=
          fun {σ' H' v u} J rv q => ⟨v, H', J.os, J.bare, J.base, J.hok, rv, q⟩
        cases fl with
        | ret u =>
          obtain ⟨v, σ', H', J, rv, q⟩ := hs
          exact fin J rv q
        | next =>
          obtain ⟨σ', H', J, q⟩ := hs
          exact fin (v := V.non) (u := Value.none) J rfl q
        | brk =>
          obtain ⟨_, _, _, q⟩ := hs
          exact False.elim q
        | cont =>
          obtain ⟨_, _, _, q⟩ := hs
          exact False.elim q
    · cases er
  | _ => cases er
theorem binds_g {x qual : Str} {n : Nat} {st : Stmt} {cf : CF} {kV doc pm cdv ct : Value} {an : Option Addr} (er : erF nm n N st = some cf) : Binds K (PySem.W.fnOf x qual (defArgs st) (defBody st) (defScope st) .none kV doc pm an cdv ct) ((defArgs st).args.map (·.arg)) [] ∧ ∀ ds S, ds.length ≠ ((defArgs st).args.map (·.arg)).length → runF G cf ds S = .bad := by
  cases st with
  | FunctionDef nme a body dl rt tp sc ts bd pos =>
    simp only [erF] at er
    split at er
    · rename_i hc
      obtain ⟨c, hcs, rfl⟩ := Option.map_eq_some_iff.mp er
      obtain ⟨_, nd, h1, h2, h3, h4⟩ := hc
      obtain ⟨po, ar, va, ko, kd, kw, df⟩ := a
      have e1 : po = [] := by cases po with
        | nil => rfl
        | cons _ _ => cases h1
      have e3 : ko = [] := by cases ko with
        | nil => rfl
        | cons _ _ => cases h3
      have e2 : va = none := by cases va with
        | none => rfl
        | some _ => cases h2
      have e4 : kw = none := by cases kw with
        | none => rfl
        | some _ => cases h4
      subst e1 e2 e3 e4
      refine ⟨Binds.all fun us hl => bind_plain rfl rfl hl nd, fun ds S h => ?_⟩
      unfold runF
      exact if_neg h
    · cases er
  | _ => cases er
end
end Mi
namespace Mi
open PySem PySem.Spec PyProof.Rows L2
/-- a def of the text as the top has left it, and its erasure -/
structure FnRow (nm : Nm) (n : Nat) (T : Nat → Option CF) (K : PySem.W.Frag) (mg : Str → Option Value) (x : Str) (i : Nat) : Prop where
  ex : ∃ (f : Addr) (st : Stmt) (N : List Str) (cf : CF) (oc : Value) (od an : Option Addr) (osl : Array (Option Value)) (kV doc pm cdv ct : Value),
    mg x = some (.ref f) ∧ PySem.W.keepIn K (.ref f) = true ∧ K.lookup f = some ⟨oc, od, .func (PySem.W.fnOf x x (defArgs st) (defBody st) (defScope st) .none kV doc pm an cdv ct), osl⟩ ∧ PySem.W.codeIn K cdv x = true ∧
    erF nm n N st = some cf ∧ T i = some cf ∧ (x == ("__debug__" : Str)) = false
structure CtRow (ct : Nat → Option D) (K : PySem.W.Frag) (mg : Str → Option Value) (x : Str) (i : Nat) : Prop where
  ex : ∀ d, ct i = some d → ∃ u v, mg x = some u ∧ RelV v u ∧ (∀ ι H, DR K ι H d v) ∧ (x == ("__debug__" : Str)) = false
/-- a def inside a class -/
structure DefAt (nm : Nm) (n : Nat) (T : Nat → Option CF) (K : PySem.W.Frag) (f : Addr) (i : Nat) (m qual : Str) : Prop where
  ex : ∃ (st : Stmt) (N : List Str) (cf : CF) (oc : Value) (od an : Option Addr) (osl : Array (Option Value)) (kV doc pm cdv ct : Value),
    K.lookup f = some ⟨oc, od, .func (PySem.W.fnOf m qual (defArgs st) (defBody st) (defScope st) .none kV doc pm an cdv ct), osl⟩ ∧ PySem.W.codeIn K cdv qual = true ∧ erF nm n N st = some cf ∧ T i = some cf
structure MeRow (nm : Nm) (n : Nat) (T : Nat → Option CF) (K : PySem.W.Frag) (m c : Str) (i : Nat) : Prop where
  ex : ∃ C f qual, ClsN K c C ∧ Cls K C ∧ Meth K C m f ∧ DefAt nm n T K f i m qual
structure MkRow (nm : Nm) (n : Nat) (T : Nat → Option CF) (K : PySem.W.Frag) (mg : Str → Option Value) (x : Str) (i : Nat) : Prop where
  ex : ∃ C f qual, mg x = some (.ref C) ∧ ClsN K x C ∧ Cls K C ∧ Mk K C f ∧ DefAt nm n T K f i "__init__" qual ∧ (x == ("__debug__" : Str)) = false
def FlRow (K : PySem.W.Frag) (f c : Str) : Prop := ∃ C, ClsN K c C ∧ NoAttr K C f
/-- the text of a law, by its rows -/
structure Tx (nm : Nm) (n : Nat) (T : Nat → Option CF) (ct : Nat → Option D) (w : World) (K : PySem.W.Frag) (mg : Str → Option Value) : Prop where
  rows : ∀ x i, nm.fn x = some i → FnRow nm n T K mg x i
  cts : ∀ x i, nm.ct x = some i → CtRow ct K mg x i
  bls : ∀ x, x ∈ nm.bl → mg x = none
  xs : ∀ x, x ∈ nm.xs → XcK K mg x
  dt : ∀ p, p ∈ nm.dt → DtK w K mg p.1 p.2
  ix : ∀ ys yes, nm.yes ys = some yes → IsxK K mg nm.held ys yes
  cat : ∀ c, c ∈ nm.cat → CatK K mg nm.xs c
  fx : ∀ p, p ∈ nm.fx → FxK K mg p.1 p.2
  hd : ∀ p, p ∈ nm.hd → HdK K mg nm.held p.1 p.2
  mks : ∀ p, p ∈ nm.mks → MkRow nm n T K mg p.1 p.2
  me : ∀ p, p ∈ nm.me → ∀ q, q ∈ p.2 → MeRow nm n T K p.1 q.1 q.2
  fl : ∀ p, p ∈ nm.fl → ∀ c, c ∈ p.2 → FlRow K p.1 c
theorem def_all {nm : Nm} {n : Nat} {T : Nat → Option CF} {ct : Nat → Option D} {P : Program} {w : World} {K : PySem.W.Frag} {mg : Str → Option Value} {base : Heap} (tx : Tx nm n T ct w K mg) (sm : ∃ o es n, base.get? sysModules = some o ∧ o.data = .dict es n) :
    ∀ k, (∀ f i m qual, DefAt nm n T K f i m qual → IsDef P w K mg base k f (semN T ct k i)) ∧ Gb nm ⟨semN T ct k, ct⟩ P w K mg base k := by
  have row : ∀ {x i}, FnRow nm n T K mg x i → ∃ f, mg x = some (.ref f) ∧ PySem.W.keepIn K (.ref f) = true ∧ DefAt nm n T K f i x x ∧ (x == ("__debug__" : Str)) = false := by
    rintro x i ⟨f, st, N, cf, oc, od, an, osl, kV, doc, pm, cdv, c2, h1, h2, h3, h4, h5, h6, h7⟩
    exact ⟨f, h1, h2, ⟨st, N, cf, oc, od, an, osl, kV, doc, pm, cdv, c2, h3, h4, h5, h6⟩, h7⟩
  have gbk : ∀ k, (∀ f i m qual, DefAt nm n T K f i m qual → IsDef P w K mg base k f (semN T ct k i)) → Gb nm ⟨semN T ct k, ct⟩ P w K mg base k := by
    intro k ih
    refine ⟨sm, fun x i hx => ?_, fun x i d hx hd => (tx.cts x i hx).ex d hd, tx.bls, tx.xs, tx.dt, tx.ix, tx.cat, tx.fx, tx.hd, fun p hp => ?_, fun p hp q hq C hC => ?_, fun p hp c hc C hC => ?_⟩
    · obtain ⟨f, h1, h2, h3, h4⟩ := row (tx.rows x i hx)
      obtain ⟨fd, ps, a, b, c⟩ := ih f i x x h3
      exact ⟨h4, f, fd, ps, h1, h2, a, b, c⟩
    · obtain ⟨C, f, qual, h1, h2, h3, h4, h5, h6⟩ := (tx.mks p hp).ex
      exact ⟨C, f, h1, h2, h3, h4, ih f _ _ _ h5, h6⟩
    · obtain ⟨C', f, qual, h1, h2, h3, h4⟩ := (tx.me p hp q hq).ex
      cases h1.symm.trans hC
      exact ⟨f, h2, h3, ih f _ _ _ h4⟩
    · obtain ⟨C', h1, h2⟩ := tx.fl p hp c hc
      cases h1.symm.trans hC
      exact h2
  have key : ∀ k, ∀ f i m qual, DefAt nm n T K f i m qual → IsDef P w K mg base k f (semN T ct k i) := by
    intro k
    induction k with
    | zero =>
      intro f i m qual h
      obtain ⟨st, N, cf, oc, od, an, osl, kV, doc, pm, cdv, c2, h3, h4, h5, h6⟩ := h.ex
      refine ⟨_, _, ⟨fun A outer s H args us vs Q W hr hgu e0 hb r hl hsp => ?_⟩, (binds_g (G := ⟨fun _ _ _ => .bad, ct⟩) (K := K) (x := m) (qual := qual) (kV := kV) (doc := doc) (pm := pm) (cdv := cdv) (ct := c2) (an := an) h5).1, fun ds S _ => rfl⟩
      obtain ⟨ι, S, ds, so, dr, res⟩ := hsp
      exact res.elim
    | succ k ih =>
      intro f i m qual h
      obtain ⟨st, N, cf, oc, od, an, osl, kV, doc, pm, cdv, c2, h3, h4, h5, h6⟩ := h.ex
      have gb := gbk k ih
      have e : semN T ct (k + 1) i = runF ⟨semN T ct k, ct⟩ cf := by
        funext ds S
        show (match T i with
          | some f => runF ⟨semN T ct k, ct⟩ f ds S
          | none => .bad) = _
        rw [h6]
      obtain ⟨b1, b2⟩ := binds_g (G := ⟨semN T ct k, ct⟩) (K := K) (x := m) (qual := qual) (kV := kV) (doc := doc) (pm := pm) (cdv := cdv) (ct := c2) (an := an) h5
      refine ⟨_, _, ?_, b1, ?_⟩
      · rw [e]; exact fn_g gb h5 h3 h4
      · rw [e]; exact b2
  exact fun k => ⟨key k, gbk k (key k)⟩
/-- the head, for a promise over stores -/
theorem call_g {P : Program} {w : World} {K : PySem.W.Frag} {mg mb : Str → Option Value} {k : Nat} {fa a : Addr} {fd : FuncData} {x : Str} {F : List D → Store → R D} {s₁ : Shared} {vs : List Value} {ns : List Int}
    (KX : K.In s₁.heap) (hns : s₁.heap.Ns mainGlobals mg) (hb : s₁.heap.Ns builtinsNs mb) (hbb : ∀ x : Str, x ≠ "__name__" → mb x = bootBuiltins x) (hlim : s₁.heap.NoLimit) (hse : s₁.heap.NoSeer) (hg : s₁.gens = #[])
    (ha : s₁.heap.get? a = some { cls := .type "list", data := .seq vs.toArray }) (hi : IntsAre vs ns) (hl : ns.length ≤ sizeLine) (hr : Room (2 * k + 2) callerA)
    (G : ∀ base : Heap, K.In base → base.Ns mainGlobals mg → (∃ o es n, base.get? sysModules = some o ∧ o.data = .dict es n) → FnG P w K mg base k fa fd [x] F) (hbind : Binds K fd [x] [])
    (hok : ∃ S', F [.ref 0] [.frz (ns.map .int)] = .ok (.bl true) S') :
    codeAny (model P w) callerA (.call (.ref fa) ⟨[.ref a], []⟩) (fun r s' => r = .ok (.ret (.bool true)) ∧ OldK s₁.heap s'.heap ∧ s'.os = s₁.os ∧ AllBare s'.gens) s₁ := by
  have rv := vals_ints hi
  have lenV := hi.length
  have drs : ∀ (ι : List Addr) (H : Hp) (ns : List Int), DRs K ι H (ns.map .int) (ns.map V.int) := by
    intro ι H ns
    induction ns with
    | nil => rfl
    | cons n ns ih => exact ⟨.int n, ns.map V.int, rfl, rfl, ih⟩
  have core : ∀ H : Hp, Only H → Fz K H a (ns.map V.int) → HOk P w H s₁.heap → (∀ b, H b ≠ none → b = a) → (H a ≠ none → K.lookup a = none) →
      codeAny (model P w) callerA (.call (.ref fa) ⟨[.ref a], []⟩) (fun r s' => r = .ok (.ret (.bool true)) ∧ OldK s₁.heap s'.heap ∧ s'.os = s₁.os ∧ AllBare s'.gens) s₁ := by
    intro H hO hS hok' hA hK
    have base_of : ∀ {b : Addr} {o : Obj}, s₁.heap.get? b = some o → H b = none → (hidT s₁.heap H).get? b = some o := fun e n => hidT_get e n
    have noA : ∀ {b : Addr} {o : Obj} {es : Array DictEntry} {ep : Nat}, s₁.heap.get? b = some o → o.data = .dict es ep → H b = none := fun {b o es ep} e d => by
      cases q : H b with
      | none => rfl
      | some u =>
        have e' : b = a := hA b (by rw [q]; simp)
        subst e'
        rw [ha] at e; cases e
        have d' : Data.seq vs.toArray _ = Data.dict es ep := d
        cases d'
    have nsK : ∀ {b : Addr} {m : Str → Option Value}, s₁.heap.Ns b m → (hidT s₁.heap H).Ns b m := fun {b m} ⟨o, es, ep, e, d, r⟩ => ⟨o, es, ep, base_of e (noA e d), d, r⟩
    have hKb : K.In (hidT s₁.heap H) := fun b o e => base_of (KX b o e) (by
      cases q : H b with
      | none => rfl
      | some u =>
        have e' : b = a := hA b (by rw [q]; simp)
        subst e'
        rw [hK (by rw [q]; simp)] at e; cases e)
    have hM : Mod K mg (hidT s₁.heap H) := ⟨hKb, nsK hns, ⟨mb, nsK hb, hbb⟩, let ⟨mc, h1, h2⟩ := hlim; ⟨mc, nsK h1, h2⟩⟩
    have hsm : ∃ o es n, (hidT s₁.heap H).get? sysModules = some o ∧ o.data = .dict es n := by
      obtain ⟨mm, h1, _⟩ := hse.mods
      obtain ⟨o, es, ep, e, d, _⟩ := nsK h1
      exact ⟨o, es, ep, e, d⟩
    have e0 : Env0 P w K mg (hidT s₁.heap H) callerA [] s₁ H := ⟨rfl, hM, fun b o e => of_hidT e, Nat.le_of_eq (hidT_size _ _), trivial, fun b hb => absurd (show b ∈ ([] : List Addr) from hb) (by simp), hok', .of_eq hg⟩
    obtain ⟨S', eS⟩ := hok
    have so : Sok K [a] H [.frz (ns.map .int)] := by
      refine ⟨rfl, fun m n b c c' e1 e2 e3 e4 m1 m2 => ?_, fun n b c e1 e2 => ?_⟩
      · cases m with
        | zero => cases e3; cases m1
        | succ m => cases e3
      · cases n with
        | zero =>
          cases e1; cases e2
          exact ⟨_, hS, drs _ _ _⟩
        | succ n => cases e1
    have bd := hbind s₁ [.ref a] KX rfl
    rw [List.append_nil] at bd
    refine codeAny_mono ((G _ hKb (nsK hns) hsm).run callerA [] s₁ H ⟨[.ref a], []⟩ [.ref a] [.ref a] (fun v _ => v = .bl true) (fun _ _ _ => False) hr rfl e0 bd (.cons rfl .nil) rfl ⟨[a], [.frz (ns.map .int)], [.ref 0], so, ⟨.ref a, [], rfl, ⟨a, rfl, rfl⟩, rfl⟩, by rw [eS]; exact fun ι' H' v _ _ _ r => r⟩) fun r s' h => ?_
    cases r with
    | error e =>
      obtain ⟨_, _, _, _, _, _, _, _, _, _, _, _, _, _, _, _, _, _, no⟩ := (show L2.CX P w [] H s₁ (WX0 K fun _ _ _ => False) e s' from h)
      exact no.elim
    | ok fl =>
      cases fl with
      | next => exact False.elim h
      | brk => exact False.elim h
      | cont => exact False.elim h
      | ret u =>
        obtain ⟨v, H', os, bare, un, hok', r', q⟩ := h
        have q' : v = .bl true := q
        subst q'
        obtain rfl : u = Value.bool true := r'
        refine ⟨rfl, OldK.of_keep fun b o e => ?_, os, bare⟩
        cases q : H b with
        | none => exact un.keep b o e q (by intro z; exact absurd (show b ∈ ([] : List Addr) from z) (by simp)) (by simp)
        | some u =>
          rcases hO b with z | ⟨ob, xs, z⟩
          · rw [q] at z; cases z
          · have z2 := un.frzs b ob _ z
            obtain ⟨e1, _⟩ := e0.hok b _ z
            obtain ⟨e2, _⟩ := hok' b _ z2
            rw [e] at e1; cases e1
            exact e2
  cases hk : K.lookup a with
  | some o =>
    have e := KX a o hk
    rw [ha] at e
    cases e
    refine core (fun _ => none) (fun _ => .inl rfl) (.inr ⟨_, vs.toArray, _, hk, rfl, rfl, rfl, by rw [List.size_toArray, lenV]; exact hl, by simpa using rv⟩) (fun b u z => by have z' : (none : Option HO) = some u := z; cases z') (fun b z => absurd rfl z) fun z => absurd rfl z
  | none =>
    refine core (fun b => if b = a then some (.frz { cls := .type "list", data := .seq vs.toArray } (.lst (ns.map V.int))) else none) (fun b => ?_) (.inl ⟨{ cls := .type "list", data := .seq vs.toArray }, if_pos rfl⟩) (fun b u z => ?_) (fun b z => ?_) fun _ => hk
    · by_cases hb : b = a
      · exact .inr ⟨_, _, if_pos hb⟩
      · exact .inl (if_neg hb)
    · by_cases hb : b = a
      · have z' := (if_pos hb).symm.trans z
        cases z'
        subst hb
        exact ⟨ha, by rw [List.length_map]; exact hl, vs, _, rv, ha⟩
      · have z' := (if_neg hb).symm.trans z
        cases z'
    · by_cases hb : b = a
      · exact hb
      · exact absurd (if_neg hb) z
theorem walk_mi {l : PySem.W.OpenLaw} {m k n iL : Nat} {q : Program} {loose : List Str} {XP : (Str → Option Value) → Heap → Prop} {YP : World → Heap → Prop} {d : DefRec} {K : Params → PySem.W.Frag} {nm : Nm} {T : Nat → Option CF} {ct : Nat → Option D}
    (hn : l.most = some m) (hn2 : m ≤ sizeLine) (hdf : d.params.defaults = []) (hr : Room (2 * k + 2) callerA) (him : PyProof.Rows.importsNone q = true)
    (hY : ∀ (w : World) (h : Heap), YP w h → (K w.params).In h) (hiL : nm.fn d.name = some iL) (h1 : ∀ cf, T iL = some cf → cf.ps = 1)
    (F : ∀ (w : World) (mg : Str → Option Value) (h : Heap), (K w.params).In h → h.Ns mainGlobals mg → Tx nm n T ct w (K w.params) mg)
    (hlaw : ∀ ns : List Int, ns.length ≤ m → (∀ z ∈ ns, Builtin.Int.intBits z ≤ 1048576) → ∃ S', semN T ct k iL [.ref 0] [.frz (ns.map .int)] = .ok (.bl true) S') :
    PySem.W.WalkO q loose XP YP l.row.toRowW d [] (fun f vs => PySem.call f vs) := by
  refine Att.attach_callB hn hdf fun w s₀ s₁ mg mb fa o pm cd doc a vs ns G Y ho hd hcd hmg hobj hints hlen hbits hg => ?_
  have KX := hY w _ Y
  have tx := F w mg _ KX G.T.g
  obtain ⟨f, st, N, cf, oc, od, an, osl, kV, doc2, pm2, cdv, c2, g1, g2, g3, g4, g5, g6, g7⟩ := (tx.rows _ _ hiL).ex
  rw [hmg] at g1
  cases g1
  have hps : ((defArgs st).args.map (·.arg)).length = 1 := by
    have := h1 cf g6
    cases st with
    | FunctionDef nme a body dl rt tp sc ts bd pos =>
      simp only [erF] at g5
      split at g5
      · obtain ⟨c, _, rfl⟩ := Option.map_eq_some_iff.mp g5
        exact this
      · cases g5
    | _ => cases g5
  obtain ⟨x, hx⟩ : ∃ x, (defArgs st).args.map (·.arg) = [x] := by
    cases e : (defArgs st).args.map (·.arg) with
    | nil => rw [e] at hps; cases hps
    | cons x r =>
      rw [e] at hps
      cases r with
      | nil => exact ⟨x, rfl⟩
      | cons _ _ => simp at hps
  have hb := (binds_g (G := ⟨semN T ct 0, ct⟩) (K := K w.params) (x := d.name) (qual := d.name) (kV := kV) (doc := doc2) (pm := pm2) (cdv := cdv) (ct := c2) (an := an) g5).1
  rw [hx] at hb
  have e : ∀ k, semN T ct (k + 1) iL = runF ⟨semN T ct k, ct⟩ cf := by
    intro k
    funext ds S
    show (match T iL with
      | some f => runF ⟨semN T ct k, ct⟩ f ds S
      | none => .bad) = _
    rw [g6]
  cases k with
  | zero =>
    obtain ⟨S', h⟩ := hlaw ns hlen hbits
    cases h
  | succ k =>
    refine call_g (F := semN T ct (k + 1) iL) KX G.T.g G.T.b G.T.builtins G.T.nolimit (G.T.seer him) hg hobj hints (Nat.le_trans hlen hn2) hr (fun base hKb hns sm => ?_) hb (hlaw ns hlen hbits)
    rw [e k]
    have gb := (def_all (P := l.prog) (w := w) (base := base) tx sm k).2
    have := fn_g (x := d.name) (qual := d.name) (f := fa) (dV := .none) gb g5 g3 g4
    rw [hx] at this
    exact this
end Mi
namespace Mi
open PySem PySem.Spec PyProof.Rows L2
section
variable {nm : Nm} {n : Nat} {T : Nat → Option CF} {ct : Nat → Option D} {K : PySem.W.Frag} {mg : Str → Option Value} {h : Heap}
theorem row_mk {x : Str} {i : Nat} {st : Stmt} {N : List Str} {cf : CF} (X : K.In h) (G : h.Ns mainGlobals mg) {f : Addr} {oc : Value} {od an : Option Addr} {osl : Array (Option Value)} {kV doc pm cdv c2 : Value}
    (er : erF nm n N st = some cf) (t : T i = some cf) (db : (x == ("__debug__" : Str)) = false) (a : PySem.W.nsIn K mainGlobals x = some (some (.ref f)))
    (l : K.lookup f = some ⟨oc, od, .func (PySem.W.fnOf x x (defArgs st) (defBody st) (defScope st) .none kV doc pm an cdv c2), osl⟩) (c : PySem.W.codeIn K cdv x = true) (k : PySem.W.keepIn K (.ref f) = true) : FnRow nm n T K mg x i :=
  ⟨f, st, N, cf, oc, od, an, osl, kV, doc, pm, cdv, c2, PySem.W.mg_of X G a, k, l, c, er, t, db⟩
theorem ct_int {x : Str} {i : Nat} {z : Int} {t : Tok} (X : K.In h) (G : h.Ns mainGlobals mg) (e : ct i = some (.int z)) (db : (x == ("__debug__" : Str)) = false) (a : PySem.W.nsIn K mainGlobals x = some (some (.int z t))) : CtRow ct K mg x i :=
  ⟨fun d hd => by rw [e] at hd; cases hd; exact ⟨_, .int z, PySem.W.mg_of X G a, ⟨t, rfl⟩, fun _ _ => rfl, db⟩⟩
theorem ct_str {x : Str} {i : Nat} {z : Str} {t : Tok} (X : K.In h) (G : h.Ns mainGlobals mg) (e : ct i = some (.str z)) (db : (x == ("__debug__" : Str)) = false) (a : PySem.W.nsIn K mainGlobals x = some (some (.str z t))) : CtRow ct K mg x i :=
  ⟨fun d hd => by rw [e] at hd; cases hd; exact ⟨_, .str z, PySem.W.mg_of X G a, ⟨t, rfl⟩, fun _ _ => rfl, db⟩⟩
/-- a tuple of texts and ints -/
def scV : D → Option V
  | .int i => some (.int i)
  | .str x => some (.str x)
  | .bl b => some (.bl b)
  | .non => some .non
  | _ => none
def scVs : List D → Option (List V)
  | [] => some []
  | d :: r => match scV d, scVs r with
    | some v, some vs => some (v :: vs)
    | _, _ => none
theorem scV_dr {d : D} {v : V} (e : scV d = some v) (ι : List Addr) (H : Hp) : DR K ι H d v := by
  cases d <;> first | (cases e; rfl) | cases e
theorem scVs_dr : ∀ {ds : List D} {vs : List V}, scVs ds = some vs → ∀ (ι : List Addr) (H : Hp), DRs K ι H ds vs
  | [], vs, e, _, _ => by cases e; rfl
  | d :: r, vs, e, ι, H => by
    simp only [scVs] at e
    split at e
    · rename_i v vs' h1 h2
      cases e
      exact ⟨v, vs', rfl, scV_dr h1 ι H, scVs_dr h2 ι H⟩
    · cases e
def relB : V → Value → Bool
  | .int i, .int j _ => decide (i = j)
  | .str x, .str y _ => decide (x = y)
  | .bl a, .bool b => decide (a = b)
  | .non, .none => true
  | _, _ => false
theorem relB_ok {v : V} {u : Value} (h : relB v u = true) : RelV v u := by
  cases v <;> cases u <;> first
    | exact ⟨_, by rw [of_decide_eq_true h]⟩
    | (have := of_decide_eq_true h; subst this; rfl)
    | exact (rfl : Value.none = Value.none)
    | cases h
def valsB : List V → List Value → Bool
  | [], [] => true
  | v :: vs, u :: us => relB v u && valsB vs us
  | _, _ => false
theorem valsB_ok : ∀ {vs : List V} {us : List Value}, valsB vs us = true → Vals vs us
  | [], [], _ => .nil
  | v :: vs, u :: us, h => by
    simp only [valsB, Bool.and_eq_true] at h
    exact .cons (relB_ok h.1) (valsB_ok h.2)
  | [], _ :: _, h => by cases h
  | _ :: _, [], h => by cases h
theorem ct_tup {x : Str} {i : Nat} {ds : List D} {vs : List V} {a : Addr} {its : Array Value} {m : Nat} {dd : Option Addr} {sl : Array (Option Value)} (X : K.In h) (G : h.Ns mainGlobals mg) (e : ct i = some (.kt ds)) (db : (x == ("__debug__" : Str)) = false) (ev : scVs ds = some vs)
    (ha : PySem.W.nsIn K mainGlobals x = some (some (.ref a))) (l : K.lookup a = some ⟨.type "tuple", dd, .seq its m, sl⟩) (r : valsB vs its.toList = true) (z : its.size ≤ sizeLine) : CtRow ct K mg x i :=
  ⟨fun d hd => by
    rw [e] at hd; cases hd
    exact ⟨_, .ref a, PySem.W.mg_of X G ha, rfl, fun ι H => ⟨a, vs, rfl, ⟨_, its, m, l, rfl, rfl, z, valsB_ok r⟩, scVs_dr ev ι H⟩, db⟩⟩
theorem rows_of {fns : List (Str × Nat)} (h : ∀ p ∈ fns, FnRow nm n T K mg p.1 p.2) : ∀ x i, fns.lookup x = some i → FnRow nm n T K mg x i := fun x i e => h (x, i) (PySem.mem_of_lookup e)
theorem cts_of {cts : List (Str × Nat)} (h : ∀ p ∈ cts, CtRow ct K mg p.1 p.2) : ∀ x i, cts.lookup x = some i → CtRow ct K mg x i := fun x i e => h (x, i) (PySem.mem_of_lookup e)
theorem rows_nil : ∀ p ∈ ([] : List (Str × Nat)), FnRow nm n T K mg p.1 p.2 := fun _ h => by cases h
theorem rows_cons {x : Str} {i : Nat} {l : List (Str × Nat)} (h : FnRow nm n T K mg x i) (t : ∀ p ∈ l, FnRow nm n T K mg p.1 p.2) : ∀ p ∈ (x, i) :: l, FnRow nm n T K mg p.1 p.2 := fun p hp => by
  rcases List.mem_cons.mp hp with rfl | hp
  · exact h
  · exact t p hp
theorem cts_nil : ∀ p ∈ ([] : List (Str × Nat)), CtRow ct K mg p.1 p.2 := fun _ h => by cases h
theorem cts_cons {x : Str} {i : Nat} {l : List (Str × Nat)} (h : CtRow ct K mg x i) (t : ∀ p ∈ l, CtRow ct K mg p.1 p.2) : ∀ p ∈ (x, i) :: l, CtRow ct K mg p.1 p.2 := fun p hp => by
  rcases List.mem_cons.mp hp with rfl | hp
  · exact h
  · exact t p hp
theorem bls_nil : ∀ x ∈ ([] : List Str), mg x = none := fun _ h => by cases h
theorem bls_cons {y : Str} {l : List Str} (h : mg y = none) (t : ∀ x ∈ l, mg x = none) : ∀ x ∈ y :: l, mg x = none := fun p hp => by
  rcases List.mem_cons.mp hp with rfl | hp
  · exact h
  · exact t p hp
theorem all_nil {α : Type} {P : α → Prop} : ∀ p ∈ ([] : List α), P p := fun _ h => by cases h
theorem all_cons {α : Type} {P : α → Prop} {a : α} {l : List α} (h : P a) (t : ∀ p ∈ l, P p) : ∀ p ∈ a :: l, P p := fun p hp => by
  rcases List.mem_cons.mp hp with rfl | hp
  · exact h
  · exact t p hp
theorem bl_mk {x : Str} (X : K.In h) (G : h.Ns mainGlobals mg) (z : PySem.W.nsIn K mainGlobals x = some none) : mg x = none := PySem.W.mg_none_of X G z
end
end Mi
namespace Mi
open PySem L2
theorem gc_len {S S' : Store} {d : D} (hl : S'.length = S.length) : gc S d S' = .ok d S' := by
  unfold gc
  by_cases hc : d.lt S.length = true ∧ Keep S S'
  · rw [if_pos hc, ← hl, List.take_length]
  · rw [if_neg hc]
    cases d with
    | ref k =>
      cases e : S'[k]? with
      | none => simp only [e]
      | some c =>
        have : k < S'.length := (List.getElem?_eq_some_iff.mp e).1
        simp only [e]
        rw [if_neg (by rintro ⟨a, _⟩; omega)]
    | _ => rfl
theorem gc_same {S : Store} {d : D} : gc S d S = .ok d S := gc_len rfl
theorem keep_app {S A T : Store} (h : A.length = S.length) (k : ∀ (i : Nat) (c : Cell), A[i]? = some c → S[i]? = some c ∨ c.lt S.length = true) : Keep S (A ++ T) := by
  refine ⟨by rw [List.length_append]; omega, fun i c hi e => ?_⟩
  rw [List.getElem?_append_left (by omega)] at e
  exact k i c e
theorem gc_app {S A T : Store} {d : D} (hd : d.lt S.length = true) (h : A.length = S.length) (k : ∀ (i : Nat) (c : Cell), A[i]? = some c → S[i]? = some c ∨ c.lt S.length = true) : gc S d (A ++ T) = .ok d A := by
  unfold gc
  rw [if_pos ⟨hd, keep_app h k⟩, ← h, List.take_left]
theorem gc_app0 {S T : Store} {d : D} (hd : d.lt S.length = true) : gc S d (S ++ T) = .ok d S := gc_app hd rfl fun _ _ e => .inl e
theorem gc_new {S A T : Store} {m : Nat} {c : Cell} (h : A.length = S.length) (k : ∀ (i : Nat) (c : Cell), A[i]? = some c → S[i]? = some c ∨ c.lt S.length = true) (hm : S.length ≤ m) (e : (A ++ T)[m]? = some c) (hc : c.lt S.length = true) : gc S (.ref m) (A ++ T) = .ok (.ref S.length) (A ++ [c]) := by
  unfold gc
  rw [if_neg (by rintro ⟨a, _⟩; simp [D.lt] at a; omega)]
  simp only [e]
  rw [if_pos ⟨hm, hc, keep_app h k⟩, ← h, List.take_left]
theorem gc_new0 {S T : Store} {m : Nat} {c : Cell} (hm : S.length ≤ m) (e : (S ++ T)[m]? = some c) (hc : c.lt S.length = true) : gc S (.ref m) (S ++ T) = .ok (.ref S.length) (S ++ [c]) := gc_new rfl (fun _ _ e => .inl e) hm e hc
@[simp] theorem ofB_some {b : Bool} {S : Store} : ofB (some b) S = .ok (.bl b) S := rfl
@[simp] theorem optR_some {d : D} {S : Store} : optR (some d) S = .ok d S := rfl
@[simp] theorem okIf_true {d : D} {S : Store} : okIf true d S = .ok d S := rfl
@[simp] theorem ofO_some {α : Type} {a : α} {S : Store} : ofO (some a) S = .ok a S := rfl
theorem atI_nat {α : Type} {xs : List α} {i : Nat} {x : α} (h : xs[i]? = some x) : L2.atI xs (i : Int) = some x := by
  have hl : i < xs.length := (List.getElem?_eq_some_iff.mp h).1
  unfold L2.atI L2.ixN
  rw [if_pos (by omega), if_pos (by omega)]
  simpa using h
theorem atI_int {α : Type} {xs : List α} {i : Int} (h0 : 0 ≤ i) (h1 : i < xs.length) : ∃ x, L2.atI xs i = some x ∧ x ∈ xs := by
  have hl : i.toNat < xs.length := by omega
  have e : xs[i.toNat]? = some xs[i.toNat] := List.getElem?_eq_getElem hl
  have e2 : (i.toNat : Int) = i := by omega
  have h := atI_nat e
  rw [e2] at h
  exact ⟨_, h, List.getElem_mem hl⟩
def kC : Key := .inr "cells"
def kT : Key := .inr "turn"
def kR : Key := .inr "rest"
def penC (c : Nat) (t r : Int) : Cell := .dK [(.inr "cells", .ref c), (.inr "turn", .int t), (.inr "rest", .int r)]
def setPen (S : Store) (p c : Nat) (t r : Int) : Store := S.set p (penC c t r)
structure Pen (p c : Nat) (cs : List Int) (t r : Int) (S : Store) : Prop where
  pen : S[p]? = some (penC c t r)
  cells : S[c]? = some (.lst (cs.map .int))
theorem Pen.plt {p c : Nat} {cs : List Int} {t r : Int} {S : Store} (h : Pen p c cs t r S) : p < S.length := (List.getElem?_eq_some_iff.mp h.pen).1
theorem Pen.clt {p c : Nat} {cs : List Int} {t r : Int} {S : Store} (h : Pen p c cs t r S) : c < S.length := (List.getElem?_eq_some_iff.mp h.cells).1
theorem Pen.ne {p c : Nat} {cs : List Int} {t r : Int} {S : Store} (h : Pen p c cs t r S) : p ≠ c := by
  rintro rfl
  have h1 := h.pen
  rw [h.cells] at h1
  cases h1
@[simp] theorem setPen_len (S : Store) (p c : Nat) (t r : Int) : (setPen S p c t r).length = S.length := by simp [setPen]
theorem Pen.set {p c : Nat} {cs : List Int} {t r : Int} {S : Store} (h : Pen p c cs t r S) (t' r' : Int) : Pen p c cs t' r' (setPen S p c t' r') := by
  refine ⟨?_, ?_⟩
  · unfold setPen
    rw [List.getElem?_set_self h.plt]
  · unfold setPen
    rw [List.getElem?_set_ne h.ne]
    exact h.cells
theorem Pen.app {p c : Nat} {cs : List Int} {t r : Int} {S : Store} (h : Pen p c cs t r S) (T : Store) : Pen p c cs t r (S ++ T) := by
  refine ⟨?_, ?_⟩
  · rw [List.getElem?_append_left h.plt]; exact h.pen
  · rw [List.getElem?_append_left h.clt]; exact h.cells
@[simp] theorem setPen_set (S : Store) (p c : Nat) (t r t' r' : Int) : setPen (setPen S p c t r) p c t' r' = setPen S p c t' r' := by simp [setPen]
theorem setPen_app {S T : Store} {p c : Nat} {t r : Int} (h : p < S.length) : setPen (S ++ T) p c t r = setPen S p c t r ++ T := by
  unfold setPen
  rw [List.set_append_left _ _ h]
theorem setPen_same {p c : Nat} {cs : List Int} {t r : Int} {S : Store} (h : Pen p c cs t r S) : setPen S p c t r = S := by
  unfold setPen
  refine List.ext_getElem? fun i => ?_
  by_cases e : p = i
  · subst e
    rw [List.getElem?_set_self h.plt, h.pen]
  · rw [List.getElem?_set_ne e]
/-- behind an expression that drew: what is new is dropped -/
theorem Pen.keep {p c : Nat} {cs : List Int} {t r : Int} {S : Store} (h : Pen p c cs t r S) (t' r' : Int) : ∀ (i : Nat) (x : Cell), (setPen S p c t' r')[i]? = some x → S[i]? = some x ∨ x.lt S.length = true := by
  intro i x e
  by_cases hi : p = i
  · subst hi
    have := (h.set t' r').pen
    rw [this] at e
    cases e
    exact .inr (by simp [Cell.lt, penC, D.ltAll, D.lt, h.clt])
  · unfold setPen at e
    rw [List.getElem?_set_ne hi] at e
    exact .inl e
theorem Pen.gc {p c : Nat} {cs : List Int} {t r : Int} {S T : Store} {d : D} (h : Pen p c cs t r S) (hd : d.lt S.length = true) (t' r' : Int) : gc S d (setPen S p c t' r' ++ T) = .ok d (setPen S p c t' r') :=
  gc_app hd (by simp) (h.keep t' r')
theorem Pen.gc1 {p c : Nat} {cs : List Int} {t r : Int} {S : Store} {d : D} (t' r' : Int) : Mi.gc S d (setPen S p c t' r') = .ok d (setPen S p c t' r') := gc_len (by simp)
end Mi
namespace Mi
open PySem L2
theorem R.bind_congr {α β : Type} {r r' : R α} (f : α → Store → R β) (h : r = r') : r.bind f = r'.bind f := by rw [h]
theorem ifB_congr {α : Type} {d d' : D} (x y : R α) (h : d = d') : ifB d x y = ifB d' x y := by rw [h]
@[simp] theorem ifB_t {α : Type} (x y : R α) : ifB (.bl true) x y = x := rfl
@[simp] theorem ifB_f {α : Type} (x y : R α) : ifB (.bl false) x y = y := rfl
section
variable {G : Gv} {L : Lcs} {S : Store}
@[simp] theorem ev_cst {d : D} : evE G (.cst d) L S = .ok d S := rfl
theorem ev_loc {i : Nat} : evE G (.loc i) L S = (match L[i]? with | some (some d) => .ok d S | _ => .bad) := rfl
@[simp] theorem ev_loc0 {d : D} {r : Lcs} : evE G (.loc 0) (some d :: r) S = .ok d S := rfl
@[simp] theorem ev_locS {d : Option D} {r : Lcs} {i : Nat} : evE G (.loc (i + 1)) (d :: r) S = evE G (.loc i) r S := rfl
@[simp] theorem ev_glb {x : Nat} : evE G (.glb x) L S = optR (G.ct x) S := rfl
@[simp] theorem ev_bin {op : Operator} {a b : CE} : evE G (.bin op a b) L S = (evE G a L S).bind fun x S1 => (evE G b L S1).bind fun y S2 => binD op x y S2 := rfl
@[simp] theorem ev_neg {a : CE} : evE G (.neg a) L S = (evE G a L S).bind negD := rfl
@[simp] theorem ev_not {a : CE} : evE G (.not a) L S = (evE G a L S).bind fun x S1 => ifB x (.ok (.bl false) S1) (.ok (.bl true) S1) := rfl
@[simp] theorem ev_and {a b : CE} : evE G (.and a b) L S = (evE G a L S).bind fun x S1 => ifB x ((evE G b L S1).bind fun y S2 => ifB y (.ok (.bl true) S2) (.ok (.bl false) S2)) (.ok (.bl false) S1) := rfl
@[simp] theorem ev_or {a b : CE} : evE G (.or a b) L S = (evE G a L S).bind fun x S1 => ifB x (.ok (.bl true) S1) ((evE G b L S1).bind fun y S2 => ifB y (.ok (.bl true) S2) (.ok (.bl false) S2)) := rfl
@[simp] theorem ev_cmp {op : CmpOp} {a b : CE} : evE G (.cmp op a b) L S = ((evE G a L S).bind fun x S1 => (evE G b L S1).bind fun y S2 => cmpD op x y S2).gc S := rfl
@[simp] theorem ev_chn {p q : CmpOp} {a b c : CE} : evE G (.chn p q a b c) L S = ((evE G a L S).bind fun x S1 => (evE G b L S1).bind fun y S2 => (cmpD p x y S2).bind fun r S3 => ifB r ((evE G c L S3).bind fun z S4 => cmpD q y z S4) (.ok (.bl false) S3)).gc S := rfl
@[simp] theorem ev_ite {c a b : CE} : evE G (.ite c a b) L S = (evE G c L S).bind fun x S1 => ifB x (evE G a L S1) (evE G b L S1) := rfl
@[simp] theorem ev_tup {as : CA} : evE G (.tup as) L S = (evA G as L S).bind fun ds S1 => okIf (sizeOk ds.length) (.tup ds) S1 := rfl
@[simp] theorem ev_lst {as : CA} : evE G (.lst as) L S = (evA G as L S).bind fun ds S1 => if sizeOk ds.length then newC (.lst ds) S1 else .bad := rfl
@[simp] theorem ev_idx {a b : CE} : evE G (.idx a b) L S = ((evE G a L S).bind fun x S1 => (evE G b L S1).bind fun y S2 => idxD x y S2).gc S := rfl
@[simp] theorem ev_rev {a : CE} : evE G (.rev a) L S = ((evE G a L S).bind revD).gc S := rfl
@[simp] theorem ev_call {f : Nat} {as : CA} : evE G (.call f as) L S = ((evA G as L S).bind fun ds S1 => G.fn f ds S1).gc S := rfl
@[simp] theorem ev_bi {f : Bi} {as : CA} : evE G (.bi f as) L S = ((evA G as L S).bind fun ds S1 => biD f ds S1).gc S := rfl
@[simp] theorem ev_mth {m : Mt} {o : CE} {as : CA} : evE G (.mth m o as) L S = ((evE G o L S).bind fun x S1 => if mtTy m x S1 = true then (evA G as L S1).bind fun ds S2 => mtD m x ds S2 else .bad).gc S := rfl
theorem slcN {e : CE} {hi : CE} : evE G (.slc e false (.cst .non) false (.cst .non)) L S = ((evE G e L S).bind fun d S1 => slcD d none none S1).gc S := by
  show ((evE G e L S).bind fun d S1 => _).gc S = _
  congr 1
@[simp] theorem slc_l {e l : CE} {c : CE} : evE G (.slc e true l false c) L S = ((evE G e L S).bind fun d S1 => (evE G l L S1).bind fun u S2 => match u with | .int i => slcD d (some i) none S2 | _ => .bad).gc S := by
  simp only [evE, if_true, Bool.false_eq_true, if_false]
  congr 2
  funext d S1
  cases evE G l L S1 with
  | ok u S2 => cases u <;> rfl
  | exc _ _ => rfl
  | bad => rfl
@[simp] theorem slc_h {e h : CE} {c : CE} : evE G (.slc e false c true h) L S = ((evE G e L S).bind fun d S1 => (evE G h L S1).bind fun u S2 => match u with | .int i => slcD d none (some i) S2 | _ => .bad).gc S := by
  simp only [evE, if_true, Bool.false_eq_true, if_false]
  congr 2
  funext d S1
  rw [R.bind_ok]
  cases evE G h L S1 with
  | ok u S2 => cases u <;> rfl
  | exc _ _ => rfl
  | bad => rfl
@[simp] theorem slc_lh {e l h : CE} : evE G (.slc e true l true h) L S = ((evE G e L S).bind fun d S1 => (evE G l L S1).bind fun u S2 => match u with
    | .int i => (evE G h L S2).bind fun u S3 => match u with | .int j => slcD d (some i) (some j) S3 | _ => .bad
    | _ => .bad).gc S := by
  simp only [evE, if_true]
  congr 2
  funext d S1
  cases evE G l L S1 with
  | exc _ _ => rfl
  | bad => rfl
  | ok u S2 =>
    cases u with
    | int i =>
      simp only [R.bind_ok]
      cases evE G h L S2 with
      | ok u S3 => cases u <;> rfl
      | exc _ _ => rfl
      | bad => rfl
    | _ => rfl
@[simp] theorem ev_anil : evA G .nil L S = .ok [] S := rfl
@[simp] theorem ev_acons {e : CE} {r : CA} : evA G (.cons e r) L S = (evE G e L S).bind fun d S1 => (evA G r L S1).bind fun ds S2 => .ok (d :: ds) S2 := rfl
@[simp] theorem ev_val {e : CE} : evI G (.val e) L S = (evE G e L S).bind fun d S1 => ofO (walkD S1 d) S1 := rfl
@[simp] theorem ev_rng {as : CA} : evI G (.rng as) L S = (evA G as L S).bind fun ds S1 => ofO ((rngD ds).map fun l => (l, [])) S1 := rfl
@[simp] theorem ev_enu {e : CE} : evI G (.enu e) L S = (evE G e L S).bind fun d S1 => ofO ((walkE S1 d).map fun p => (enuFrom 0 p.1, p.2)) S1 := rfl
@[simp] theorem ev_zip {a b : CE} : evI G (.zip a b) L S = (evE G a L S).bind fun x S1 => (evE G b L S1).bind fun y S2 => ofO (zipD S2 x y) S2 := rfl
@[simp] theorem ex_nil : exS G .nil L S = .ok (.nx, L) S := rfl
@[simp] theorem ex_asg {t : CT} {e : CE} {r : CSs} : exS G (.asg t e r) L S = (evE G e L S).bind fun d S1 => (ofO (asgT t d S1 L) S1).bind fun L1 S2 => exS G r L1 S2 := rfl
@[simp] theorem ex_sub {o i e : CE} {r : CSs} : exS G (.sub o i e r) L S = (evE G e L S).bind fun v S1 => (evE G o L S1).bind fun x S2 => (evE G i L S2).bind fun k S3 => (ofO (subD x k v S3) S3).bind fun S4 _ => exS G r L S4 := by
  simp only [exS]
  congr 1
  funext v S1
  congr 1
  funext x S2
  congr 1
  funext k S3
  cases subD x k v S3 <;> rfl
@[simp] theorem ex_exp {e : CE} {r : CSs} : exS G (.exp e r) L S = (evE G e L S).bind fun _ S1 => exS G r L S1 := rfl
@[simp] theorem ex_ret {e : CE} : exS G (.ret e) L S = (evE G e L S).bind fun d S1 => .ok (.ret d, L) S1 := rfl
/-- behind a part -/
noncomputable def thenS (G : Gv) (r : CSs) (q : R (Fl × Lcs)) : R (Fl × Lcs) := q.bind fun p S2 => match p.1 with
  | .nx => exS G r p.2 S2
  | _ => .ok p S2
@[simp] theorem then_nx {r : CSs} : thenS G r (.ok (.nx, L) S) = exS G r L S := rfl
@[simp] theorem then_ret {r : CSs} {d : D} : thenS G r (.ok (.ret d, L) S) = .ok (.ret d, L) S := rfl
@[simp] theorem then_brk {r : CSs} : thenS G r (.ok (.brk, L) S) = .ok (.brk, L) S := rfl
@[simp] theorem then_ct {r : CSs} : thenS G r (.ok (.ct, L) S) = .ok (.ct, L) S := rfl
theorem then_congr {r : CSs} {q q' : R (Fl × Lcs)} (h : q = q') : thenS G r q = thenS G r q' := by rw [h]
@[simp] theorem ex_ifs {c : CE} {a b r : CSs} : exS G (.ifs c a b r) L S = (evE G c L S).bind fun x S1 => thenS G r (ifB x (exS G a L S1) (exS G b L S1)) := rfl
/-- a loop's turn -/
noncomputable def body2 (G : Gv) (t : CT) (b : CSs) : D → Lcs → Store → R (Fl × Lcs) := fun d L1 S2 => (ofO (asgT t d S2 L1) S2).bind fun L2 S3 => exS G b L2 S3
@[simp] theorem ex_for {t : CT} {it : CI} {b r : CSs} : exS G (.for_ t it b r) L S = (evI G it L S).bind fun q S1 => thenS G r (forLoop (body2 G t b) q.2 q.1 L S1) := rfl
@[simp] theorem asg_nm {i : Nat} {d : D} : asgT (.nm i) d S L = if i < L.length then some (L.set i (some d)) else none := rfl
@[simp] theorem asg_tpt {ts : List CT} {ds : List D} : asgT (.tp ts) (.tup ds) S L = if ds.length = ts.length then asgTs ts ds S L else none := rfl
@[simp] theorem asg_snil : asgTs [] [] S L = some L := rfl
@[simp] theorem asg_scons {t : CT} {ts : List CT} {d : D} {ds : List D} : asgTs (t :: ts) (d :: ds) S L = (asgT t d S L).bind (asgTs ts ds S) := rfl
@[simp] theorem bin_addI {i j : Int} : binD .Add (.int i) (.int j) S = .ok (.int (i + j)) S := rfl
@[simp] theorem bin_subI {i j : Int} : binD .Sub (.int i) (.int j) S = .ok (.int (i - j)) S := rfl
theorem bin_mul {i j : Int} (h : CMul i j) : binD .Mult (.int i) (.int j) S = .ok (.int (i * j)) S := by
  show okIf (decide (CMul i j) || decide (CMulW i j)) _ S = _
  rw [decide_eq_true h]; rfl
theorem bin_div {i j : Int} (h : CDivW i j) : binD .FloorDiv (.int i) (.int j) S = .ok (.int (i / j)) S := by
  show okIf (decide (CDivW i j)) _ S = _
  rw [decide_eq_true h]; rfl
theorem bin_mod {i j : Int} (h : 0 < j) : binD .Mod (.int i) (.int j) S = .ok (.int (i % j)) S := by
  show okIf (decide (0 < j)) _ S = _
  rw [decide_eq_true h]; rfl
theorem bin_pow {i j : Int} (h : CPow i j) : binD .Pow (.int i) (.int j) S = .ok (.int (i ^ j.toNat)) S := by
  show okIf (decide (CPow i j)) _ S = _
  rw [decide_eq_true h]; rfl
@[simp] theorem pow18 : binD .Pow (.int 10) (.int 18) S = .ok (.int 1000000000000000000) S := by rw [bin_pow (by decide)] <;> rfl
@[simp] theorem pow20 : binD .Pow (.int 10) (.int 20) S = .ok (.int 100000000000000000000) S := by rw [bin_pow (by decide)] <;> rfl
@[simp] theorem pow6 : binD .Pow (.int 10) (.int 6) S = .ok (.int 1000000) S := by rw [bin_pow (by decide)] <;> rfl
@[simp] theorem bin_addS {x y : Str} : binD .Add (.str x) (.str y) S = okIf (sizeOk (x.length + y.length)) (.str (x ++ y)) S := rfl
@[simp] theorem bin_addT {xs ys : List D} : binD .Add (.tup xs) (.tup ys) S = okIf (sizeOk (xs.length + ys.length)) (.tup (xs ++ ys)) S := rfl
@[simp] theorem cmp_lt {i j : Int} : cmpD .Lt (.int i) (.int j) S = .ok (.bl (decide (i < j))) S := rfl
@[simp] theorem cmp_le {i j : Int} : cmpD .LtE (.int i) (.int j) S = .ok (.bl (decide (i ≤ j))) S := rfl
@[simp] theorem cmp_gt {i j : Int} : cmpD .Gt (.int i) (.int j) S = .ok (.bl (decide (j < i))) S := rfl
@[simp] theorem cmp_ge {i j : Int} : cmpD .GtE (.int i) (.int j) S = .ok (.bl (decide (j ≤ i))) S := rfl
@[simp] theorem cmp_eqI {i j : Int} : cmpD .Eq (.int i) (.int j) S = .ok (.bl (i == j)) S := by
  show ofB (eqD S (.int i) (.int j)) S = _
  unfold eqD
  simp [py, toPy, SeqAt.shaped, PyData.canLay0, PyData.depth, PyData.eqv]
@[simp] theorem cmp_neI {i j : Int} : cmpD .NotEq (.int i) (.int j) S = .ok (.bl (!(i == j))) S := by
  show ofB ((eqD S (.int i) (.int j)).map (!·)) S = _
  unfold eqD
  simp [py, toPy, SeqAt.shaped, PyData.canLay0, PyData.depth, PyData.eqv]
theorem cmp_eqS {i j : Str} (hi : PyData.strOk i = true) (hj : PyData.strOk j = true) : cmpD .Eq (.str i) (.str j) S = .ok (.bl (i == j)) S := by
  show ofB (eqD S (.str i) (.str j)) S = _
  unfold eqD
  simp [py, toPy, SeqAt.shaped, PyData.canLay0, PyData.depth, PyData.eqv, hi, hj]
@[simp] theorem neg_int {i : Int} : negD (.int i) S = .ok (.int (-i)) S := rfl
@[simp] theorem bi_abs {i : Int} : biD .abs [.int i] S = .ok (.int (if i < 0 then -i else i)) S := rfl
@[simp] theorem bi_min {i j : Int} : biD .min [.int i, .int j] S = .ok (.int (if j < i then j else i)) S := rfl
@[simp] theorem bi_max {i j : Int} : biD .max [.int i, .int j] S = .ok (.int (if j > i then j else i)) S := rfl
@[simp] theorem bi_lenT {ds : List D} : biD .len [.tup ds] S = .ok (.int ds.length) S := rfl
theorem sub_dK {n : Nat} {kvs : List (Key × D)} {k v : D} {kk : Key} (h : S[n]? = some (.dK kvs)) (hk : keyOf k = some kk) (hz : kvs.length < sizeLine) : subD (.ref n) k v S = some (S.set n (.dK (putD kvs kk v))) := by
  cases k with
  | int i => cases hk; simp only [subD, h, keyOf, if_pos hz]
  | str x => cases hk; simp only [subD, h, keyOf, if_pos hz]
  | _ => cases hk
theorem sub_lst {n : Nat} {ds : List D} {i : Int} {v : D} {j : Nat} (h : S[n]? = some (.lst ds)) (hj : ixN ds.length i = some j) : subD (.ref n) (.int i) v S = some (S.set n (.lst (ds.set j v))) := by
  simp only [subD, h, hj, Option.map_some]
theorem div_ok {i j : Int} (h : 0 < j) (h2 : j < 2 ^ 64) : CDivW i j := by
  refine ⟨h, ?_⟩
  have : j.natAbs < 2 ^ 64 := by omega
  have := PySem.Flt.log2_lt_of (by decide) this
  omega
theorem sizeOk_of {n : Nat} : sizeOk n = decide (n ≤ 16777216) := by
  unfold sizeOk; rw [sizeLine_eq]
@[simp] theorem sizeOk_le {n : Nat} (h : n ≤ 16777216) : sizeOk n = true := by rw [sizeOk_of, decide_eq_true h]
theorem allSome_ints (k : Nat) (cs : List Int) : allSome ((cs.map D.int).map (toPy (k + 1) S)) = some (cs.map PyData.int) := by
  induction cs with
  | nil => rfl
  | cons c cs ih =>
    rw [List.map_cons, List.map_cons]
    show (allSome ((cs.map D.int).map (toPy (k + 1) S))).map (PyData.int c :: ·) = _
    rw [ih]; rfl
theorem lay_ints : ∀ cs : List Int, PyData.canLayAll0 (cs.map PyData.int) = true ∧ PyData.depthAll (cs.map PyData.int) = 0
  | [] => ⟨rfl, rfl⟩
  | c :: cs => by
    obtain ⟨h1, h2⟩ := lay_ints cs
    exact ⟨by simp [PyData.canLayAll0, PyData.canLay0, h1], by simp [PyData.depthAll, PyData.depth, h2]⟩
theorem eqv_nil (ps : List PyData) : PyData.eqv (.list ps) (.list []) = ps.isEmpty := by
  cases ps <;> simp [PyData.eqv, PyData.eqvAll]
theorem py_lst {n : Nat} {ds : List D} {ps : List PyData} (e : S[n]? = some (.lst ds)) (h : allSome (ds.map (toPy 49 S)) = some ps) : py S (.ref n) = some (.list ps) := by
  show toPy (49 + 1) S (.ref n) = _
  simp only [toPy, e, h, Option.map_some]
theorem eq_nil {n m : Nat} {ds : List D} {ps : List PyData} (e : S[n]? = some (.lst ds)) (h : allSome (ds.map (toPy 49 S)) = some ps) (sh : SeqAt.shaped (.list ps) = true) (e2 : S[m]? = some (.lst [])) : eqD S (.ref n) (.ref m) = some ps.isEmpty := by
  unfold eqD
  rw [py_lst e h, py_lst e2 rfl]
  have : SeqAt.shaped (.list []) = true := by decide
  simp only [sh, this, Bool.and_self, if_true, eqv_nil]
theorem shaped_ints (cs : List Int) : SeqAt.shaped (.list (cs.map PyData.int)) = true := by
  obtain ⟨h1, h2⟩ := lay_ints cs
  simp [SeqAt.shaped, PyData.canLay0, PyData.depth, h1, h2]
/-- any list beside an empty one -/
theorem cmp_nil {n m : Nat} {ds : List D} (e : S[n]? = some (.lst ds)) (e2 : S[m]? = some (.lst [])) : cmpD .Eq (.ref n) (.ref m) S = .ok (.bl ds.isEmpty) S := by
  show ofB (eqX S (.ref n) (.ref m)) S = _
  simp only [eqX, nilB, e, e2]
  rfl
theorem ne_nilI {n m : Nat} {cs : List Int} (e : S[n]? = some (.lst (cs.map .int))) (e2 : S[m]? = some (.lst [])) : cmpD .NotEq (.ref n) (.ref m) S = .ok (.bl (!cs.isEmpty)) S := by
  show ofB ((eqX S (.ref n) (.ref m)).map (!·)) S = _
  simp only [eqX, nilB, e, e2]
  cases cs <;> rfl
theorem len_lst {n : Nat} {ds : List D} (e : S[n]? = some (.lst ds)) : biD .len [.ref n] S = .ok (.int ds.length) S := by
  have h : lenD S (.ref n) = some ds.length := by simp only [lenD, e]
  show optR ((lenD S (.ref n)).map fun n => .int n) S = _
  rw [h]; rfl
theorem idx_lst {n : Nat} {ds : List D} {i : Int} {d : D} (e : S[n]? = some (.lst ds)) (h : L2.atI ds i = some d) : idxD (.ref n) (.int i) S = .ok d S := by
  show idxC S[n]? _ S = _
  rw [e]
  show optR (L2.atI ds i) S = _
  rw [h]; rfl
theorem at_ints {cs : List Int} {i : Int} (h0 : 0 ≤ i) (h1 : i < cs.length) : ∃ z, z ∈ cs ∧ L2.atI (cs.map D.int) i = some (.int z) := by
  obtain ⟨x, hx, hm⟩ := atI_int (xs := cs.map D.int) h0 (by simpa using h1)
  obtain ⟨z, hz, rfl⟩ := List.mem_map.mp hm
  exact ⟨z, hz, hx⟩
end
end Mi
namespace Mi
open PySem L2
theorem strOk_iff {x : Str} : PyData.strOk x = true ↔ ∀ c ∈ x.cps.toList, c < 0x110000 := by
  unfold PyData.strOk
  rw [← Array.all_toList, List.all_eq_true]
  simp
/-- a text of at most b signs -/
structure Sg (b : Nat) (x : Str) : Prop where
  len : x.cps.toList.length ≤ b
  ok : PyData.strOk x = true
theorem Sg.size {b : Nat} {x : Str} (h : Sg b x) : x.length ≤ b := by
  have := h.len
  simpa [Str.length] using this
theorem Sg.mono {a b : Nat} {x : Str} (h : Sg a x) (l : a ≤ b) : Sg b x := ⟨Nat.le_trans h.len l, h.ok⟩
theorem Sg.app {a b : Nat} {x y : Str} (h : Sg a x) (g : Sg b y) : Sg (a + b) (x ++ y) := by
  have e : (x ++ y).cps.toList = x.cps.toList ++ y.cps.toList := by
    show (x.cps ++ y.cps).toList = _
    simp
  refine ⟨?_, ?_⟩
  · rw [e, List.length_append]; have := h.len; have := g.len; omega
  · rw [strOk_iff, e]
    intro c hc
    rcases List.mem_append.mp hc with hc | hc
    · exact strOk_iff.mp h.ok c hc
    · exact strOk_iff.mp g.ok c hc
theorem Sg.of {b : Nat} {x : Str} {l : List Nat} (h : Sg b x) (s : ∀ c ∈ l, c ∈ x.cps.toList) (hl : l.length ≤ b) : Sg b ⟨l.toArray⟩ := by
  refine ⟨by simpa using hl, strOk_iff.mpr fun c hc => strOk_iff.mp h.ok c (s c (by simpa using hc))⟩
theorem Sg.one {x : Str} {b c : Nat} (h : Sg b x) (hc : c ∈ x.cps.toList) : Sg 1 ⟨#[c]⟩ := ⟨by simp, strOk_iff.mpr fun d hd => by
  have : d = c := by simpa using hd
  subst this
  exact strOk_iff.mp h.ok d hc⟩
theorem sIx_le' (n d : Nat) (o : Option Int) (h : d ≤ n) : HT.sIx n d o ≤ n := HT.sIx_le n d h o
theorem cutD_mem {α : Type} {xs : List α} {lo hi : Option Int} {x : α} (h : x ∈ cutD xs lo hi) : x ∈ xs := List.mem_of_mem_drop (List.mem_of_mem_take h)
theorem cutD_len {α : Type} (xs : List α) (lo hi : Option Int) : (cutD xs lo hi).length ≤ xs.length := by
  unfold cutD
  rw [List.length_take, List.length_drop]
  omega
theorem cut_from {α : Type} (xs : List α) {i : Int} (h : 0 ≤ i) : cutD xs (some i) none = xs.drop i.toNat := by
  unfold cutD
  have e : HT.sIx xs.length 0 (some i) = min i.toNat xs.length := by
    show (if i < 0 then (i + (xs.length : Int)).toNat else min i.toNat xs.length) = _
    rw [if_neg (by omega)]
  rw [e, HT.sIx_none]
  by_cases hl : i.toNat ≤ xs.length
  · rw [Nat.min_eq_left hl, List.take_of_length_le]
    rw [List.length_drop]; omega
  · rw [Nat.min_eq_right (by omega), List.drop_of_length_le (Nat.le_refl _), List.drop_of_length_le (by omega)]
    simp
theorem cut_to {α : Type} (xs : List α) {j : Int} (h : 0 ≤ j) : cutD xs none (some j) = xs.take j.toNat := by
  unfold cutD
  have e : HT.sIx xs.length xs.length (some j) = min j.toNat xs.length := by
    show (if j < 0 then (j + (xs.length : Int)).toNat else min j.toNat xs.length) = _
    rw [if_neg (by omega)]
  rw [e, HT.sIx_none, List.drop_zero, Nat.sub_zero]
  by_cases hl : j.toNat ≤ xs.length
  · rw [Nat.min_eq_left hl]
  · rw [Nat.min_eq_right (by omega), List.take_of_length_le (Nat.le_refl _), List.take_of_length_le (by omega)]
section
variable {S : Store}
theorem slc_str {z : Str} {lo hi : Option Int} (h : z.length ≤ 16777216) : slcD (.str z) lo hi S = .ok (.str ⟨(cutD z.cps.toList lo hi).toArray⟩) S := by
  show (if sizeOk z.length then _ else _) = _
  rw [sizeOk_of, decide_eq_true h]; rfl
theorem slc_lst {n : Nat} {ds : List D} {lo hi : Option Int} (h : S[n]? = some (.lst ds)) : slcD (.ref n) lo hi S = .ok (.ref S.length) (S ++ [.lst (cutD ds lo hi)]) := by
  have e : lstAt S (.ref n) = some ds := by simp only [lstAt, h]
  show (match lstAt S (.ref n) with
    | some ds => newC (.lst (cutD ds lo hi)) S
    | none => .bad) = _
  rw [e]; rfl
theorem slc_frz {n : Nat} {ds : List D} {lo hi : Option Int} (h : S[n]? = some (.frz ds)) : slcD (.ref n) lo hi S = .ok (.ref S.length) (S ++ [.lst (cutD ds lo hi)]) := by
  have e : lstAt S (.ref n) = some ds := by simp only [lstAt, h]
  show (match lstAt S (.ref n) with
    | some ds => newC (.lst (cutD ds lo hi)) S
    | none => .bad) = _
  rw [e]; rfl
@[simp] theorem slc_tup {ds : List D} {lo hi : Option Int} : slcD (.tup ds) lo hi S = .ok (.tup (cutD ds lo hi)) S := rfl
theorem add_lst {m n : Nat} {xs ys : List D} (h : S[m]? = some (.lst xs)) (g : S[n]? = some (.lst ys)) (hz : xs.length + ys.length ≤ 16777216) : binD .Add (.ref m) (.ref n) S = .ok (.ref S.length) (S ++ [.lst (xs ++ ys)]) := by
  simp only [binD, h, g]
  rw [sizeOk_of, decide_eq_true hz]; rfl
theorem app_lst {n : Nat} {xs : List D} {d : D} (h : S[n]? = some (.lst xs)) (hz : xs.length < 16777216) : mtD .append (.ref n) [d] S = .ok .non (S.set n (.lst (xs ++ [d]))) := by
  have e : xs.length < sizeLine := by rw [sizeLine_eq]; exact hz
  simp only [mtD, h, if_pos e, setC]
theorem ty_app {n : Nat} {xs : List D} (h : S[n]? = some (.lst xs)) : mtTy .append (.ref n) S = true := by
  simp only [mtTy, lstAt, h]; rfl
theorem ty_pop {n : Nat} {xs : List D} (h : S[n]? = some (.lst xs)) : mtTy .pop (.ref n) S = true := by
  simp only [mtTy, lstAt, h]; rfl
theorem ty_ins {n : Nat} {xs : List D} (h : S[n]? = some (.lst xs)) : mtTy .insert (.ref n) S = true := by
  simp only [mtTy, lstAt, h]; rfl
theorem pop_lst {n : Nat} {xs : List D} {v : Int} {d : D} (h : S[n]? = some (.lst xs)) (h0 : 0 ≤ v) (h1 : v < xs.length) (hd : xs[v.toNat]? = some d) (hz : xs.length < 2 ^ 60) : mtD .pop (.ref n) [.int v] S = .ok d (S.set n (.lst (xs.eraseIdx v.toNat))) := by
  have e : ixN xs.length v = some v.toNat := by unfold ixN; rw [if_pos h0, if_pos h1]
  simp only [mtD, h, e, hd]
  rw [if_pos (by constructor <;> omega)]; rfl
theorem whN_more {f : Turn} : ∀ {n : Nat} {L : Lcs} {S : Store} {r : R (Fl × Lcs)} (m : Nat), whN f n L S = some r → n ≤ m → whN f m L S = some r
  | 0, _, _, _, _, h, _ => by cases h
  | n + 1, L, S, r, 0, h, l => by omega
  | n + 1, L, S, r, m + 1, h, l => by
    simp only [whN] at h ⊢
    cases e : f L S with
    | bad => rw [e] at h; exact h
    | exc _ _ => rw [e] at h; exact h
    | ok q S' =>
      obtain ⟨b, fl, L'⟩ := q
      rw [e] at h
      cases b with
      | false => exact h
      | true => exact whN_more m h (by omega)
theorem wh_eq {f : Turn} {n : Nat} {L : Lcs} {S : Store} {r : R (Fl × Lcs)} (h : whN f n L S = some r) : wh f L S = r := by
  unfold wh
  have hx : ∃ n r, whN f n L S = some r := ⟨n, r, h⟩
  rw [dif_pos hx]
  have h2 := (Classical.choose_spec hx).choose_spec
  have a := whN_more (max n hx.choose) h (Nat.le_max_left ..)
  have b := whN_more (max n hx.choose) h2 (Nat.le_max_right ..)
  rw [a] at b
  exact (Option.some.inj b).symm
/-- a while by a measure -/
theorem wh_inv {f : Turn} (I : Nat → Lcs → Store → Prop) (Q : Fl × Lcs → Store → Prop) (step : ∀ n L S, I n L S → (∃ L' S', f L S = .ok (true, .nx, L') S' ∧ ∃ m, m < n ∧ I m L' S') ∨ ∃ fl L' S', f L S = .ok (false, fl, L') S' ∧ Q (fl, L') S') : ∀ n L S, I n L S → ∃ p S', wh f L S = .ok p S' ∧ Q p S' := by
  have key : ∀ n L S, I n L S → ∃ p S', whN f (n + 1) L S = some (.ok p S') ∧ Q p S' := by
    intro n
    induction n using Nat.strongRecOn with
    | ind n ih =>
      intro L S h
      rcases step n L S h with ⟨L', S', e, m, hm, hI⟩ | ⟨fl, L', S', e, hq⟩
      · obtain ⟨p, S2, e2, q⟩ := ih m hm L' S' hI
        refine ⟨p, S2, ?_, q⟩
        simp only [whN, e]
        exact whN_more n e2 (by omega)
      · exact ⟨(fl, L'), S', by simp only [whN, e], hq⟩
  intro n L S h
  obtain ⟨p, S', e, q⟩ := key n L S h
  exact ⟨p, S', wh_eq e, q⟩
/-- a comprehension's turns -/
theorem lc_inv {f : D → Store → R Unit} {g : Guard} (I : Nat → Store → Prop) : ∀ (items : List D) (n : Nat) (S : Store), I n S →
    (∀ i S, I i S → Gok g S) → (∀ i d S, n ≤ i → items[i - n]? = some d → I i S → ∃ S', f d S = .ok () S' ∧ I (i + 1) S') → ∃ S', lcLoop f g items S = .ok () S' ∧ I (n + items.length) S'
  | [], n, S, h0, hg, step => ⟨S, by simp [lcLoop, hg n S h0], h0⟩
  | d :: ds, n, S, h0, hg, step => by
    obtain ⟨S1, e1, i1⟩ := step n d S (Nat.le_refl _) (by simp) h0
    obtain ⟨S2, e2, i2⟩ := lc_inv I ds (n + 1) S1 i1 hg fun i d' S hi hd hI => step i d' S (by omega) (by
      have : i - n = (i - (n + 1)) + 1 := by omega
      rw [this]; exact hd) hI
    refine ⟨S2, ?_, by rw [List.length_cons]; have : n + (ds.length + 1) = n + 1 + ds.length := by omega
                       rw [this]; exact i2⟩
    simp only [lcLoop]
    rw [if_pos (hg n S h0), e1, R.bind_ok]
    exact e2
theorem ev_lcE {G : Gv} {vs : List Nat} {t : CT} {it : CI} {c e : CE} {L : Lcs} : evE G (.lc vs t it c e) L S = ((evI G it L S).bind fun p S1 => (lcLoop (lcF G t c e (wipeL L vs) S1.length) p.2 p.1 (S1 ++ [.lst []])).bind fun _ S9 => .ok (.ref S1.length) S9).gc S := rfl
theorem ex_whl {G : Gv} {c : CE} {b r : CSs} {L : Lcs} : exS G (.whl c b r) L S = thenS G r (wh (whF G c b) L S) := rfl
end
theorem joinL_nil : ∀ ps : List (List Nat), TL.joinL [] ps = ps.flatten
  | [] => rfl
  | [p] => by simp [TL.joinL]
  | p :: q :: r => by
    show p ++ ([] ++ TL.joinL [] (q :: r)) = _
    rw [joinL_nil (q :: r)]; simp
theorem strs_of (xs : List Str) : strsOf (xs.map D.str) = some xs := by
  induction xs with
  | nil => rfl
  | cons x xs ih => rw [List.map_cons]; show (strsOf (xs.map D.str)).map (x :: ·) = _; rw [ih]; rfl
theorem join_lst {S : Store} {n : Nat} {a : Str} {ys : List Str} (h : S[n]? = some (.lst (ys.map .str))) (hz : (ys.map (·.length)).sum + ys.length * a.length ≤ 16777216) : mtD .join (.str a) [.ref n] S = .ok (.str (Txt.join a ys)) S := by
  have e : lstAt S (.ref n) = some (ys.map .str) := by simp only [lstAt, h]
  simp only [mtD, e, strs_of, if_pos hz]
@[simp] theorem ty_join {S : Store} {a : Str} : mtTy .join (.str a) S = true := rfl
theorem flat_ones (xs : List Nat) : ((xs.map fun c => (⟨#[c]⟩ : Str)).map TL.tl).flatten = xs := by
  induction xs with
  | nil => rfl
  | cons x xs ih =>
    rw [List.map_cons, List.map_cons, List.flatten_cons, ih]; rfl
theorem join_ones {xs : List Nat} : (Txt.join (Str.ofString "") (xs.map fun c => (⟨#[c]⟩ : Str))).cps.toList = xs := by
  rw [TL.join_eq]
  show TL.tl _ = _
  rw [TL.tl_join]
  have e3 : TL.tl (Str.ofString "") = [] := by decide
  rw [e3, joinL_nil, flat_ones]
theorem shaped_strs {xs : List Str} (h : ∀ x ∈ xs, PyData.strOk x = true) : SeqAt.shaped (.list (xs.map PyData.str)) = true := by
  have k : ∀ xs : List Str, (∀ x ∈ xs, PyData.strOk x = true) → PyData.canLayAll0 (xs.map PyData.str) = true ∧ PyData.depthAll (xs.map PyData.str) = 0 := by
    intro xs
    induction xs with
    | nil => intro _; exact ⟨rfl, rfl⟩
    | cons x xs ih =>
      intro h
      obtain ⟨h1, h2⟩ := ih fun y hy => h y (by simp [hy])
      exact ⟨by simp [PyData.canLayAll0, PyData.canLay0, h1, h x (by simp)], by simp [PyData.depthAll, PyData.depth, h2]⟩
  obtain ⟨h1, h2⟩ := k xs h
  simp [SeqAt.shaped, PyData.canLay0, PyData.depth, h1, h2]
theorem allSome_strs {S : Store} (k : Nat) (xs : List Str) : allSome ((xs.map D.str).map (toPy (k + 1) S)) = some (xs.map PyData.str) := by
  induction xs with
  | nil => rfl
  | cons c cs ih =>
    rw [List.map_cons, List.map_cons]
    show (allSome ((cs.map D.str).map (toPy (k + 1) S))).map (PyData.str c :: ·) = _
    rw [ih]; rfl
theorem ne_nilS {S : Store} {n m : Nat} {xs : List Str} (hx : ∀ x ∈ xs, PyData.strOk x = true) (e : S[n]? = some (.lst (xs.map .str))) (e2 : S[m]? = some (.lst [])) : cmpD .NotEq (.ref n) (.ref m) S = .ok (.bl (!xs.isEmpty)) S := by
  show ofB ((eqX S (.ref n) (.ref m)).map (!·)) S = _
  simp only [eqX, nilB, e, e2]
  cases xs <;> rfl
theorem erase_perm {α : Type} : ∀ (l : List α) (i : Nat) (h : i < l.length), (l[i] :: l.eraseIdx i).Perm l
  | x :: l, 0, _ => by simp
  | x :: l, i + 1, h => by
    have ih := erase_perm l i (by simpa using h)
    simp only [List.getElem_cons_succ, List.eraseIdx_cons_succ]
    exact (List.Perm.swap x _ _).trans (ih.cons x)
theorem map_erase {α β : Type} (f : α → β) : ∀ (l : List α) (i : Nat), (l.map f).eraseIdx i = (l.eraseIdx i).map f
  | [], i => by simp
  | x :: l, 0 => by simp
  | x :: l, i + 1 => by
    simp only [List.map_cons, List.eraseIdx_cons_succ, map_erase f l i]
/-- what a def's body tells -/
noncomputable def fin (q : R (Fl × Lcs)) : R D := q.bindB fun p S' => match p.1 with
  | .nx => .ok .non S'
  | .ret d => .ok d S'
  | .xc x => .exc x S'
  | _ => .bad
@[simp] theorem fin_ret {d : D} {L : Lcs} {S : Store} : fin (.ok (.ret d, L) S) = .ok d S := rfl
@[simp] theorem fin_nx {L : Lcs} {S : Store} : fin (.ok (.nx, L) S) = .ok .non S := rfl
theorem runF_fin {G : Gv} {f : CF} {ds : List D} {S : Store} (h : ds.length = f.ps) : runF G f ds S = (fin (exS G f.body (ds.map some ++ List.replicate (f.ns - f.ps) none) S)).gc S := by
  unfold runF
  rw [if_pos h]; rfl
end Mi
namespace Mi
open PySem PySem.Spec PyProof.Rows L2
section
variable {K : PySem.W.Frag} {mg : Str → Option Value} {h : Heap}
theorem xc_mk {x : Str} {C : Addr} (X : K.In h) (G : h.Ns mainGlobals mg) (db : (x == ("__debug__" : Str)) = false) (a : PySem.W.nsIn K mainGlobals x = some (some (.ref C))) (k : PySem.W.keepIn K (.ref C) = true)
    (q : PySem.W.excIn K C [.type "ValueError", .type "Exception", .type "BaseException", .type "object"] "ValueError.__new__" = true) (s : PySem.W.subIn K (.ref C) (.type "BaseException") = some true) (t : PySem.W.typeIn K (.ref C) = some (.type "type"))
    (f1 : PySem.W.findIn K (.ref C) "__getattribute__" = some (some (.builtin "BaseException.__getattribute__"))) (f2 : PySem.W.findIn K (.ref C) "__getattr__" = some none) (f3 : PySem.W.hasDictIn K C = true) (f4 : PySem.W.findIn K (.ref C) "__class__" = some (some (.builtin "object.__class__")))
    (f5 : PySem.W.specialIn K (.builtin "object.__class__") "__get__" = some (some (.builtin "getset_descriptor.__get__"))) (f6 : PySem.W.takesIn K (.builtin "object.__class__") = some true) (f7 : PySem.W.mroIn K C (.type "object") = some true) : XcK K mg x :=
  ⟨C, _, _, _, _, PySem.W.mg_of X G a, a, k, PySem.F.excBase_ValueError, q, s, t, ⟨f1, f2, s, f3, f4, f5, f6, f7⟩, db⟩
theorem own_mk {y : Str} {C : Addr} (X : K.In h) (G : h.Ns mainGlobals mg) (db : (y == ("__debug__" : Str)) = false) (a : PySem.W.nsIn K mainGlobals y = some (some (.ref C))) : ClsK2 mg y (.ref C) := ⟨db, .inl ⟨PySem.W.mg_of X G a, C, rfl⟩⟩
theorem bex_mk {y : Str} {t : String} (X : K.In h) (G : h.Ns mainGlobals mg) (db : (y == ("__debug__" : Str)) = false) (n : y ≠ "__name__") (b : bootBuiltins y = some (.type t)) (z : PySem.W.nsIn K mainGlobals y = some none) : ClsK2 mg y (.type t) := ⟨db, .inr ⟨PySem.W.mg_none_of X G z, b, n, t, rfl⟩⟩
theorem isx_mk {xs ys yes : List Str} {us : List Value} (l : us.length ≤ 1000) (p : Paired (ClsK2 mg) ys us) (k : ∀ x ∈ xs, ∃ C, PySem.W.nsIn K mainGlobals x = some (some (.ref C)) ∧ PySem.W.kitAny K (.ref C) us = some (yes.contains x)) : IsxK K mg xs ys yes := ⟨us, l, p, fun x hx C hC => by
  obtain ⟨C2, h2, e⟩ := k x hx
  have : C = C2 := by
    have := (show PySem.W.nsIn K mainGlobals x = some (some (.ref C)) from hC).symm.trans h2
    cases this; rfl
  rw [this]; exact e⟩
theorem cat_mk {xs : List Str} {c : Str} {D : Addr} (c2 : ClsK2 mg c (.ref D)) (k : ∀ x ∈ xs, ∃ C, PySem.W.nsIn K mainGlobals x = some (some (.ref C)) ∧ PySem.W.exmOne K (.ref C) (.ref D) = some true) : CatK K mg xs c := ⟨.ref D, c2, fun x hx C hC => by
  obtain ⟨C2, h2, e⟩ := k x hx
  have : C = C2 := by
    have := (show PySem.W.nsIn K mainGlobals x = some (some (.ref C)) from hC).symm.trans h2
    cases this; rfl
  rw [this]; exact e⟩
theorem xk_mk {x : Str} {P : Addr → Prop} {C : Addr} (a : PySem.W.nsIn K mainGlobals x = some (some (.ref C))) (b : P C) : ∃ C, PySem.W.nsIn K mainGlobals x = some (some (.ref C)) ∧ P C := ⟨C, a, b⟩
theorem xs_nil {P : Str → Prop} : ∀ x ∈ ([] : List Str), P x := fun _ h => by cases h
theorem xs_cons {P : Str → Prop} {y : Str} {l : List Str} (h : P y) (t : ∀ x ∈ l, P x) : ∀ x ∈ y :: l, P x := fun x hx => by
  rcases List.mem_cons.mp hx with rfl | hx
  · exact h
  · exact t x hx
theorem mem_look {α β : Type} [BEq α] [LawfulBEq α] {a : α} {b : β} : ∀ {l : List (α × β)}, l.lookup a = some b → (a, b) ∈ l
  | (x, y) :: l, h => by
    rw [List.lookup_cons] at h
    cases e : a == x with
    | true =>
      rw [e] at h
      cases h
      have : a = x := by simpa using e
      simp [this]
    | false =>
      rw [e] at h
      simp [mem_look h]
theorem ix_of {asked : List (List Str × List Str)} {xs : List Str} (h : ∀ p ∈ asked, IsxK K mg xs p.1 p.2) : ∀ ys yes, asked.lookup ys = some yes → IsxK K mg xs ys yes := fun ys yes e => h (ys, yes) (mem_look e)
/-- one class asked -/
theorem kit_no {t c : Value} {cs : List Value} {b : Bool} (h : PySem.W.kitOne K t c = some false) (r : PySem.W.kitAny K t cs = some b) : PySem.W.kitAny K t (c :: cs) = some b := by
  unfold PySem.W.kitAny; rw [h]; exact r
theorem kit_yes {t c : Value} {cs : List Value} (h : PySem.W.kitOne K t c = some true) : PySem.W.kitAny K t (c :: cs) = some true := by
  unfold PySem.W.kitAny; rw [h]
theorem kit_end {t : Value} : PySem.W.kitAny K t [] = some false := rfl
theorem kit_own {t : Value} {C2 : Addr} {b : Bool} (ne : (t == .ref C2) = false) (hd : PySem.W.hasDictIn K C2 = true) (ht : PySem.W.typeIn K (.ref C2) = some (.type "type")) (h4 : PySem.W.subIn K t (.ref C2) = some b) : PySem.W.kitOne K t (.ref C2) = some b := by
  obtain ⟨cd, hc, _⟩ := PySem.W.any_some hd
  unfold PySem.W.kitOne
  rw [if_neg (by rw [ne]; exact Bool.false_ne_true)]
  have e2 : ((PySem.W.clsIn K C2).isSome && PySem.W.typeIn K (.ref C2) == some (.type "type")) = true := by rw [hc, ht] <;> rfl
  show (if ((PySem.W.clsIn K C2).isSome && PySem.W.typeIn K (.ref C2) == some (.type "type")) = true then PySem.W.subIn K t (.ref C2) else none) = some b
  rw [if_pos e2]; exact h4
theorem kit_ty {t : Value} {T : String} {b : Bool} (ne : (t == .type T) = false) (m : PySem.W.kitMeta T = true) (h4 : PySem.W.subIn K t (.type T) = some b) : PySem.W.kitOne K t (.type T) = some b := by
  unfold PySem.W.kitOne
  rw [if_neg (by rw [ne]; exact Bool.false_ne_true)]
  show (if PySem.W.kitMeta T = true then PySem.W.subIn K t (.type T) else none) = some b
  rw [if_pos m]; exact h4
theorem kit_self {t : Value} : PySem.W.kitOne K t t = some true := by
  unfold PySem.W.kitOne
  rw [if_pos (beq_self_eq_true t)]
/-- a class of any base -/
theorem xc_mk2 {x : Str} {C : Addr} {bmB : List Value} {B n1 n2 : String} (X : K.In h) (G : h.Ns mainGlobals mg) (F : ExcBaseFacts B n1 n2 bmB) (db : (x == ("__debug__" : Str)) = false) (a : PySem.W.nsIn K mainGlobals x = some (some (.ref C))) (k : PySem.W.keepIn K (.ref C) = true)
    (q : PySem.W.excIn K C bmB n1 = true) (s : PySem.W.subIn K (.ref C) (.type "BaseException") = some true) (t : PySem.W.typeIn K (.ref C) = some (.type "type"))
    (f1 : PySem.W.findIn K (.ref C) "__getattribute__" = some (some (.builtin "BaseException.__getattribute__"))) (f2 : PySem.W.findIn K (.ref C) "__getattr__" = some none) (f3 : PySem.W.hasDictIn K C = true) (f4 : PySem.W.findIn K (.ref C) "__class__" = some (some (.builtin "object.__class__")))
    (f5 : PySem.W.specialIn K (.builtin "object.__class__") "__get__" = some (some (.builtin "getset_descriptor.__get__"))) (f6 : PySem.W.takesIn K (.builtin "object.__class__") = some true) (f7 : PySem.W.mroIn K C (.type "object") = some true) : XcK K mg x :=
  ⟨C, _, _, _, _, PySem.W.mg_of X G a, a, k, F, q, s, t, ⟨f1, f2, s, f3, f4, f5, f6, f7⟩, db⟩
def clsBody : Stmt → List Stmt
  | .ClassDef _ _ _ b _ _ _ _ _ _ _ => b
  | _ => []
/-- a class whose __init__ keeps one field -/
theorem fx_mk {x f pS pV qual : Str} {C D fI : Addr} {st : Stmt} {nm2 q2 : Str} {N2 : Addr} {bs bm : List Value} {sn : List Str} {sub : List Value} {ab col} {dd k0 k1 k2 k3 k5} {oc : Value} {od an : Option Addr} {osl : Array (Option Value)} {kV doc pm cdv c2 : Value} {ar : List Arg} {kd : List (Option Expr)} {df : List Expr} {p1 p2 p3 p4 p5 p6 p7 p8 p9 p10 : Pos}
    (X : K.In h) (G : h.Ns mainGlobals mg) (db : (x == ("__debug__" : Str)) = false) (a : PySem.W.nsIn K mainGlobals x = some (some (.ref C))) (k : PySem.W.keepIn K (.ref C) = true)
    (lc : K.lookup C = some (excClassObj nm2 q2 C N2 bs bm true sn sub ab col dd k0 k1 k2 k3 k5 "ValueError.__new__")) (r : PySem.HandSPX.refsVE bm = true) (sa : PySem.W.findIn K (.ref C) "__setattr__" = some (some (.builtin "object.__setattr__")))
    (s : PySem.W.subIn K (.ref C) (.type "BaseException") = some true) (t : PySem.W.typeIn K (.ref C) = some (.type "type")) (no : PySem.W.findIn K (.ref C) f = some none)
    (f1 : PySem.W.findIn K (.ref C) "__getattribute__" = some (some (.builtin "BaseException.__getattribute__"))) (f2 : PySem.W.findIn K (.ref C) "__getattr__" = some none) (f3 : PySem.W.hasDictIn K C = true) (f4 : PySem.W.findIn K (.ref C) "__class__" = some (some (.builtin "object.__class__")))
    (f5 : PySem.W.specialIn K (.builtin "object.__class__") "__get__" = some (some (.builtin "getset_descriptor.__get__"))) (f6 : PySem.W.takesIn K (.builtin "object.__class__") = some true) (f7 : PySem.W.mroIn K C (.type "object") = some true)
    (i : PySem.W.findIn K (.ref C) "__init__" = some (some (.ref fI))) (ti : PySem.W.typeIn K (.ref fI) = some (.type "function")) (se : PySem.W.subIn K (.ref C) (.ref C) = some true)
    (hb : defBody st = [.Expr (.Call (.Attribute (.Name "DialError" p1) "__init__" p2) [.Name pS p3, .Name pV p4] [] p5) p6, .Assign [.Attribute (.Name pS p7) f p8] (.Name pV p9) p10]) (ha : defArgs st = ⟨[], ar, none, [], kd, none, df⟩) (har : ar.map (·.arg) = [pS, pV])
    (hs : C8.scC [pS, pV] [pS, pV] (defScope st) = true) (hl : ((defScope st).names.lookup pS == some .local && (defScope st).names.lookup pV == some .local && (defScope st).names.lookup ("DialError" : Str) == some .globalImplicit && p2.endLine == p5.line) = true)
    (hn : (!(pS == ("__debug__" : Str)) && !(pS == ("__classdict__" : Str)) && !(pV == ("__debug__" : Str)) && !(pV == ("__classdict__" : Str))) = true)
    (l : K.lookup fI = some ⟨oc, od, .func (PySem.W.fnOf "__init__" qual (defArgs st) (defBody st) (defScope st) .none kV doc pm an cdv c2), osl⟩) (c : PySem.W.codeIn K cdv qual = true)
    (d : PySem.W.nsIn K mainGlobals ("DialError" : Str) = some (some (.ref D))) (d1 : PySem.W.readsIn K D (.type "type") = true) (d2 : PySem.W.findCls K (.ref D) (.type "type") "__init__" = some (.val (.builtin "ValueError.__init__"))) (d3 : PySem.W.specialIn K (.ref D) "__getattribute__" = some (some (.builtin "type.__getattribute__"))) : FxK K mg x f := by
  simp only [Bool.and_eq_true, beq_iff_eq, Bool.not_eq_true'] at hl hn
  obtain ⟨⟨⟨l1, l2⟩, l3⟩, l4⟩ := hl
  obtain ⟨⟨⟨n1, n2⟩, n3⟩, n4⟩ := hn
  have S := C8.fnScope_by hs
  rw [hb] at l
  refine ⟨C, fI, _, pS, pV, PySem.W.mg_of X G a, a, ⟨⟨⟨_, _, _, _, _, _, _, _, _, _, _, _, _, _, _, lc, r⟩, sa, s, t, k⟩, no, ⟨f1, f2, s, f3, f4, f5, f6, f7⟩, se⟩, i, ti, fun P w base => init_fn l c S l1 l2 n1 n2 n3 n4 l3 (PySem.W.mg_of X G d) d1 d2 d3 (by simpa using l4), ?_, db⟩
  refine Binds.all fun us hl => ?_
  have := bind_plain (fd := PySem.W.fnOf "__init__" qual (defArgs st) [.Expr (.Call (.Attribute (.Name "DialError" p1) "__init__" p2) [.Name pS p3, .Name pV p4] [] p5) p6, .Assign [.Attribute (.Name pS p7) f p8] (.Name pV p9) p10] (defScope st) .none kV doc pm an cdv c2) (args := ar) ha rfl (by rw [har]; exact hl) (by rw [har]; have := S.nd; exact this)
  rw [har] at this
  exact this
/-- a dict of the top that is only read -/
theorem dt_mk {x : Str} {w : World} {tab : List (Str × Str)} {p : Addr} {es : List DictEntry} {n : Nat} (X : K.In h) (G : h.Ns mainGlobals mg) (db : (x == ("__debug__" : Str)) = false) (a : PySem.W.nsIn K mainGlobals x = some (some (.ref p))) (l : K.lookup p = some ⟨.type "dict", none, .dict es.toArray n, #[]⟩) (lo : (p == sysModules) = false)
    (kl : PySem.W.KeysLit w.params es) (pr : Paired (fun (kv : Str × Str) (e : DictEntry) => (∃ t, e.key = .str kv.1 t) ∧ ∃ t, e.val = .str kv.2 t) tab es) (nd : (tab.map (·.1)).Nodup) : DtK w K mg x tab := ⟨p, PySem.W.mg_of X G a, ⟨lo, es, n, l, kl, pr, nd⟩, db⟩
/-- all classes held, one question -/
def kitB (K : PySem.W.Frag) (held yes : List Str) (us : List Value) : Bool := held.all fun x => match PySem.W.nsIn K mainGlobals x with
  | some (some (.ref C)) => PySem.W.kitAny K (.ref C) us == some (yes.contains x)
  | _ => false
theorem isx_mkB {xs ys yes : List Str} {us : List Value} (l : us.length ≤ 1000) (p : Paired (ClsK2 mg) ys us) (k : kitB K xs yes us = true) : IsxK K mg xs ys yes := ⟨us, l, p, fun x hx C hC => by
  have := List.all_eq_true.mp k x hx
  rw [show PySem.W.nsIn K mainGlobals x = some (some (.ref C)) from hC] at this
  exact beq_iff_eq.mp this⟩
/-- all classes held, one except clause -/
def exmB (K : PySem.W.Frag) (held yes : List Str) (u : Value) : Bool := held.all fun x => match PySem.W.nsIn K mainGlobals x with
  | some (some (.ref C)) => PySem.W.exmOne K (.ref C) u == some (yes.contains x)
  | _ => false
theorem hd_mk {xs yes : List Str} {c : Str} {u : Value} (c2 : ClsK2 mg c u) (k : exmB K xs yes u = true) : HdK K mg xs c yes := ⟨u, c2, fun x hx C hC => by
  have := List.all_eq_true.mp k x hx
  rw [show PySem.W.nsIn K mainGlobals x = some (some (.ref C)) from hC] at this
  exact beq_iff_eq.mp this⟩
theorem def_at {nm : Nm} {n : Nat} {T : Nat → Option CF} {i : Nat} {st : Stmt} {N : List Str} {cf : CF} {m qual : Str} {f : Addr} {oc : Value} {od an : Option Addr} {osl : Array (Option Value)} {kV doc pm cdv c2 : Value}
    (er : erF nm n N st = some cf) (t : T i = some cf) (l : K.lookup f = some ⟨oc, od, .func (PySem.W.fnOf m qual (defArgs st) (defBody st) (defScope st) .none kV doc pm an cdv c2), osl⟩) (c : PySem.W.codeIn K cdv qual = true) : DefAt nm n T K f i m qual :=
  ⟨st, N, cf, oc, od, an, osl, kV, doc, pm, cdv, c2, l, c, er, t⟩
theorem cls_mk {C : Addr} (p : PySem.W.plainGet K C Str.empty = true) (d : PySem.W.hasDictIn K C = true) (o : PySem.W.plainOver K C = true) (s : PySem.W.findIn K (.ref C) "__setattr__" = some (some (.builtin "object.__setattr__"))) : Cls K C := ⟨p, d, o, s⟩
theorem meth_mk {C f : Addr} {m : Str} (a : PySem.W.findIn K (.ref C) m = some (some (.ref f))) (b : PySem.W.isFn K (.ref f) = true) (c : PySem.W.keepIn K (.ref f) = true) : Meth K C m f := ⟨a, b, c⟩
theorem me_mk {nm : Nm} {n : Nat} {T : Nat → Option CF} {i : Nat} {c m qual : Str} {C f : Addr} (a : PySem.W.nsIn K mainGlobals c = some (some (.ref C))) (cl : Cls K C) (me : Meth K C m f) (d : DefAt nm n T K f i m qual) : MeRow nm n T K m c i := ⟨C, f, qual, a, cl, me, d⟩
theorem mk_mk {nm : Nm} {n : Nat} {T : Nat → Option CF} {i : Nat} {x qual : Str} {C f : Addr} (X : K.In h) (G : h.Ns mainGlobals mg) (db : (x == ("__debug__" : Str)) = false) (a : PySem.W.nsIn K mainGlobals x = some (some (.ref C))) (cl : Cls K C)
    (mk : PySem.W.makesIn K C = true) (b : PySem.W.findIn K (.ref C) "__init__" = some (some (.ref f))) (fn : PySem.W.isFn K (.ref f) = true) (kp : PySem.W.keepIn K (.ref C) = true) (d : DefAt nm n T K f i "__init__" qual) : MkRow nm n T K mg x i := ⟨C, f, qual, PySem.W.mg_of X G a, a, cl, ⟨mk, b, fn, kp⟩, d, db⟩
/-- fields that are no attributes -/
def flB (K : PySem.W.Frag) (f : Str) (cs : List Str) : Bool := cs.all fun c => match PySem.W.nsIn K mainGlobals c with
  | some (some (.ref C)) => decide (PySem.W.findIn K (.ref C) f = some none)
  | _ => false
theorem fl_mk {f : Str} {cs : List Str} (k : flB K f cs = true) : ∀ c, c ∈ cs → FlRow K f c := fun c hc => by
  have := List.all_eq_true.mp k c hc
  split at this
  · rename_i C e
    exact ⟨C, e, (of_decide_eq_true this : PySem.W.findIn K (.ref C) f = some none)⟩
  · cases this
end
end Mi
namespace Mi
open PySem L2
theorem lt_mono' {n m : Nat} (h : n ≤ m) : ∀ (k : Nat) (d : D), sizeOf d ≤ k → d.lt n = true → d.lt m = true := by
  intro k
  induction k with
  | zero => intro d hd; cases d <;> simp at hd <;> omega
  | succ k ih =>
    have all : ∀ ds : List D, sizeOf ds ≤ k → D.ltAll n ds = true → D.ltAll m ds = true := by
      intro ds
      induction ds with
      | nil => intro _ _; rfl
      | cons d ds ihd =>
        intro hs e
        simp only [List.cons.sizeOf_spec] at hs
        simp only [D.ltAll, Bool.and_eq_true] at e ⊢
        exact ⟨ih d (by omega) e.1, ihd (by omega) e.2⟩
    intro d hd e
    cases d with
    | ref j => simp only [D.lt, decide_eq_true_eq] at e ⊢; omega
    | tup ds => simp only [D.tup.sizeOf_spec] at hd; exact all ds (by omega) e
    | kt ds => simp only [D.kt.sizeOf_spec] at hd; exact all ds (by omega) e
    | pl ds => simp only [D.pl.sizeOf_spec] at hd; exact all ds (by omega) e
    | pd ks ds => simp only [D.pd.sizeOf_spec] at hd; exact all ds (by omega) e
    | pt ks ds => simp only [D.pt.sizeOf_spec] at hd; exact all ds (by omega) e
    | po C fs ds => simp only [D.po.sizeOf_spec] at hd; exact all ds (by omega) e
    | _ => rfl
theorem lt_up {n m : Nat} (h : n ≤ m) {d : D} (e : d.lt n = true) : d.lt m = true := lt_mono' h _ d (Nat.le_refl _) e
theorem ltAll_iff {n : Nat} : ∀ {ds : List D}, D.ltAll n ds = true ↔ ∀ d ∈ ds, d.lt n = true
  | [] => by simp [D.ltAll]
  | d :: ds => by simp [D.ltAll, ltAll_iff (ds := ds)]
theorem ltAll_up {n m : Nat} (h : n ≤ m) {ds : List D} (e : D.ltAll n ds = true) : D.ltAll m ds = true := ltAll_iff.mpr fun d hd => lt_up h (ltAll_iff.mp e d hd)
@[simp] theorem lt_int {n : Nat} {i : Int} : D.lt n (.int i) = true := rfl
@[simp] theorem lt_str {n : Nat} {i : Str} : D.lt n (.str i) = true := rfl
@[simp] theorem lt_bl {n : Nat} {i : Bool} : D.lt n (.bl i) = true := rfl
@[simp] theorem lt_non {n : Nat} : D.lt n .non = true := rfl
@[simp] theorem lt_tup {n : Nat} {ds : List D} : D.lt n (.tup ds) = D.ltAll n ds := rfl
@[simp] theorem lt_kt {n : Nat} {ds : List D} : D.lt n (.kt ds) = D.ltAll n ds := rfl
@[simp] theorem lt_pl {n : Nat} {ds : List D} : D.lt n (.pl ds) = D.ltAll n ds := rfl
@[simp] theorem lt_pd {n : Nat} {ks : List Key} {ds : List D} : D.lt n (.pd ks ds) = D.ltAll n ds := rfl
@[simp] theorem lt_pt {n : Nat} {ks : List (List Key)} {ds : List D} : D.lt n (.pt ks ds) = D.ltAll n ds := rfl
@[simp] theorem ltAll_nil {n : Nat} : D.ltAll n [] = true := rfl
@[simp] theorem ltAll_cons {n : Nat} {d : D} {ds : List D} : D.ltAll n (d :: ds) = (d.lt n && D.ltAll n ds) := rfl
@[simp] theorem ltAll_app {n : Nat} : ∀ {ds es : List D}, D.ltAll n (ds ++ es) = (D.ltAll n ds && D.ltAll n es)
  | [], es => by simp
  | d :: ds, es => by simp [ltAll_app (ds := ds), Bool.and_assoc]
@[simp] theorem ltAll_ints {n : Nat} (is : List Int) : D.ltAll n (is.map .int) = true := ltAll_iff.mpr fun d hd => by
  obtain ⟨i, _, rfl⟩ := List.mem_map.mp hd; rfl
@[simp] theorem ltAll_strs {n : Nat} (is : List Str) : D.ltAll n (is.map .str) = true := ltAll_iff.mpr fun d hd => by
  obtain ⟨i, _, rfl⟩ := List.mem_map.mp hd; rfl
theorem ltAll_map {α : Type} {n : Nat} (f : α → D) (h : ∀ a, (f a).lt n = true) (is : List α) : D.ltAll n (is.map f) = true := ltAll_iff.mpr fun d hd => by
  obtain ⟨i, _, rfl⟩ := List.mem_map.mp hd; exact h i
structure Kp (S A : Store) : Prop where
  len : A.length = S.length
  at_ : ∀ (i : Nat) (c : Cell), A[i]? = some c → S[i]? = some c ∨ c.lt S.length = true
theorem Kp.refl (S : Store) : Kp S S := ⟨rfl, fun _ _ e => .inl e⟩
theorem Kp.set {S A : Store} (h : Kp S A) (p : Nat) {c : Cell} (hc : c.lt S.length = true) : Kp S (A.set p c) := by
  refine ⟨by simp [h.len], fun i x e => ?_⟩
  rw [List.getElem?_set] at e
  split at e
  · split at e
    · cases e; exact .inr hc
    · cases e
  · exact h.at_ i x e
theorem Kp.keep {S A : Store} (h : Kp S A) (T : Store) : Keep S (A ++ T) := keep_app h.len h.at_
theorem fzD_lt {n : Nat} {S : Store} {d : D} (k : Nat) (h : d.lt n = true) : fzD n S k d = some d := by
  cases k <;> (unfold fzD; rw [if_pos h])
theorem fzD_all {n : Nat} {S : Store} (k : Nat) : ∀ {ds : List D}, D.ltAll n ds = true → allSome (ds.map (fzD n S k)) = some ds
  | [], _ => rfl
  | d :: ds, h => by
    simp only [ltAll_cons, Bool.and_eq_true] at h
    rw [List.map_cons, fzD_lt k h.1]
    show (allSome (ds.map (fzD n S k))).map (d :: ·) = _
    rw [fzD_all k h.2]; rfl
theorem fz_val {S A T : Store} {d : D} (h : Kp S A) (hd : d.lt S.length = true) : fz S d (A ++ T) = .ok d A := by
  unfold fz
  rw [fzD_lt 12 hd]
  simp only
  rw [if_pos (h.keep T), ← h.len, List.take_left]
theorem fz_val0 {S A : Store} {d : D} (h : Kp S A) (hd : d.lt S.length = true) : fz S d A = .ok d A := by
  have := fz_val (T := []) h hd
  rwa [List.append_nil] at this
theorem fz_same {S : Store} {d : D} (hd : d.lt S.length = true) : fz S d S = .ok d S := fz_val0 (Kp.refl S) hd
theorem fz_lst {S A T : Store} {m : Nat} {ds : List D} (h : Kp S A) (hm : S.length ≤ m) (e : (A ++ T)[m]? = some (.lst ds)) (hds : D.ltAll S.length ds = true) : fz S (.ref m) (A ++ T) = .ok (.pl ds) A := by
  have hn : ¬ (D.ref m).lt S.length = true := by simp [D.lt]; omega
  have : fzD S.length (A ++ T) 12 (.ref m) = some (.pl ds) := by
    unfold fzD
    rw [if_neg hn]
    simp only [e]
    rw [fzD_all 11 hds]; rfl
  unfold fz
  rw [this]
  simp only
  rw [if_pos (h.keep T), ← h.len, List.take_left]
theorem fz_dK {S A T : Store} {m : Nat} {kvs : List (Key × D)} (h : Kp S A) (hm : S.length ≤ m) (e : (A ++ T)[m]? = some (.dK kvs)) (hds : D.ltAll S.length (kvs.map (·.2)) = true) : fz S (.ref m) (A ++ T) = .ok (.pd (kvs.map (·.1)) (kvs.map (·.2))) A := by
  have hn : ¬ (D.ref m).lt S.length = true := by simp [D.lt]; omega
  have : fzD S.length (A ++ T) 12 (.ref m) = some (.pd (kvs.map (·.1)) (kvs.map (·.2))) := by
    unfold fzD
    rw [if_neg hn]
    simp only [e]
    have := fzD_all (S := A ++ T) 11 hds
    rw [List.map_map] at this
    show (allSome (kvs.map fun kv => fzD S.length (A ++ T) 11 kv.2)).map _ = _
    rw [show (fun kv : Key × D => fzD S.length (A ++ T) 11 kv.2) = (fzD S.length (A ++ T) 11) ∘ (·.2) from rfl, this]; rfl
  unfold fz
  rw [this]
  simp only
  rw [if_pos (h.keep T), ← h.len, List.take_left]
/-- a new list, kept -/
theorem fz_newL {S A : Store} {ds : List D} (h : Kp S A) (hds : D.ltAll S.length ds = true) : (newC (.lst ds) A).fz S = .ok (.pl ds) A := by
  show fz S (.ref A.length) (A ++ [.lst ds]) = _
  exact fz_lst h (by rw [h.len]; exact Nat.le_refl _) (by simp) hds
theorem fz_newD {S A : Store} {kvs : List (Key × D)} (h : Kp S A) (hds : D.ltAll S.length (kvs.map (·.2)) = true) : (newC (.dK kvs) A).fz S = .ok (.pd (kvs.map (·.1)) (kvs.map (·.2))) A := by
  show fz S (.ref A.length) (A ++ [.dK kvs]) = _
  exact fz_dK h (by rw [h.len]; exact Nat.le_refl _) (by simp) hds
/-- garbage first makes no difference -/
theorem gc_newL {S A : Store} {ds : List D} (h : Kp S A) (hds : D.ltAll S.length ds = true) : ((newC (.lst ds) A).gc S).fz S = .ok (.pl ds) A := by
  have : (newC (.lst ds) A).gc S = newC (.lst ds) A := by
    show gc S (.ref A.length) (A ++ [.lst ds]) = _
    rw [gc_new (c := .lst ds) h.len h.at_ (by rw [h.len]; exact Nat.le_refl _) (by simp) hds]
    show _ = R.ok (D.ref A.length) (A ++ [.lst ds])
    rw [h.len]
  rw [this]
  exact fz_newL h hds
theorem gc_newD {S A : Store} {kvs : List (Key × D)} (h : Kp S A) (hds : D.ltAll S.length (kvs.map (·.2)) = true) : ((newC (.dK kvs) A).gc S).fz S = .ok (.pd (kvs.map (·.1)) (kvs.map (·.2))) A := by
  have : (newC (.dK kvs) A).gc S = newC (.dK kvs) A := by
    show gc S (.ref A.length) (A ++ [.dK kvs]) = _
    rw [gc_new (c := .dK kvs) h.len h.at_ (by rw [h.len]; exact Nat.le_refl _) (by simp) hds]
    show _ = R.ok (D.ref A.length) (A ++ [.dK kvs])
    rw [h.len]
  rw [this]
  exact fz_newD h hds
theorem gc_kp {S A T : Store} {d : D} (h : Kp S A) (hd : d.lt S.length = true) : gc S d (A ++ T) = .ok d A := gc_app hd h.len h.at_
section
variable {G : Gv} {L : Lcs} {S : Store}
theorem ev_fz {e : CE} : evE G (.fz e) L S = (evE G e L S).fz S := rfl
/-- a comprehension, kept: the turns may draw -/
theorem ev_fzlc {vs : List Nat} {t : CT} {it : CI} {c e : CE} {items : List D} {g : Guard} {S1 : Store} (J : Nat → List D → Store → Prop) (hI : evI G it L S = .ok (items, g) S1) (k1 : Kp S S1) (hl : items.length < 16777216)
    (hg : ∀ A T, Kp S A → Gok g (A ++ T)) (j0 : J 0 [] S1)
    (step : ∀ (i : Nat) (d : D) (acc : List D) (A : Store), items[i]? = some d → Kp S A → J i acc A → ∃ L2 A1, asgT t d (A ++ [.lst acc]) (wipeL L vs) = some L2 ∧ Kp S A1 ∧
      ((evE G c L2 (A ++ [.lst acc]) = .ok (.bl false) (A1 ++ [.lst acc]) ∧ J (i + 1) acc A1) ∨
        ∃ A2 y, evE G c L2 (A ++ [.lst acc]) = .ok (.bl true) (A1 ++ [.lst acc]) ∧ evE G e L2 (A1 ++ [.lst acc]) = .ok y (A2 ++ [.lst acc]) ∧ y.lt S.length = true ∧ Kp S A2 ∧ J (i + 1) (acc ++ [y]) A2)) :
    ∃ acc A, evE G (.fz (.lc vs t it c e)) L S = .ok (.pl acc) A ∧ Kp S A ∧ D.ltAll S.length acc = true ∧ J items.length acc A := by
  have hS : S1.length = S.length := k1.len
  obtain ⟨S', e1, h1⟩ := lc_inv (f := lcF G t c e (wipeL L vs) S1.length) (g := g) (I := fun i X => ∃ acc A, X = A ++ [.lst acc] ∧ Kp S A ∧ D.ltAll S.length acc = true ∧ acc.length ≤ i ∧ J i acc A) items 0 (S1 ++ [.lst []])
    ⟨[], S1, rfl, k1, rfl, Nat.le_refl _, j0⟩ (by
      rintro i X ⟨acc, A, rfl, kp, _, _, _⟩
      exact hg A _ kp) (by
      rintro i d X _ hd ⟨acc, A, rfl, kp, hlt, hac, hj⟩
      have hi : i < items.length := (List.getElem?_eq_some_iff.mp hd).1
      obtain ⟨L2, A1, ea, k2, h⟩ := step i d acc A hd kp hj
      rcases h with ⟨ec, hj'⟩ | ⟨A2, y, ec, ee, hy, k3, hj'⟩
      · refine ⟨A1 ++ [.lst acc], ?_, acc, A1, rfl, k2, hlt, by omega, hj'⟩
        unfold lcF
        rw [ea, ofO_some, R.bind_ok, ec, R.bind_ok, ifB_f]
      · refine ⟨A2 ++ [.lst (acc ++ [y])], ?_, acc ++ [y], A2, rfl, k3, by simp [hlt, hy], by simp; omega, hj'⟩
        unfold lcF
        rw [ea, ofO_some, R.bind_ok, ec, R.bind_ok, ifB_t, ee, R.bind_ok]
        have l2 : A2.length = S1.length := by rw [k3.len, hS]
        have g1 : (A2 ++ [.lst acc])[S1.length]? = some (.lst acc) := by rw [← l2]; simp
        simp only [g1]
        rw [if_pos (by rw [sizeLine_eq]; omega), ← l2]
        simp)
  obtain ⟨acc, A, rfl, kp, hlt, _, hj⟩ := h1
  rw [Nat.zero_add] at hj
  refine ⟨acc, A, ?_, kp, hlt, hj⟩
  have l2 : A.length = S1.length := by rw [kp.len, hS]
  rw [ev_fz, ev_lcE, hI, R.bind_ok]
  simp only
  rw [e1, R.bind_ok, ← l2]
  show ((R.ok (.ref A.length) (A ++ [.lst acc])).gc S).fz S = _
  exact gc_newL kp hlt
/-- a comprehension whose turns leave all as it is -/
theorem ev_fzlcP {vs : List Nat} {t : CT} {it : CI} {c e : CE} {items : List D} {g : Guard} (p : D → Bool) (f : D → D) (M : D → Lcs) (hI : evI G it L S = .ok (items, g) S) (hl : items.length < 16777216) (hg : ∀ A T, Kp S A → Gok g (A ++ T))
    (turn : ∀ d ∈ items, (∀ A, asgT t d A (wipeL L vs) = some (M d)) ∧ (∀ A, evE G c (M d) A = .ok (.bl (p d)) A) ∧ (p d = true → (∀ A, evE G e (M d) A = .ok (f d) A) ∧ (f d).lt S.length = true)) :
    evE G (.fz (.lc vs t it c e)) L S = .ok (.pl ((items.filter p).map f)) S := by
  obtain ⟨acc, A, h1, h2, h3, h4⟩ := ev_fzlc (c := c) (e := e) (t := t) (vs := vs) (fun i acc A => A = S ∧ acc = ((items.take i).filter p).map f) hI (Kp.refl S) hl hg ⟨rfl, by simp⟩ (by
    rintro i d acc A hd kp ⟨rfl, rfl⟩
    obtain ⟨q1, q2, q3⟩ := turn d (List.mem_of_getElem? hd)
    have ht : items.take (i + 1) = items.take i ++ [d] := by rw [List.take_succ, hd]; rfl
    refine ⟨M d, A, q1 _, kp, ?_⟩
    rw [ht, List.filter_append, List.map_append]
    cases hp : p d with
    | false => exact .inl ⟨by rw [q2, hp], rfl, by simp [hp]⟩
    | true => exact .inr ⟨A, f d, by rw [q2, hp], (q3 hp).1 _, (q3 hp).2, kp, rfl, by simp [hp]⟩)
  rw [h1, h4.1, h4.2, List.take_length]
theorem gok0 {A : Store} : Gok [] A := fun _ h => by cases h
end
def penL (cs : List Int) (t r : Int) : Cell := .lst [.pl (cs.map .int), .int t, .int r]
def setP (S : Store) (p : Nat) (cs : List Int) (t r : Int) : Store := S.set p (penL cs t r)
def Pn (p : Nat) (cs : List Int) (t r : Int) (S : Store) : Prop := S[p]? = some (penL cs t r)
section
variable {p : Nat} {cs : List Int} {t r t' r' : Int} {S A T : Store}
@[simp] theorem setP_len : (setP S p cs t r).length = S.length := by simp [setP]
theorem Pn.lt (h : Pn p cs t r S) : p < S.length := (List.getElem?_eq_some_iff.mp h).1
theorem Pn.set (h : Pn p cs t r S) (t' r' : Int) : Pn p cs t' r' (setP S p cs t' r') := by
  unfold Pn setP
  rw [List.getElem?_set_self h.lt]
theorem Pn.app (h : Pn p cs t r S) (T : Store) : Pn p cs t r (S ++ T) := by
  unfold Pn
  rw [List.getElem?_append_left h.lt]; exact h
@[simp] theorem setP_set : setP (setP S p cs t r) p cs t' r' = setP S p cs t' r' := by simp [setP]
theorem setP_app (h : p < S.length) : setP (S ++ T) p cs t r = setP S p cs t r ++ T := by
  unfold setP
  rw [List.set_append_left _ _ h]
theorem setP_same (h : Pn p cs t r S) : setP S p cs t r = S := by
  unfold setP
  refine List.ext_getElem? fun i => ?_
  by_cases e : p = i
  · subst e
    rw [List.getElem?_set_self h.lt, h]
  · rw [List.getElem?_set_ne e]
theorem pen_lt {n : Nat} : (penL cs t r).lt n = true := by simp [penL, Cell.lt, D.ltAll, D.lt]
theorem kp_set (h : Kp S A) : Kp S (setP A p cs t r) := h.set p pen_lt
theorem kp_pen : Kp S (setP S p cs t r) := kp_set (Kp.refl S)
end
theorem fz_bind {α : Type} {q : R α} {f : α → Store → R D} {S : Store} : (q.bind f).fz S = q.bind fun a S1 => (f a S1).fz S := by cases q <;> rfl
theorem gc_bind {α : Type} {q : R α} {f : α → Store → R D} {S : Store} : (q.bind f).gc S = q.bind fun a S1 => (f a S1).gc S := by cases q <;> rfl
section
variable {G : Gv} {L : Lcs} {S : Store}
@[simp high] theorem ev_tup1 {a : CE} : evE G (.tup (.cons a .nil)) L S = (evE G a L S).bind fun x1 S1 => R.ok (D.tup [x1]) S1 := by
  rw [ev_tup]
  simp only [ev_acons, ev_anil]
  cases evE G a L S with
  | exc _ _ => rfl
  | bad => rfl
  | ok x1 S1 => rfl
@[simp high] theorem ev_tup2 {a b : CE} : evE G (.tup (.cons a (.cons b .nil))) L S = (evE G a L S).bind fun x1 S1 => (evE G b L S1).bind fun x2 S2 => R.ok (D.tup [x1, x2]) S2 := by
  rw [ev_tup]
  simp only [ev_acons, ev_anil]
  cases evE G a L S with
  | exc _ _ => rfl
  | bad => rfl
  | ok x1 S1 =>
  simp only [R.bind_ok]
  cases evE G b L S1 with
  | exc _ _ => rfl
  | bad => rfl
  | ok x2 S2 => rfl
@[simp high] theorem ev_tup3 {a b c : CE} : evE G (.tup (.cons a (.cons b (.cons c .nil)))) L S = (evE G a L S).bind fun x1 S1 => (evE G b L S1).bind fun x2 S2 => (evE G c L S2).bind fun x3 S3 => R.ok (D.tup [x1, x2, x3]) S3 := by
  rw [ev_tup]
  simp only [ev_acons, ev_anil]
  cases evE G a L S with
  | exc _ _ => rfl
  | bad => rfl
  | ok x1 S1 =>
  simp only [R.bind_ok]
  cases evE G b L S1 with
  | exc _ _ => rfl
  | bad => rfl
  | ok x2 S2 =>
  simp only [R.bind_ok]
  cases evE G c L S2 with
  | exc _ _ => rfl
  | bad => rfl
  | ok x3 S3 => rfl
@[simp high] theorem ev_tup4 {a b c d : CE} : evE G (.tup (.cons a (.cons b (.cons c (.cons d .nil))))) L S = (evE G a L S).bind fun x1 S1 => (evE G b L S1).bind fun x2 S2 => (evE G c L S2).bind fun x3 S3 => (evE G d L S3).bind fun x4 S4 => R.ok (D.tup [x1, x2, x3, x4]) S4 := by
  rw [ev_tup]
  simp only [ev_acons, ev_anil]
  cases evE G a L S with
  | exc _ _ => rfl
  | bad => rfl
  | ok x1 S1 =>
  simp only [R.bind_ok]
  cases evE G b L S1 with
  | exc _ _ => rfl
  | bad => rfl
  | ok x2 S2 =>
  simp only [R.bind_ok]
  cases evE G c L S2 with
  | exc _ _ => rfl
  | bad => rfl
  | ok x3 S3 =>
  simp only [R.bind_ok]
  cases evE G d L S3 with
  | exc _ _ => rfl
  | bad => rfl
  | ok x4 S4 => rfl
@[simp high] theorem ev_tup5 {a b c d e : CE} : evE G (.tup (.cons a (.cons b (.cons c (.cons d (.cons e .nil)))))) L S = (evE G a L S).bind fun x1 S1 => (evE G b L S1).bind fun x2 S2 => (evE G c L S2).bind fun x3 S3 => (evE G d L S3).bind fun x4 S4 => (evE G e L S4).bind fun x5 S5 => R.ok (D.tup [x1, x2, x3, x4, x5]) S5 := by
  rw [ev_tup]
  simp only [ev_acons, ev_anil]
  cases evE G a L S with
  | exc _ _ => rfl
  | bad => rfl
  | ok x1 S1 =>
  simp only [R.bind_ok]
  cases evE G b L S1 with
  | exc _ _ => rfl
  | bad => rfl
  | ok x2 S2 =>
  simp only [R.bind_ok]
  cases evE G c L S2 with
  | exc _ _ => rfl
  | bad => rfl
  | ok x3 S3 =>
  simp only [R.bind_ok]
  cases evE G d L S3 with
  | exc _ _ => rfl
  | bad => rfl
  | ok x4 S4 =>
  simp only [R.bind_ok]
  cases evE G e L S4 with
  | exc _ _ => rfl
  | bad => rfl
  | ok x5 S5 => rfl
@[simp high] theorem ev_tup6 {a b c d e f : CE} : evE G (.tup (.cons a (.cons b (.cons c (.cons d (.cons e (.cons f .nil))))))) L S = (evE G a L S).bind fun x1 S1 => (evE G b L S1).bind fun x2 S2 => (evE G c L S2).bind fun x3 S3 => (evE G d L S3).bind fun x4 S4 => (evE G e L S4).bind fun x5 S5 => (evE G f L S5).bind fun x6 S6 => R.ok (D.tup [x1, x2, x3, x4, x5, x6]) S6 := by
  rw [ev_tup]
  simp only [ev_acons, ev_anil]
  cases evE G a L S with
  | exc _ _ => rfl
  | bad => rfl
  | ok x1 S1 =>
  simp only [R.bind_ok]
  cases evE G b L S1 with
  | exc _ _ => rfl
  | bad => rfl
  | ok x2 S2 =>
  simp only [R.bind_ok]
  cases evE G c L S2 with
  | exc _ _ => rfl
  | bad => rfl
  | ok x3 S3 =>
  simp only [R.bind_ok]
  cases evE G d L S3 with
  | exc _ _ => rfl
  | bad => rfl
  | ok x4 S4 =>
  simp only [R.bind_ok]
  cases evE G e L S4 with
  | exc _ _ => rfl
  | bad => rfl
  | ok x5 S5 =>
  simp only [R.bind_ok]
  cases evE G f L S5 with
  | exc _ _ => rfl
  | bad => rfl
  | ok x6 S6 => rfl
@[simp] theorem ev_fzl {as : CA} : evE G (.fz (.lst as)) L S = (evA G as L S).bind fun ds S1 => (if sizeOk ds.length then newC (.lst ds) S1 else .bad).fz S := by
  rw [ev_fz, ev_lst, fz_bind]
@[simp] theorem ev_fzbin {op : Operator} {a b : CE} : evE G (.fz (.bin op a b)) L S = (evE G a L S).bind fun x S1 => (evE G b L S1).bind fun y S2 => (binD op x y S2).fz S := by
  rw [ev_fz, ev_bin, fz_bind]
  simp only [fz_bind]
@[simp] theorem ev_fzbi {f : Bi} {as : CA} : evE G (.fz (.bi f as)) L S = (evA G as L S).bind fun ds S1 => ((biD f ds S1).gc S).fz S := by
  rw [ev_fz, ev_bi, gc_bind, fz_bind]
@[simp] theorem ev_fzmth {m : Mt} {o : CE} {as : CA} : evE G (.fz (.mth m o as)) L S = (evE G o L S).bind fun x S1 => if mtTy m x S1 = true then (evA G as L S1).bind fun ds S2 => ((mtD m x ds S2).gc S).fz S else .bad := by
  rw [ev_fz, ev_mth, gc_bind, fz_bind]
  congr 1
  funext x S1
  split
  · rw [gc_bind, fz_bind]
  · rfl
@[simp] theorem ev_fzslc {e l h : CE} {a b : Bool} : evE G (.fz (.slc e a l b h)) L S = (evE G (.slc e a l b h) L S).fz S := rfl
@[simp] theorem newL_same {ds : List D} (h : D.ltAll S.length ds = true) : (newC (.lst ds) S).fz S = .ok (.pl ds) S := fz_newL (Kp.refl S) h
@[simp] theorem newL_pen {ds : List D} {p : Nat} {cs : List Int} {t r : Int} (h : D.ltAll S.length ds = true) : (newC (.lst ds) (setP S p cs t r)).fz S = .ok (.pl ds) (setP S p cs t r) := fz_newL kp_pen h
@[simp] theorem newL_pen2 {ds : List D} {p : Nat} {cs : List Int} {t r t' r' : Int} (h : D.ltAll S.length ds = true) : (newC (.lst ds) (setP S p cs t r)).fz (setP S p cs t' r') = .ok (.pl ds) (setP S p cs t r) := by
  have := newL_pen (S := setP S p cs t' r') (p := p) (cs := cs) (t := t) (r := r) (ds := ds) (by rw [setP_len]; exact h)
  rwa [setP_set] at this
@[simp] theorem newG_same {ds : List D} (h : D.ltAll S.length ds = true) : ((newC (.lst ds) S).gc S).fz S = .ok (.pl ds) S := gc_newL (Kp.refl S) h
@[simp] theorem newD_same {kvs : List (Key × D)} (h : D.ltAll S.length (kvs.map (·.2)) = true) : ((newC (.dK kvs) S).gc S).fz S = .ok (.pd (kvs.map (·.1)) (kvs.map (·.2))) S := gc_newD (Kp.refl S) h
@[simp] theorem fz_ok_int {i : Int} : fz S (.int i) S = .ok (.int i) S := fz_same rfl
@[simp] theorem fz_ok_str {i : Str} : fz S (.str i) S = .ok (.str i) S := fz_same rfl
theorem set_tail {T : Store} {p : Nat} {cs : List Int} {t r : Int} {c c' : Cell} (h : p < S.length) : (setP (S ++ [c]) p cs t r).set S.length c' = setP (S ++ [c']) p cs t r := by
  rw [setP_app h, setP_app h]
  have : (setP S p cs t r).length = S.length := setP_len
  rw [← this, List.set_append_right _ _ (Nat.le_refl _)]
  simp
theorem at_tail {T : Store} {p : Nat} {cs : List Int} {t r : Int} {c : Cell} (h : p < S.length) : (setP (S ++ [c]) p cs t r)[S.length]? = some c := by
  rw [setP_app h]
  have : (setP S p cs t r).length = S.length := setP_len
  rw [← this]
  simp
theorem kp_tail {p : Nat} {cs : List Int} {t r : Int} {d : D} {T : Store} (h : p < S.length) (hd : d.lt S.length = true) : Mi.gc S d (setP (S ++ T) p cs t r) = .ok d (setP S p cs t r) := by
  rw [setP_app h]
  exact gc_kp kp_pen hd
end
theorem for_inv {f : D → Lcs → Store → R (Fl × Lcs)} {g : Guard} (I : Nat → Lcs → Store → Prop) : ∀ (items : List D) (n : Nat) (L : Lcs) (S : Store), I n L S →
    (∀ i L S, I i L S → Gok g S) → (∀ i d L S, n ≤ i → items[i - n]? = some d → I i L S → ∃ L' S', f d L S = .ok (.nx, L') S' ∧ I (i + 1) L' S') → ∃ L' S', forLoop f g items L S = .ok (.nx, L') S' ∧ I (n + items.length) L' S'
  | [], n, L, S, h0, hg, step => ⟨L, S, by simp [forLoop, hg n L S h0], h0⟩
  | d :: ds, n, L, S, h0, hg, step => by
    obtain ⟨L1, S1, e1, i1⟩ := step n d L S (Nat.le_refl _) (by simp) h0
    obtain ⟨L2, S2, e2, i2⟩ := for_inv I ds (n + 1) L1 S1 i1 hg fun i d' L S hi hd hI => step i d' L S (by omega) (by
      have : i - n = (i - (n + 1)) + 1 := by omega
      rw [this]; exact hd) hI
    refine ⟨L2, S2, ?_, by rw [List.length_cons]; have : n + (ds.length + 1) = n + 1 + ds.length := by omega
                           rw [this]; exact i2⟩
    simp only [forLoop]
    rw [if_pos (hg n L S h0), e1, R.bind_ok]
    exact e2
theorem for_inv0 {f : D → Lcs → Store → R (Fl × Lcs)} {g : Guard} {items : List D} {L : Lcs} {S : Store} (I : Nat → Lcs → Store → Prop) (h0 : I 0 L S) (hg : ∀ i L S, I i L S → Gok g S)
    (step : ∀ i d L S, items[i]? = some d → I i L S → ∃ L' S', f d L S = .ok (.nx, L') S' ∧ I (i + 1) L' S') : ∃ L' S', forLoop f g items L S = .ok (.nx, L') S' ∧ I items.length L' S' := by
  have := for_inv (f := f) (g := g) I items 0 L S h0 hg fun i d L S _ hd hI => step i d L S hd hI
  rwa [Nat.zero_add] at this
theorem rng_one {j : Int} (h0 : 0 ≤ j) (h : j < 2 ^ 60) : rngD [.int j] = some ((List.range j.toNat).map fun (k : Nat) => D.int (k : Int)) := by
  show (if _ then _ else _) = _
  rw [if_pos (by omega)]
theorem rng_get {n i : Nat} {d : D} (h : ((List.range n).map fun (k : Nat) => D.int (k : Int))[i]? = some d) : d = .int (i : Int) ∧ i < n := by
  have hi : i < ((List.range n).map fun (k : Nat) => D.int (k : Int)).length := (List.getElem?_eq_some_iff.mp h).1
  rw [List.getElem?_eq_getElem hi] at h
  simp at hi h
  exact ⟨h.symm, hi⟩
end Mi
namespace Mi
open PySem L2
theorem bind_congr' {α β : Type} {r r' : R α} (f : α → Store → R β) (h : r = r') : r.bind f = r'.bind f := by rw [h]
abbrev abcS : Str := Str.ofString "abcdefghijklmnopqrstuvwxyz"
def abc : List Nat := abcS.cps.toList
theorem abcS_len : (Str.ofString "abcdefghijklmnopqrstuvwxyz").length = 26 := by decide +kernel
theorem abc_at : ∀ m : Nat, m < 26 → L2.atI abc (m : Int) = some (97 + m) := by decide +kernel
theorem abc_iff : ∀ c ∈ abc, 97 ≤ c ∧ c ≤ 122 := by decide +kernel
theorem abc_mem {c : Nat} (h : 97 ≤ c ∧ c ≤ 122) : c ∈ abc := by
  have := abc_at (c - 97) (by omega)
  obtain ⟨h1, h2⟩ := h
  have e : abc[c - 97]? = some (97 + (c - 97)) := by
    have hh : ∀ m : Nat, m < 26 → abc[m]? = some (97 + m) := by decide +kernel
    exact hh _ (by omega)
  have := List.mem_of_getElem? e
  have e2 : 97 + (c - 97) = c := by omega
  rwa [e2] at this
/-- a name: one to eight small letters -/
structure Nam (x : Str) : Prop where
  l1 : 1 ≤ x.cps.toList.length
  l8 : x.cps.toList.length ≤ 8
  az : ∀ c ∈ x.cps.toList, c ∈ abc
theorem Nam.len {x : Str} (h : Nam x) : x.length ≤ 8 := by have := h.l8; simpa [Str.length] using this
theorem Nam.ok {x : Str} (h : Nam x) : PyData.strOk x = true := strOk_iff.mpr fun c hc => by have := abc_iff c (h.az c hc); omega
/-- names, rising -/
structure Nams (xs : List Str) : Prop where
  nam : ∀ x ∈ xs, Nam x
  up : xs.Pairwise fun a b => a.cps.toList < b.cps.toList
theorem leSt_lt {a b : Str} (h : leSt a b) (n : a ≠ b) : a.cps.toList < b.cps.toList := Classical.byContradiction fun hn => n (leSt_anti h (leSt_of_not hn))
theorem sort_nams {xs : List Str} (nd : xs.Nodup) (h : ∀ x ∈ xs, Nam x) : Nams (sortSt xs) := by
  have pm := sortSt_perm xs
  refine ⟨fun x hx => h x (pm.mem_iff.mp hx), ?_⟩
  have nd2 : (sortSt xs).Nodup := pm.nodup_iff.mpr nd
  have pw := sortSt_pw xs
  unfold List.Nodup at nd2
  exact (pw.and nd2).imp fun ⟨a, b⟩ => leSt_lt a b
theorem Nams.nodup {xs : List Str} (h : Nams xs) : xs.Nodup := h.up.imp fun h e => by rw [e] at h; exact List.lt_irrefl _ h
end Mi
namespace Mi
open PySem L2
/-- a dial -/
structure Di where
  nm : Str
  lo : Int
  hi : Int
  way : Str
  up : Int
  dn : Int
def diD (d : Di) : D := .tup [.str d.nm, .int d.lo, .int d.hi, .str d.way, .int d.up, .int d.dn]
def ways : List Str := [Str.ofString "both", Str.ofString "up", Str.ofString "down"]
structure DiOk (d : Di) : Prop where
  nm : Nam d.nm
  lo : -(10 ^ 18) ≤ d.lo
  lh : d.lo ≤ d.hi
  hi : d.hi ≤ 10 ^ 18
  way : d.way ∈ ways
  u1 : 1 ≤ d.up
  u2 : d.up ≤ 1000000
  d1 : 1 ≤ d.dn
  d2 : d.dn ≤ 1000000
@[simp] theorem lt_di {n : Nat} (d : Di) : (diD d).lt n = true := by simp [diD]
@[simp] theorem ltAll_di {n : Nat} (ds : List Di) : D.ltAll n (ds.map diD) = true := ltAll_map _ lt_di ds
theorem app_tail {S : Store} {p : Nat} {cs : List Int} {t r : Int} {xs : List D} {d : D} (h : p < S.length) (hz : xs.length < 16777216) : mtD .append (.ref S.length) [d] (setP (S ++ [.lst xs]) p cs t r) = .ok .non (setP (S ++ [.lst (xs ++ [d])]) p cs t r) := by
  rw [app_lst (at_tail (T := []) h) hz, set_tail (T := []) h]
theorem ty_tail {S : Store} {p : Nat} {cs : List Int} {t r : Int} {xs : List D} (h : p < S.length) : mtTy .append (.ref S.length) (setP (S ++ [.lst xs]) p cs t r) = true := ty_app (at_tail (T := []) h)
/-- a list in a name, kept -/
theorem fzv_tail {G : Gv} {S : Store} {p : Nat} {cs : List Int} {t r : Int} {xs : List D} {L : Lcs} {i : Nat} {c : CSs} (h : p < S.length) (hL : L[i]? = some (some (.ref S.length))) :
    exS G (.fzv i c) L (setP (S ++ [.lst xs]) p cs t r) = exS G c (L.set i (some (.pl xs))) (setP (S ++ [.ded]) p cs t r) := by
  have h1 := at_tail (S := S) (T := []) (p := p) (cs := cs) (t := t) (r := r) (c := .lst xs) h
  simp only [exS, hL, h1]
  rw [set_tail (T := []) h]
@[simp] theorem bi_tupP {ds : List D} {S : Store} : biD .tuple [.pl ds] S = .ok (.tup ds) S := rfl
@[simp] theorem bi_tupT {ds : List D} {S : Store} : biD .tuple [.tup ds] S = .ok (.tup ds) S := rfl
@[simp] theorem bi_lenP {ds : List D} {S : Store} : biD .len [.pl ds] S = .ok (.int ds.length) S := rfl
@[simp] theorem walk_pl {ds : List D} {S : Store} : walkD S (.pl ds) = some (ds, []) := rfl
@[simp] theorem walk_tup {ds : List D} {S : Store} : walkD S (.tup ds) = some (ds, []) := rfl
theorem gc_same' {S : Store} {d : D} : Mi.gc S d S = .ok d S := gc_same
theorem gc_pen {S : Store} {d : D} {p : Nat} {cs : List Int} {t r : Int} : Mi.gc S d (setP S p cs t r) = .ok d (setP S p cs t r) := gc_len setP_len
theorem gc_pen2 {S : Store} {d : D} {p : Nat} {cs : List Int} {t r t' r' : Int} : Mi.gc (setP S p cs t' r') d (setP S p cs t r) = .ok d (setP S p cs t r) := gc_len (by simp)
end Mi
namespace Mi
open PySem L2
def kvOf (xs : List Str) (is : List Int) : D := .pd (xs.map fun x => (.inr x : Key)) (is.map .int)
def lkI (xs : List Str) (is : List Int) (x : Str) : Int := (((xs.zip is).find? fun q => decide (q.1 = x)).map (·.2)).getD 0
theorem find_kv : ∀ (xs : List Str) (is : List Int) (x : Str), xs.length = is.length → x ∈ xs → ∃ v, v ∈ is ∧ ((xs.zip is).find? fun q => decide (q.1 = x)) = some (x, v) ∧ lookK ((xs.map fun x => (.inr x : Key)).zip (is.map D.int)) (.inr x) = some (.int v)
  | [], _, _, _, h => by cases h
  | y :: xs, [], _, h, _ => by cases h
  | y :: xs, i :: is, x, hl, h => by
    by_cases e : y = x
    · subst e
      exact ⟨i, by simp, by simp, by simp [lookK]⟩
    · rcases List.mem_cons.mp h with rfl | h
      · exact absurd rfl e
      · obtain ⟨v, h1, h2, h3⟩ := find_kv xs is x (by simpa using hl) h
        refine ⟨v, by simp [h1], by simp [e, h2], ?_⟩
        simp only [List.map_cons, List.zip_cons_cons, lookK, List.find?_cons] at h3 ⊢
        have : (decide ((Sum.inr y : Key) = Sum.inr x)) = false := decide_eq_false fun z => e (Sum.inr.inj z)
        rw [this]
        exact h3
theorem idx_kv {xs : List Str} {is : List Int} {x : Str} {S : Store} (hl : xs.length = is.length) (h : x ∈ xs) : idxD (kvOf xs is) (.str x) S = .ok (.int (lkI xs is x)) S ∧ lkI xs is x ∈ is := by
  obtain ⟨v, h1, h2, h3⟩ := find_kv xs is x hl h
  have e : lkI xs is x = v := by unfold lkI; rw [h2]; rfl
  refine ⟨?_, by rw [e]; exact h1⟩
  show optR ((some (Sum.inr x : Key)).bind (lookK _)) S = _
  rw [Option.bind_some, h3, e]; rfl
@[simp] theorem lt_kv {n : Nat} (xs : List Str) (is : List Int) : (kvOf xs is).lt n = true := by simp [kvOf]
structure Sy where
  nm : Str
  ls : Bool
  i : Int
  deriving DecidableEq
def srt (b : Bool) : Str := if b then Str.ofString "least" else Str.ofString "most"
def syD (s : Sy) : D := .tup [.str s.nm, .str (srt s.ls), .int s.i]
structure SyOk (xs : List Str) (s : Sy) : Prop where
  nm : s.nm ∈ xs
  lo : -(10 ^ 20) ≤ s.i
  hi : s.i ≤ 10 ^ 20
def sdB (xs : List Str) (is : List Int) (s : Sy) : Bool := if s.ls then decide (s.i ≤ lkI xs is s.nm) else decide (lkI xs is s.nm ≤ s.i)
inductive W3 where
  | off | most | least
  deriving DecidableEq
def wS : W3 → Str
  | .off => Str.ofString "off"
  | .most => Str.ofString "most"
  | .least => Str.ofString "least"
inductive Ru where
  | one (p q : Sy)
  | lin (w : W3) (a b : Str) (c : Int)
  deriving DecidableEq
def ruD : Ru → D
  | .one p q => .tup [.str (Str.ofString "one"), syD p, syD q]
  | .lin w a b c => .tup [.str (wS w), .str a, .str b, .int c]
inductive RuOk (xs : List Str) : Ru → Prop
  | one {p q : Sy} (hp : SyOk xs p) (hq : SyOk xs q) : RuOk xs (.one p q)
  | lin {w : W3} {a b : Str} {c : Int} (ha : a ∈ xs) (hb : b ∈ xs) (ne : a ≠ b) (lo : -(10 ^ 20) ≤ c) (hi : c ≤ 10 ^ 20) : RuOk xs (.lin w a b c)
@[simp] theorem lt_sy {n : Nat} (s : Sy) : (syD s).lt n = true := by simp [syD]
@[simp] theorem lt_ru {n : Nat} (r : Ru) : (ruD r).lt n = true := by cases r <;> simp [ruD]
@[simp] theorem ltAll_ru {n : Nat} (rs : List Ru) : D.ltAll n (rs.map ruD) = true := ltAll_map _ lt_ru rs
theorem eqS {x y : Str} {S : Store} (hx : PyData.strOk x = true) (hy : PyData.strOk y = true) : cmpD .Eq (.str x) (.str y) S = .ok (.bl (x == y)) S := cmp_eqS hx hy
theorem beqS {x y : Str} (b : Bool) (h : decide (x.cps = y.cps) = b) : (x == y) = b := by
  rw [← h]
  have : (x == y) = decide (x = y) := by
    rw [Bool.eq_iff_iff]; simp
  rw [this]
  congr 1
  cases x; cases y; simp
theorem ok_one : PyData.strOk (Str.ofString "one") = true := by decide +kernel
theorem ok_off : PyData.strOk (Str.ofString "off") = true := by decide +kernel
theorem ok_most : PyData.strOk (Str.ofString "most") = true := by decide +kernel
theorem ok_least : PyData.strOk (Str.ofString "least") = true := by decide +kernel
theorem ok_w (w : W3) : PyData.strOk (wS w) = true := by cases w <;> first | exact ok_off | exact ok_most | exact ok_least
theorem ok_srt (b : Bool) : PyData.strOk (srt b) = true := by cases b <;> first | exact ok_most | exact ok_least
theorem srt_least (b : Bool) : (srt b == Str.ofString "least") = b := by cases b <;> exact beqS _ (by decide +kernel)
theorem srt_most (b : Bool) : (srt b == Str.ofString "most") = !b := by cases b <;> exact beqS _ (by decide +kernel)
theorem w_one (w : W3) : (wS w == Str.ofString "one") = false := by cases w <;> exact beqS _ (by decide +kernel)
theorem one_one : (Str.ofString "one" == Str.ofString "one") = true := beqS _ (by decide +kernel)
theorem w_off (w : W3) : (wS w == Str.ofString "off") = decide (w = .off) := by cases w <;> exact beqS _ (by decide +kernel)
theorem w_most (w : W3) : (wS w == Str.ofString "most") = decide (w = .most) := by cases w <;> exact beqS _ (by decide +kernel)
theorem cmp_srt_least {b : Bool} {S : Store} : cmpD .Eq (.str (srt b)) (.str (Str.ofString "least")) S = .ok (.bl b) S := by rw [eqS (ok_srt b) ok_least, srt_least]
theorem cmp_srt_most {b : Bool} {S : Store} : cmpD .Eq (.str (srt b)) (.str (Str.ofString "most")) S = .ok (.bl !b) S := by rw [eqS (ok_srt b) ok_most, srt_most]
theorem cmp_w_one {w : W3} {S : Store} : cmpD .Eq (.str (wS w)) (.str (Str.ofString "one")) S = .ok (.bl false) S := by rw [eqS (ok_w w) ok_one, w_one]
theorem cmp_one_one {S : Store} : cmpD .Eq (.str (Str.ofString "one")) (.str (Str.ofString "one")) S = .ok (.bl true) S := by rw [eqS ok_one ok_one, one_one]
theorem cmp_w_off {w : W3} {S : Store} : cmpD .Eq (.str (wS w)) (.str (Str.ofString "off")) S = .ok (.bl (decide (w = .off))) S := by rw [eqS (ok_w w) ok_off, w_off]
theorem cmp_w_most {w : W3} {S : Store} : cmpD .Eq (.str (wS w)) (.str (Str.ofString "most")) S = .ok (.bl (decide (w = .most))) S := by rw [eqS (ok_w w) ok_most, w_most]
end Mi
namespace Mi
open PySem L2
section
variable {S : Store} {a b c d e f : D} {r : List D}
theorem idx_at {ds : List D} {i : Nat} (h : ds[i]? = some a) : idxD (.tup ds) (.int (i : Int)) S = .ok a S := by
  show optR (L2.atI ds (i : Int)) S = _
  rw [atI_nat h]; rfl
theorem idx_atP {ds : List D} {i : Nat} (h : ds[i]? = some a) : idxD (.pl ds) (.int (i : Int)) S = .ok a S := by
  show optR (L2.atI ds (i : Int)) S = _
  rw [atI_nat h]; rfl
@[simp] theorem idx_t0 : idxD (.tup (a :: r)) (.int 0) S = .ok a S := idx_at (i := 0) rfl
@[simp] theorem idx_t1 : idxD (.tup (a :: b :: r)) (.int 1) S = .ok b S := idx_at (i := 1) rfl
@[simp] theorem idx_t2 : idxD (.tup (a :: b :: c :: r)) (.int 2) S = .ok c S := idx_at (i := 2) rfl
@[simp] theorem idx_t3 : idxD (.tup (a :: b :: c :: d :: r)) (.int 3) S = .ok d S := idx_at (i := 3) rfl
@[simp] theorem idx_p0 : idxD (.pl (a :: r)) (.int 0) S = .ok a S := idx_atP (i := 0) rfl
@[simp] theorem idx_p1 : idxD (.pl (a :: b :: r)) (.int 1) S = .ok b S := idx_atP (i := 1) rfl
@[simp] theorem idx_p2 : idxD (.pl (a :: b :: c :: r)) (.int 2) S = .ok c S := idx_atP (i := 2) rfl
@[simp] theorem idx_p3 : idxD (.pl (a :: b :: c :: d :: r)) (.int 3) S = .ok d S := idx_atP (i := 3) rfl
@[simp] theorem di0 {q : Di} : idxD (diD q) (.int 0) S = .ok (.str q.nm) S := idx_at (i := 0) rfl
@[simp] theorem di1 {q : Di} : idxD (diD q) (.int 1) S = .ok (.int q.lo) S := idx_at (i := 1) rfl
@[simp] theorem di2 {q : Di} : idxD (diD q) (.int 2) S = .ok (.int q.hi) S := idx_at (i := 2) rfl
@[simp] theorem di3 {q : Di} : idxD (diD q) (.int 3) S = .ok (.str q.way) S := idx_at (i := 3) rfl
@[simp] theorem sy0 {q : Sy} : idxD (syD q) (.int 0) S = .ok (.str q.nm) S := idx_at (i := 0) rfl
@[simp] theorem sy1 {q : Sy} : idxD (syD q) (.int 1) S = .ok (.str (srt q.ls)) S := idx_at (i := 1) rfl
@[simp] theorem sy2 {q : Sy} : idxD (syD q) (.int 2) S = .ok (.int q.i) S := idx_at (i := 2) rfl
end
def syPy (s : Sy) : PyData := .tuple [.str s.nm, .str (srt s.ls), .int s.i]
def ruPy : Ru → PyData
  | .one p q => .tuple [.str (Str.ofString "one"), syPy p, syPy q]
  | .lin w a b c => .tuple [.str (wS w), .str a, .str b, .int c]
theorem toPy_sy (k : Nat) (S : Store) (s : Sy) : toPy (k + 2) S (syD s) = some (syPy s) := rfl
theorem toPy_ru (k : Nat) (S : Store) (r : Ru) : toPy (k + 3) S (ruD r) = some (ruPy r) := by cases r <;> rfl
theorem srt_inj {a b : Bool} : (srt a == srt b) = decide (a = b) := by cases a <;> cases b <;> exact beqS _ (by decide +kernel)
theorem wS_inj {a b : W3} : (wS a == wS b) = decide (a = b) := by cases a <;> cases b <;> exact beqS _ (by decide +kernel)
theorem eqv_sy (a b : Sy) : PyData.eqv (syPy a) (syPy b) = decide (a = b) := by
  obtain ⟨n1, l1, i1⟩ := a
  obtain ⟨n2, l2, i2⟩ := b
  simp only [syPy, PyData.eqv, PyData.eqvAll, srt_inj, Bool.and_true]
  rw [Bool.eq_iff_iff]
  simp
theorem eqv_ru (u v : Ru) : PyData.eqv (ruPy u) (ruPy v) = decide (u = v) := by
  cases u with
  | one p q =>
    cases v with
    | one p' q' =>
      simp only [ruPy, PyData.eqv, PyData.eqvAll, eqv_sy, Bool.and_true, one_one]
      rw [Bool.eq_iff_iff]
      simp
    | lin w a b c =>
      have : (Str.ofString "one" == wS w) = false := by cases w <;> exact beqS _ (by decide +kernel)
      simp [ruPy, PyData.eqv, PyData.eqvAll, this]
  | lin w a b c =>
    cases v with
    | one p q => simp [ruPy, PyData.eqv, PyData.eqvAll, w_one]
    | lin w' a' b' c' =>
      simp only [ruPy, PyData.eqv, PyData.eqvAll, wS_inj, Bool.and_true]
      rw [Bool.eq_iff_iff]
      simp
/-- all names of a rule are texts that can be laid -/
def Ru.lay : Ru → Prop
  | .one p q => PyData.strOk p.nm = true ∧ PyData.strOk q.nm = true
  | .lin _ a b _ => PyData.strOk a = true ∧ PyData.strOk b = true
theorem RuOk.lay {xs : List Str} {r : Ru} (h : RuOk xs r) (hx : ∀ x ∈ xs, Nam x) : r.lay := by
  rcases h with ⟨hp, hq⟩ | ⟨ha, hb, _, _, _⟩
  · exact ⟨(hx _ hp.nm).ok, (hx _ hq.nm).ok⟩
  · exact ⟨(hx _ ha).ok, (hx _ hb).ok⟩
theorem lay_sy {s : Sy} (h : PyData.strOk s.nm = true) : (syPy s).canLay0 = true ∧ (syPy s).depth = 1 := by
  refine ⟨?_, ?_⟩
  · simp [syPy, PyData.canLay0, PyData.canLayAll0, h, ok_srt]
  · simp [syPy, PyData.depth, PyData.depthAll]
theorem lay_ru {r : Ru} (h : r.lay) : (ruPy r).canLay0 = true ∧ (ruPy r).depth ≤ 2 := by
  cases r with
  | one p q =>
    obtain ⟨a1, a2⟩ := lay_sy h.1
    obtain ⟨b1, b2⟩ := lay_sy h.2
    refine ⟨?_, ?_⟩
    · simp [ruPy, PyData.canLay0, PyData.canLayAll0, ok_one, a1, b1]
    · simp [ruPy, PyData.depth, PyData.depthAll, a2, b2]
  | lin w a b c =>
    refine ⟨?_, ?_⟩
    · simp [ruPy, PyData.canLay0, PyData.canLayAll0, ok_w, h.1, h.2]
    · simp [ruPy, PyData.depth, PyData.depthAll]
theorem lays_ru : ∀ {rs : List Ru}, (∀ r ∈ rs, r.lay) → PyData.canLayAll0 (rs.map ruPy) = true ∧ PyData.depthAll (rs.map ruPy) ≤ 2
  | [], _ => ⟨rfl, by simp [PyData.depthAll]⟩
  | r :: rs, h => by
    obtain ⟨a, b⟩ := lay_ru (h r (by simp))
    obtain ⟨c, d⟩ := lays_ru (rs := rs) fun r hr => h r (by simp [hr])
    exact ⟨by simp [PyData.canLayAll0, a, c], by simp only [List.map_cons, PyData.depthAll]; exact Nat.max_le.mpr ⟨b, d⟩⟩
theorem toPys_ru (k : Nat) (S : Store) : ∀ rs : List Ru, allSome ((rs.map ruD).map (toPy (k + 3) S)) = some (rs.map ruPy)
  | [] => rfl
  | r :: rs => by
    rw [List.map_cons, List.map_cons, toPy_ru]
    show (allSome ((rs.map ruD).map (toPy (k + 3) S))).map (ruPy r :: ·) = _
    rw [toPys_ru k S rs]; rfl
theorem inD_ru {S : Store} {r : Ru} {rs : List Ru} (h : r.lay) (hs : ∀ r ∈ rs, r.lay) : inD S (ruD r) (rs.map ruD) = some (decide (r ∈ rs)) := by
  obtain ⟨a, b⟩ := lay_ru h
  obtain ⟨c, d⟩ := lays_ru hs
  unfold inD
  rw [show py S (ruD r) = some (ruPy r) from toPy_ru 47 S r, toPys_ru 46 S rs]
  have s1 : SeqAt.shaped (ruPy r) = true := by simp only [SeqAt.shaped, a, Bool.true_and, decide_eq_true_eq]; omega
  have s2 : SeqAt.shaped (.list (rs.map ruPy)) = true := by
    have e : PyData.depth (.list (rs.map ruPy)) = PyData.depthAll (rs.map ruPy) + 1 := by simp [PyData.depth, Nat.add_comm]
    simp only [SeqAt.shaped, PyData.canLay0, e, c, Bool.true_and, decide_eq_true_eq]; omega
  simp only [s1, s2, Bool.and_self, if_true]
  congr 1
  rw [List.any_map, Bool.eq_iff_iff, List.any_eq_true, decide_eq_true_eq]
  constructor
  · rintro ⟨q, hq, e⟩
    simp only [Function.comp, eqv_ru, decide_eq_true_eq] at e
    rw [← e]; exact hq
  · exact fun h => ⟨r, h, by simp [eqv_ru]⟩
structure Ho where
  ds : List Di
  rs : List Ru
def hoD (h : Ho) : D := .tup [.tup (h.ds.map diD), .tup (h.rs.map ruD)]
abbrev Ho.nms (h : Ho) : List Str := h.ds.map (·.nm)
structure HoOk (h : Ho) : Prop where
  ds : ∀ d ∈ h.ds, DiOk d
  nm : Nams h.nms
  l1 : 1 ≤ h.ds.length
  l2 : h.ds.length ≤ 12
  rs : ∀ r ∈ h.rs, RuOk h.nms r
  nd : h.rs.Nodup
  rl : h.rs.length ≤ 40
theorem HoOk.lay {h : Ho} (ok : HoOk h) : ∀ r ∈ h.rs, r.lay := fun r hr => (ok.rs r hr).lay ok.nm.nam
structure NmsOk (h : Ho) (is : List Int) : Prop where
  len : is.length = h.ds.length
  at_ : ∀ (i : Nat) (d : Di) (v : Int), h.ds[i]? = some d → is[i]? = some v → d.lo ≤ v ∧ v ≤ d.hi
@[simp] theorem lt_ho {n : Nat} (h : Ho) : (hoD h).lt n = true := by simp [hoD]
@[simp] theorem ho0 {h : Ho} {S : Store} : idxD (hoD h) (.int 0) S = .ok (.tup (h.ds.map diD)) S := idx_at (i := 0) rfl
@[simp] theorem ho1 {h : Ho} {S : Store} : idxD (hoD h) (.int 1) S = .ok (.tup (h.rs.map ruD)) S := idx_at (i := 1) rfl
theorem mergeD_new : ∀ (more : List (Key × D)) (kvs : List (Key × D)), ((kvs ++ more).map (·.1)).Nodup → mergeD kvs more = kvs ++ more
  | [], kvs, _ => by simp [mergeD]
  | (k, v) :: more, kvs, h => by
    have hk : k ∉ kvs.map (·.1) := fun z => by
      rw [List.map_append, List.map_cons] at h
      have := List.nodup_append.mp h
      exact this.2.2 k z k (by simp) rfl
    have e : putD kvs k v = kvs ++ [(k, v)] := by
      unfold putD
      rw [if_neg fun z => by
        obtain ⟨q, hq, e⟩ := List.any_eq_true.mp z
        exact hk (List.mem_map.mpr ⟨q, hq, of_decide_eq_true e⟩)]
    show mergeD (putD kvs k v) more = _
    rw [e, mergeD_new more _ (by simpa using h)]
    simp
end Mi
namespace Mi
open PySem L2
def iS (i : Int) : Str := Str.ofString (toString i)
theorem tl_eq (x : Str) : TL.tl x = x.cps.toList := rfl
theorem str_ext {x y : Str} (h : x.cps.toList = y.cps.toList) : x = y := by
  cases x; cases y
  simp only [Str.mk.injEq]
  exact Array.toList_inj.mp h
theorem beq_false {x y : Str} (h : x.cps.toList ≠ y.cps.toList) : (x == y) = false := by
  rw [beq_eq_false_iff_ne]
  intro z; rw [z] at h; exact h rfl
theorem iS_nn (n : Nat) : (iS (n : Int)).cps.toList = TL.numL n := TL.tl_num n
theorem iS_neg (n : Nat) (h : 0 < n) : (iS (-(n : Int))).cps.toList = 45 :: TL.numL n := by
  obtain ⟨m, rfl⟩ : ∃ m, n = m + 1 := ⟨n - 1, by omega⟩
  have e : (-((m + 1 : Nat) : Int)) = Int.negSucc m := rfl
  have e2 : (toString (Int.negSucc m)) = "-" ++ toString (m + 1) := rfl
  have e3 : TL.tl (Str.ofString (toString ((m + 1 : Nat) : Int))) = TL.numL (m + 1) := TL.tl_num _
  have e4 : (toString ((m + 1 : Nat) : Int)) = toString (m + 1) := rfl
  rw [e4, TL.tl_ofString] at e3
  unfold iS
  rw [e, e2]
  show TL.tl _ = _
  rw [TL.tl_ofString, String.toList_append, List.map_append, e3]
  rfl
theorem cases_nat (i : Int) : (∃ n : Nat, i = n) ∨ ∃ n : Nat, 0 < n ∧ i = -(n : Int) := by
  rcases Int.lt_or_le i 0 with h | h
  · exact .inr ⟨(-i).toNat, by omega, by omega⟩
  · exact .inl ⟨i.toNat, by omega⟩
theorem iS_len {i : Int} (h0 : -(10 ^ 20) ≤ i) (h1 : i ≤ 10 ^ 20) : 1 ≤ (iS i).cps.toList.length ∧ (iS i).cps.toList.length ≤ 23 := by
  have p : (10 : Nat) ^ 21 = 1000000000000000000000 := by decide
  rcases cases_nat i with ⟨n, rfl⟩ | ⟨n, hn, rfl⟩
  · rw [iS_nn]
    have := TL.numL_len (n := n) (k := 21) (by omega) (by omega)
    have := List.length_pos_iff.mpr (TL.numL_ne n)
    omega
  · rw [iS_neg n hn]
    have := TL.numL_len (n := n) (k := 21) (by omega) (by omega)
    simp only [List.length_cons]
    omega
theorem iS_free {i : Int} {c : Nat} (h : c < 45 ∨ 57 < c) : c ∉ (iS i).cps.toList := by
  rcases cases_nat i with ⟨n, rfl⟩ | ⟨n, hn, rfl⟩
  · rw [iS_nn]; exact TL.numL_free (by omega)
  · rw [iS_neg n hn]
    intro hm
    rcases List.mem_cons.mp hm with e | hm
    · omega
    · exact TL.numL_free (n := n) (by omega) hm
theorem iS_ok (i : Int) : PyData.strOk (iS i) = true := strOk_iff.mpr fun c hc => by
  rcases Nat.lt_or_ge c 100 with h | h
  · omega
  · exact absurd hc (iS_free (by omega))
theorem i_log {i : Int} (h0 : -(10 ^ 20) ≤ i) (h1 : i ≤ 10 ^ 20) : i.natAbs.log2 < 1920 := by
  have p : (10 : Nat) ^ 20 < 2 ^ 68 := by decide
  have := PySem.Flt.log2_lt_of (n := i.natAbs) (k := 68) (by decide) (by omega)
  omega
theorem bi_str_int {i : Int} {S : Store} (h0 : -(10 ^ 20) ≤ i) (h1 : i ≤ 10 ^ 20) : biD .str [.int i] S = .ok (.str (iS i)) S := by
  show (if i.natAbs.log2 < 1920 then R.ok (D.str (toString i : String)) S else .bad) = _
  rw [if_pos (i_log h0 h1)]; rfl
@[simp] theorem bi_str_str {x : Str} {S : Store} : biD .str [.str x] S = .ok (.str x) S := rfl
theorem digs_all (n : Nat) : ∀ c ∈ TL.numL n, c ∈ (Str.ofString "0123456789").cps.toList := by
  have h : ∀ m : Nat, m < 10 → 48 + m ∈ (Str.ofString "0123456789").cps.toList := by decide +kernel
  intro c hc
  have := TL.numL_digits n c hc
  have e := h (c - 48) (by omega)
  have e2 : 48 + (c - 48) = c := by omega
  rwa [e2] at e
theorem int_nn {n : Nat} {S : Store} (h : (TL.numL n).length ≤ 60) : biD .int [.str (iS n)] S = .ok (.int n) S := by
  have e := TL.int_num (n := n) (by omega)
  have l : (iS n).length ≤ 640 := by
    have : (iS n).length = (iS n).cps.toList.length := by simp [Str.length]
    rw [this, iS_nn]; omega
  show (match intText? (iS n) with
    | some m => if (iS n).length ≤ 640 then R.ok (D.int m) S else .bad
    | none => .bad) = _
  rw [show intText? (iS n) = some (n : Int) from e]
  exact if_pos l
theorem int_neg {n : Nat} {S : Store} (h0 : 0 < n) (h : (TL.numL n).length ≤ 60) : biD .int [.str (iS (-(n : Int)))] S = .ok (.int (-(n : Int))) S := by
  have ex := iS_neg n h0
  have ll : (iS (-(n : Int))).length = (iS (-(n : Int))).cps.toList.length := by simp [Str.length]
  have l : (iS (-(n : Int))).length ≤ 640 := by rw [ll, ex]; simp only [List.length_cons]; omega
  have e := intText_neg ex (TL.numL_digits n) (TL.numL_ne n) (by omega)
  rw [TL.numL_val] at e
  show (match intText? (iS (-(n : Int))) with
    | some m => if (iS (-(n : Int))).length ≤ 640 then R.ok (D.int m) S else .bad
    | none => .bad) = _
  rw [e]
  exact if_pos l
theorem join_pl {a : Str} {ys : List Str} {S : Store} (h : (ys.map (·.length)).sum + ys.length * a.length ≤ 16777216) : mtD .join (.str a) [.pl (ys.map .str)] S = .ok (.str (Txt.join a ys)) S := by
  simp only [mtD, strs_of]
  rw [if_pos h]
theorem sum_le {b : Nat} : ∀ {ys : List Str}, (∀ y ∈ ys, y.length ≤ b) → (ys.map (·.length)).sum ≤ ys.length * b
  | [], _ => by simp
  | y :: ys, h => by
    have h1 := h y (by simp)
    have h2 := sum_le (b := b) (ys := ys) fun y hy => h y (by simp [hy])
    simp only [List.map_cons, List.sum_cons, List.length_cons, Nat.add_mul, Nat.one_mul]
    omega
theorem join_len {a : Str} {b : Nat} {ys : List Str} (h : ∀ y ∈ ys, y.length ≤ b) : (Txt.join a ys).length ≤ ys.length * b + ys.length * a.length := by
  rw [TL.join_eq]
  have := StrLaws.join_length_le a ys
  have := sum_le h
  omega
theorem mem_join {a : Str} {c : Nat} {ys : List Str} (ha : c ∉ a.cps.toList) (h : ∀ y ∈ ys, c ∉ y.cps.toList) : c ∉ (Txt.join a ys).cps.toList := by
  rw [TL.join_eq]
  show c ∉ TL.tl _
  rw [TL.tl_join]
  have key : ∀ ys : List (List Nat), (∀ y ∈ ys, c ∉ y) → c ∉ TL.joinL (TL.tl a) ys := by
    intro ys
    induction ys with
    | nil => intro _; simp [TL.joinL]
    | cons y ys ih =>
      intro h
      cases ys with
      | nil => exact h y (by simp)
      | cons z zs =>
        show c ∉ y ++ (TL.tl a ++ TL.joinL (TL.tl a) (z :: zs))
        rw [List.mem_append, List.mem_append]
        rintro (q | q | q)
        · exact h y (by simp) q
        · exact ha q
        · exact ih (fun y hy => h y (by simp [hy])) q
  exact key _ fun y hy => by
    obtain ⟨x, hx, rfl⟩ := List.mem_map.mp hy
    exact h x hx
theorem split_fz {x y : Str} {c : Nat} {ys : List Str} {S : Store} (hy : y = Str.ofString (String.singleton (Char.ofNat c)) ∨ True) (ey : y.cps.toList = [c]) (hc : c < 256) (hne : ys ≠ []) (h : ∀ p ∈ ys, c ∉ p.cps.toList) (hx : x = Txt.join y ys) (hl : x.length < 16777000) :
    ((mtD .split (.str x) [.str y] S).gc S).fz S = .ok (.pl (ys.map .str)) S := by
  have yl : y.length = 1 := by
    have : y.length = y.cps.toList.length := by simp [Str.length]
    rw [this, ey]; rfl
  have hk : y.cps.all (· < 256) = true := by
    rw [← Array.all_toList, ey]
    simp [hc]
  have e := TL.split_join (y := y) (s := c) (S := []) ey hk hne h
  rw [← hx] at e
  have : mtD .split (.str x) [.str y] S = newC (.lst (ys.map .str)) S := by
    show (if (y.length == 0) = false ∧ x.length + 2 ≤ sizeLine then newC (.lst ((Txt.split x y).map .str)) S else .bad) = _
    rw [e, if_pos ⟨by rw [yl]; rfl, by rw [sizeLine_eq]; omega⟩]
  rw [this]
  exact newG_same (ltAll_strs _)
end Mi
namespace Mi
open PySem L2
def mk (b : Bool) : Str := if b then Str.ofString ">=" else Str.ofString "<="
theorem mk_t : (mk true).cps.toList = [62, 61] := by decide +kernel
theorem mk_f : (mk false).cps.toList = [60, 61] := by decide +kernel
theorem mk_cs (b : Bool) : ∃ c, (c = 62 ∨ c = 60) ∧ TL.tl (mk b) = [c, 61] := by
  cases b
  · exact ⟨60, .inr rfl, mk_f⟩
  · exact ⟨62, .inl rfl, mk_t⟩
def syS (s : Sy) : Str := ⟨(s.nm.cps.toList ++ ((mk s.ls).cps.toList ++ (iS s.i).cps.toList)).toArray⟩
theorem syS_l (s : Sy) : (syS s).cps.toList = s.nm.cps.toList ++ ((mk s.ls).cps.toList ++ (iS s.i).cps.toList) := rfl
theorem app_l (x y : Str) : (x ++ y).cps.toList = x.cps.toList ++ y.cps.toList := TL.tl_append x y
theorem syS_app (s : Sy) : s.nm ++ mk s.ls ++ iS s.i = syS s := str_ext (by rw [app_l, app_l, syS_l, List.append_assoc])
theorem emp_app (x : Str) : Str.empty ++ x = x := str_ext (by rw [app_l]; rfl)
structure Wd (x : Str) : Prop where
  c : ∀ c ∈ x.cps.toList, 33 ≤ c ∧ c ≤ 126
  l : x.cps.toList.length ≤ 64
theorem wd_nam {x : Str} (h : Nam x) : Wd x := ⟨fun c hc => by have := abc_iff c (h.az c hc); omega, by have := h.l8; omega⟩
theorem wd_iS {i : Int} (h0 : -(10 ^ 20) ≤ i) (h1 : i ≤ 10 ^ 20) : Wd (iS i) := ⟨fun c hc => by
  rcases Nat.lt_or_ge c 45 with q | q
  · exact absurd hc (iS_free (.inl q))
  · rcases Nat.lt_or_ge 57 c with q2 | q2
    · exact absurd hc (iS_free (.inr q2))
    · omega, by have := (iS_len h0 h1).2; omega⟩
theorem wd_sy {s : Sy} (n : Nam s.nm) (h0 : -(10 ^ 20) ≤ s.i) (h1 : s.i ≤ 10 ^ 20) : Wd (syS s) := by
  obtain ⟨c, hc, em⟩ := mk_cs s.ls
  have a := wd_nam n
  have b := wd_iS h0 h1
  rw [tl_eq] at em
  refine ⟨fun d hd => ?_, ?_⟩
  · rw [syS_l, em] at hd
    rcases List.mem_append.mp hd with q | q
    · exact a.c d q
    · rcases List.mem_append.mp q with q | q
      · simp at q; omega
      · exact b.c d q
  · rw [syS_l, em]
    have := n.l8
    have := (iS_len h0 h1).2
    simp only [List.length_append, List.length_cons, List.length_nil]
    omega
theorem par_same {s : Sy} (h : Nam s.nm) : Txt.partition (syS s) (mk s.ls) = (s.nm, mk s.ls, iS s.i) := by
  obtain ⟨c, hc, em⟩ := mk_cs s.ls
  have nc : c ∉ s.nm.cps.toList := fun z => by have := abc_iff c (h.az c z); omega
  rw [TL.partition_par _ _ (by rw [em]; simp)]
  have : TL.par (TL.tl (mk s.ls)) [] (TL.tl (syS s)) = some (s.nm.cps.toList, (iS s.i).cps.toList) := by
    rw [tl_eq (syS s), syS_l, ← tl_eq (mk s.ls), em]
    exact TL.par_part1 nc
  rw [this]
theorem par_other {s : Sy} (h : Nam s.nm) : Txt.partition (syS s) (mk (!s.ls)) = (syS s, Str.empty, Str.empty) := by
  have ho : ∃ c c', (c = 62 ∧ c' = 60 ∨ c = 60 ∧ c' = 62) ∧ (mk s.ls).cps.toList = [c, 61] ∧ TL.tl (mk (!s.ls)) = [c', 61] := by
    cases s.ls
    · exact ⟨60, 62, .inr ⟨rfl, rfl⟩, mk_f, mk_t⟩
    · exact ⟨62, 60, .inl ⟨rfl, rfl⟩, mk_t, mk_f⟩
  obtain ⟨c, c', hc, em, em'⟩ := ho
  have nc : c' ∉ (syS s).cps.toList := fun z => by
    rw [syS_l, em] at z
    rcases List.mem_append.mp z with q | q
    · have := abc_iff c' (h.az c' q); omega
    · rcases List.mem_append.mp q with q | q
      · simp at q; omega
      · exact iS_free (by omega) q
  rw [TL.partition_par _ _ (by rw [em']; simp)]
  have : TL.par (TL.tl (mk (!s.ls))) [] (TL.tl (syS s)) = none := by
    rw [em']
    exact TL.par_none1 nc
  rw [this]
def spS : Str := Str.ofString " "
def nlS : Str := Str.ofString "\n"
theorem sp_l : spS.cps.toList = [32] := by decide +kernel
theorem nl_l : nlS.cps.toList = [10] := by decide +kernel
def ruW : Ru → List Str
  | .one p q => [Str.ofString "one", syS p, syS q]
  | .lin w a b c => [wS w, a, b, iS c]
def diW (d : Di) : List Str := [Str.ofString "dial", d.nm, iS d.lo, iS d.hi, d.way, iS d.up, iS d.dn]
def ruT (r : Ru) : Str := Txt.join spS (ruW r)
def diT (d : Di) : Str := Txt.join spS (diW d)
def hoR (h : Ho) : List Str := h.ds.map diT ++ h.rs.map ruT
def hoT (h : Ho) : Str := Txt.join nlS (hoR h)
theorem ruW_l (r : Ru) : (ruW r).length ≤ 7 := by cases r <;> simp [ruW]
theorem ruW_n (r : Ru) : ruW r ≠ [] := by cases r <;> simp [ruW]
def wdB (x : Str) : Bool := x.cps.toList.all (fun c => decide (33 ≤ c ∧ c ≤ 126)) && decide (x.cps.toList.length ≤ 64)
theorem wd_of {x : Str} (h : wdB x = true) : Wd x := by
  unfold wdB at h
  rw [Bool.and_eq_true, List.all_eq_true] at h
  exact ⟨fun c hc => of_decide_eq_true (h.1 c hc), of_decide_eq_true h.2⟩
theorem wd_one : Wd (Str.ofString "one") := wd_of (by decide +kernel)
theorem wd_dial : Wd (Str.ofString "dial") := wd_of (by decide +kernel)
theorem wd_w (w : W3) : Wd (wS w) := by cases w <;> exact wd_of (by decide +kernel)
theorem wd_way {x : Str} (h : x ∈ ways) : Wd x := by
  have : ∀ x ∈ ways, wdB x = true := by decide +kernel
  exact wd_of (this x h)
theorem ruW_wd {xs : List Str} {r : Ru} (h : RuOk xs r) (hx : ∀ x ∈ xs, Nam x) : ∀ x ∈ ruW r, Wd x := by
  cases h with
  | one hp hq =>
    intro x h
    simp only [ruW, List.mem_cons, List.not_mem_nil, or_false] at h
    rcases h with rfl | rfl | rfl
    · exact wd_one
    · exact wd_sy (hx _ hp.nm) hp.lo hp.hi
    · exact wd_sy (hx _ hq.nm) hq.lo hq.hi
  | lin ha hb ne lo hi =>
    intro x h
    simp only [ruW, List.mem_cons, List.not_mem_nil, or_false] at h
    rcases h with rfl | rfl | rfl | rfl
    · exact wd_w _
    · exact wd_nam (hx _ ha)
    · exact wd_nam (hx _ hb)
    · exact wd_iS lo hi
structure DiIn (d : Di) : Prop where
  l0 : -(10 ^ 20) ≤ d.lo
  l1 : d.lo ≤ 10 ^ 20
  h0 : -(10 ^ 20) ≤ d.hi
  h1 : d.hi ≤ 10 ^ 20
  u0 : -(10 ^ 20) ≤ d.up
  u1 : d.up ≤ 10 ^ 20
  d0 : -(10 ^ 20) ≤ d.dn
  d1 : d.dn ≤ 10 ^ 20
theorem DiOk.in_ {d : Di} (h : DiOk d) : DiIn d := by
  have := h.lo
  have := h.lh
  have := h.hi
  have := h.u1
  have := h.u2
  have := h.d1
  have := h.d2
  constructor <;> omega
theorem diW_wd {d : Di} (h : DiOk d) : ∀ x ∈ diW d, Wd x := by
  have b := h.in_
  intro x hx
  simp only [diW, List.mem_cons, List.not_mem_nil, or_false] at hx
  rcases hx with rfl | rfl | rfl | rfl | rfl | rfl | rfl
  · exact wd_dial
  · exact wd_nam h.nm
  · exact wd_iS b.l0 b.l1
  · exact wd_iS b.h0 b.h1
  · exact wd_way h.way
  · exact wd_iS b.u0 b.u1
  · exact wd_iS b.d0 b.d1
structure Rw (x : Str) : Prop where
  c : ∀ c ∈ x.cps.toList, 32 ≤ c ∧ c ≤ 126
  l : x.length ≤ 520
theorem str_len (x : Str) : x.length = x.cps.toList.length := by simp [Str.length]
theorem Wd.len {x : Str} (h : Wd x) : x.length ≤ 64 := by rw [str_len]; exact h.l
theorem rw_join {ys : List Str} (h : ∀ y ∈ ys, Wd y) (hl : ys.length ≤ 7) : Rw (Txt.join spS ys) := by
  refine ⟨fun c hc => ?_, ?_⟩
  · rcases Classical.em (32 ≤ c ∧ c ≤ 126) with q | q
    · exact q
    · refine absurd hc (mem_join ?_ fun y hy z => ?_)
      · rw [sp_l]; simp; omega
      · have := (h y hy).c c z; omega
  · have := join_len (a := spS) (b := 64) fun y hy => (h y hy).len
    have e : spS.length = 1 := by rw [str_len, sp_l]; rfl
    rw [e] at this
    omega
theorem split_sp {ys : List Str} {S : Store} (h : ∀ y ∈ ys, Wd y) (hl : ys.length ≤ 7) (hn : ys ≠ []) : ((mtD .split (.str (Txt.join spS ys)) [.str spS] S).gc S).fz S = .ok (.pl (ys.map .str)) S :=
  split_fz (c := 32) (.inr trivial) sp_l (by decide) hn (fun p hp z => by have := (h p hp).c 32 z; omega) rfl (by have := (rw_join h hl).l; omega)
theorem join_sp {ys : List Str} {S : Store} (h : ∀ y ∈ ys, Wd y) (hl : ys.length ≤ 7) : mtD .join (.str spS) [.pl (ys.map .str)] S = .ok (.str (Txt.join spS ys)) S := by
  refine join_pl ?_
  have := sum_le (b := 64) fun y hy => (h y hy).len
  have e : spS.length = 1 := by rw [str_len, sp_l]; rfl
  rw [e]; omega
theorem hoT_len {ys : List Str} (h : ∀ y ∈ ys, Rw y) (hl : ys.length ≤ 52) : (Txt.join nlS ys).length ≤ 30000 := by
  have := join_len (a := nlS) (b := 520) fun y hy => (h y hy).l
  have e : nlS.length = 1 := by rw [str_len, nl_l]; rfl
  rw [e] at this
  omega
theorem split_nl {ys : List Str} {S : Store} (h : ∀ y ∈ ys, Rw y) (hl : ys.length ≤ 52) (hn : ys ≠ []) : ((mtD .split (.str (Txt.join nlS ys)) [.str nlS] S).gc S).fz S = .ok (.pl (ys.map .str)) S :=
  split_fz (c := 10) (.inr trivial) nl_l (by decide) hn (fun p hp z => by have := (h p hp).c 10 z; omega) rfl (by have := hoT_len h hl; omega)
theorem join_nl {ys : List Str} {S : Store} (h : ∀ y ∈ ys, Rw y) (hl : ys.length ≤ 52) : mtD .join (.str nlS) [.pl (ys.map .str)] S = .ok (.str (Txt.join nlS ys)) S := by
  refine join_pl ?_
  have := sum_le (b := 520) fun y hy => (h y hy).l
  have e : nlS.length = 1 := by rw [str_len, nl_l]; rfl
  rw [e]; omega
theorem diT_rw {d : Di} (h : DiOk d) : Rw (diT d) := rw_join (diW_wd h) (by simp [diW])
theorem ruT_rw {xs : List Str} {r : Ru} (h : RuOk xs r) (hx : ∀ x ∈ xs, Nam x) : Rw (ruT r) := rw_join (ruW_wd h hx) (ruW_l r)
theorem hoR_rw {h : Ho} (ok : HoOk h) : ∀ y ∈ hoR h, Rw y := by
  intro y hy
  rcases List.mem_append.mp hy with q | q
  · obtain ⟨d, hd, rfl⟩ := List.mem_map.mp q
    exact diT_rw (ok.ds d hd)
  · obtain ⟨r, hr, rfl⟩ := List.mem_map.mp q
    exact ruT_rw (ok.rs r hr) ok.nm.nam
theorem hoR_l {h : Ho} (ok : HoOk h) : (hoR h).length ≤ 52 := by
  have := ok.l2
  have := ok.rl
  simp only [hoR, List.length_append, List.length_map]
  omega
theorem hoR_n {h : Ho} (ok : HoOk h) : hoR h ≠ [] := by
  have := ok.l1
  intro z
  have := congrArg List.length z
  simp only [hoR, List.length_append, List.length_map, List.length_nil] at this
  omega
theorem hoT_ok {h : Ho} (ok : HoOk h) : PyData.strOk (hoT h) = true := strOk_iff.mpr fun c hc => by
  rcases Nat.lt_or_ge c 127 with q | q
  · omega
  · refine absurd hc (mem_join ?_ fun y hy z => ?_)
    · rw [nl_l]; simp; omega
    · have := (hoR_rw ok y hy).c c z; omega
end Mi
namespace Mi
open PySem L2
inductive Two (P : D → D → Prop) : List D → List D → Prop
  | nil : Two P [] []
  | cons {a b : D} {as bs : List D} (h : P a b) (t : Two P as bs) : Two P (a :: as) (b :: bs)
theorem Two.len {P : D → D → Prop} {as bs : List D} (h : Two P as bs) : as.length = bs.length := by
  induction h with
  | nil => rfl
  | cons _ _ ih => simp [ih]
theorem Two.get {P : D → D → Prop} {as bs : List D} (h : Two P as bs) : ∀ (i : Nat) (a : D), as[i]? = some a → ∃ b, bs[i]? = some b ∧ P a b := by
  induction h with
  | nil => intro i a h; simp at h
  | cons h t ih =>
    intro i a e
    cases i with
    | zero => exact ⟨_, rfl, by simp at e; rw [← e]; exact h⟩
    | succ i => exact ih i a (by simpa using e)
theorem Two.of_map {α : Type} {P : D → D → Prop} {f g : α → D} : ∀ {xs : List α}, (∀ x ∈ xs, P (f x) (g x)) → Two P (xs.map f) (xs.map g)
  | [], _ => .nil
  | x :: xs, h => .cons (h x (by simp)) (Two.of_map fun y hy => h y (by simp [hy]))
/-- a comprehension whose turns leave all as it is, each thing for a thing -/
theorem lc_two {G : Gv} {L : Lcs} {S : Store} {v : Nat} {it : CI} {e : CE} {ds ys : List D} (hI : evI G it L S = .ok (ds, []) S) (hl : ds.length < 16777216) (hv : v < L.length)
    (h : Two (fun d y => y.lt S.length = true ∧ ∀ A, evE G e (L.set v (some d)) A = .ok y A) ds ys) : evE G (.fz (.lc [v] (.nm v) it (.cst (.bl true)) e)) L S = .ok (.pl ys) S := by
  obtain ⟨acc, A, e1, _, _, rfl, hacc⟩ := ev_fzlc (G := G) (L := L) (S := S) (vs := [v]) (t := .nm v) (it := it) (c := .cst (.bl true)) (e := e) (items := ds) (g := []) (S1 := S) (fun i acc A => A = S ∧ acc = ys.take i)
    hI (Kp.refl S) hl (fun _ _ _ => gok0) ⟨rfl, by simp⟩ (by
      rintro i d acc A hd kp ⟨rfl, rfl⟩
      obtain ⟨y, hy, q1, q2⟩ := h.get i d hd
      have es : (wipeL L [v]).set v (some d) = L.set v (some d) := by simp [wipeL]
      refine ⟨L.set v (some d), A, ?_, kp, .inr ⟨A, y, rfl, q2 _, q1, kp, rfl, ?_⟩⟩
      · show (if v < (wipeL L [v]).length then some ((wipeL L [v]).set v (some d)) else none) = _
        rw [if_pos (by simpa [wipeL] using hv), es]
      · rw [List.take_succ, hy]; rfl)
  rw [e1, hacc, h.len, List.take_length]
theorem add_pl {xs ys : List D} {S : Store} (h : xs.length + ys.length ≤ 16777216) (h1 : D.ltAll S.length xs = true) (h2 : D.ltAll S.length ys = true) : (binD .Add (.pl xs) (.pl ys) S).fz S = .ok (.pl (xs ++ ys)) S := by
  have : binD .Add (.pl xs) (.pl ys) S = newC (.lst (xs ++ ys)) S := by
    show (if sizeOk (xs.length + ys.length) then newC (.lst (xs ++ ys)) S else .bad) = _
    rw [sizeOk_le h]; rfl
  rw [this, newL_same (by simp [h1, h2])]
@[simp] theorem ev_dix {G : Gv} {tab : List (Str × Str)} {e : CE} {L : Lcs} {S : Store} : evE G (.dix tab e) L S = (evE G e L S).bind fun d S1 => match d with
    | .str x => optR ((tab.lookup x).map .str) S1
    | _ => .bad := rfl
@[simp] theorem ev_fst {G : Gv} {as : CA} {L : Lcs} {S : Store} : evE G (.fst as) L S = (evA G as L S).bind fun ds S1 => match fstD ds with
    | some z => .ok (.str z) S1
    | none => .bad := rfl
@[simp] theorem evI_dit {G : Gv} {tab : List (Str × Str)} {L : Lcs} {S : Store} : evI G (.dit tab) L S = .ok (tab.map fun kv => .tup [.str kv.1, .str kv.2], []) S := rfl
theorem ev_fzdct {G : Gv} {as : CA} {L : Lcs} {S : Store} {ds : List D} {kvs : List (Key × D)} (h : evA G as L (S ++ [.dK []]) = .ok ds (S ++ [.dK []])) (hk : dctD ds = some kvs) (hl : kvs.length ≤ 15) (nd : (kvs.map (·.1)).Nodup) (lt : D.ltAll S.length (kvs.map (·.2)) = true) : evE G (.fz (.dct as)) L S = .ok (.pd (kvs.map (·.1)) (kvs.map (·.2))) S := by
  have e : evE G (.dct as) L S = .ok (.ref S.length) (S ++ [.dK kvs]) := by
    have : evE G (.dct as) L S = (evA G as L (S ++ [.dK []])).bind fun ds S1 => match dctD ds, S1[S.length]? with
      | some kvs, some (.dK []) => if kvs.length ≤ 15 then .ok (.ref S.length) (S1.set S.length (.dK (mergeD [] kvs))) else .bad
      | _, _ => .bad := rfl
    have g : (S ++ [Cell.dK []])[S.length]? = some (.dK []) := by simp
    rw [this, h, R.bind_ok, hk, g]
    simp only [hl, if_true]
    rw [mergeD_new kvs [] (by simpa using nd)]
    simp
  rw [ev_fz, e]
  show fz S (.ref S.length) (S ++ [.dK kvs]) = _
  exact fz_dK (Kp.refl S) (Nat.le_refl _) (by simp) lt
@[simp] theorem is_nonN  {S : Store} : cmpD .Is .non .non S = .ok (.bl true) S := rfl
@[simp] theorem isn_nonN  {S : Store} : cmpD .IsNot .non .non S = .ok (.bl false) S := rfl
@[simp] theorem is_intN {i : Int} {S : Store} : cmpD .Is (.int i) .non S = .ok (.bl false) S := rfl
@[simp] theorem isn_intN {i : Int} {S : Store} : cmpD .IsNot (.int i) .non S = .ok (.bl true) S := rfl
@[simp] theorem is_strN {x : Str} {S : Store} : cmpD .Is (.str x) .non S = .ok (.bl false) S := rfl
@[simp] theorem isn_strN {x : Str} {S : Store} : cmpD .IsNot (.str x) .non S = .ok (.bl true) S := rfl
@[simp] theorem is_tupN {ds : List D} {S : Store} : cmpD .Is (.tup ds) .non S = .ok (.bl false) S := rfl
@[simp] theorem isn_tupN {ds : List D} {S : Store} : cmpD .IsNot (.tup ds) .non S = .ok (.bl true) S := rfl
@[simp] theorem is_plN {ds : List D} {S : Store} : cmpD .Is (.pl ds) .non S = .ok (.bl false) S := rfl
@[simp] theorem isn_plN {ds : List D} {S : Store} : cmpD .IsNot (.pl ds) .non S = .ok (.bl true) S := rfl
@[simp] theorem is_refN {n : Nat} {S : Store} : cmpD .Is (.ref n) .non S = .ok (.bl false) S := rfl
@[simp] theorem isn_refN {n : Nat} {S : Store} : cmpD .IsNot (.ref n) .non S = .ok (.bl true) S := rfl
@[simp] theorem ty_split {x : Str} {S : Store} : mtTy .split (.str x) S = true := rfl
@[simp] theorem ty_par {x : Str} {S : Store} : mtTy .partition (.str x) S = true := rfl
theorem joinF_app {acc x : Str} {d : D} {ds : List D} (h : partD d = some x) (hl : (acc ++ x).length ≤ sizeLine) : joinF acc (d :: ds) = joinF (acc ++ x) ds := by
  rw [joinF, h]
  exact if_pos hl
theorem fst_three {x m : Str} {i : Int} (h0 : -(10 ^ 20) ≤ i) (h1 : i ≤ 10 ^ 20) (hx : x.length ≤ 1000) (hm : m.length ≤ 1000) : fstD [.str x, .str m, .int i] = some (x ++ m ++ iS i) := by
  have ll := (iS_len h0 h1).2
  have e : partD (.int i) = some (iS i) := by
    show (if i.natAbs.log2 < 1920 then _ else none) = _
    rw [if_pos (i_log h0 h1)]; rfl
  have la : ∀ a b : Str, (a ++ b).length = a.length + b.length := fun a b => by rw [str_len, app_l, List.length_append, ← str_len, ← str_len]
  rw [← str_len] at ll
  unfold fstD
  rw [joinF_app (x := x) rfl (by rw [emp_app, sizeLine_eq]; omega), emp_app, joinF_app (x := m) rfl (by rw [la, sizeLine_eq]; omega), joinF_app e (by rw [la, la, sizeLine_eq]; omega)]
  rfl
theorem lk_mk (b : Bool) : List.lookup (srt b) [(Str.ofString "least", Str.ofString ">="), (Str.ofString "most", Str.ofString "<=")] = some (mk b) := by cases b <;> decide +kernel
theorem mk_len (b : Bool) : (mk b).length = 2 := by
  rw [str_len]
  cases b
  · rw [mk_f]; rfl
  · rw [mk_t]; rfl
theorem ok_mk (b : Bool) : PyData.strOk (mk b) = true := by cases b <;> decide +kernel
theorem partD_sy {s : Sy} (h : Wd (syS s)) {b : Bool} {S : Store} : mtD .partition (.str (syS s)) [.str (mk b)] S = .ok (.tup [.str (Txt.partition (syS s) (mk b)).1, .str (Txt.partition (syS s) (mk b)).2.1, .str (Txt.partition (syS s) (mk b)).2.2]) S := by
  show (if ((mk b).length == 0) = false ∧ (syS s).length ≤ sizeLine then _ else R.bad) = _
  rw [if_pos]
  exact ⟨by rw [mk_len]; rfl, by have := h.len; rw [sizeLine_eq]; omega⟩
theorem ne_str {x y : Str} {S : Store} (hx : PyData.strOk x = true) (hy : PyData.strOk y = true) : cmpD .NotEq (.str x) (.str y) S = .ok (.bl (!(x == y))) S := by
  have h := eqS (S := S) hx hy
  have h' : ofB (eqX S (.str x) (.str y)) S = .ok (.bl (x == y)) S := h
  show ofB ((eqX S (.str x) (.str y)).map (!·)) S = _
  cases e : eqX S (.str x) (.str y) with
  | none => rw [e] at h'; cases h'
  | some b => rw [e] at h'; cases h'; rfl
theorem Wd.ok {x : Str} (h : Wd x) : PyData.strOk x = true := strOk_iff.mpr fun c hc => by have := h.c c hc; omega
end Mi
namespace Mi
open PySem L2
theorem textFrom_le : ∀ (ts : List Str) (k : Nat) (acc : Str), (textFrom k acc ts).length ≤ acc.length + piled ts
  | [], k, acc => by show acc.length ≤ _; omega
  | t :: r, k, acc => by
    have h := textFrom_le r (k + 1) (acc ++ (if k > 0 then ", " else "" : String) ++ t)
    have e : (acc ++ (if k > 0 then ", " else "" : String) ++ t).length ≤ acc.length + 2 + t.length := by
      rw [strLen_append, strLen_append]
      split
      · show acc.length + 2 + t.length ≤ _; omega
      · show acc.length + 0 + t.length ≤ _; omega
    rw [piled_cons]
    show (textFrom (k + 1) _ r).length ≤ _
    omega
theorem listText_le (ts : List Str) : (listText ts).length ≤ piled ts + 2 := by
  unfold listText
  rw [strLen_append]
  have h := textFrom_le ts 0 "["
  have e : (("[" : String) : Str).length = 1 := rfl
  have e2 : (("]" : String) : Str).length = 1 := rfl
  omega
theorem join_le (ts : List Str) : (Str.join ", " ts).length ≤ piled ts := by
  by_cases h : ts = []
  · subst h; exact Nat.le_refl _
  · have := join_length_add ts h; omega
theorem tupleText_le (ts : List Str) : (tupleText ts).length ≤ piled ts + 3 := by
  unfold tupleText
  rw [strLen_append, strLen_append]
  have h := join_le ts
  have e : (("(" : String) : Str).length = 1 := rfl
  split
  · have e2 : ((",)" : String) : Str).length = 2 := rfl
    omega
  · have e2 : ((")" : String) : Str).length = 1 := rfl
    omega
theorem reprText_le {x : Str} (h : PyData.strOk x = true) : (reprText x).length ≤ 12 * x.length + 12 := by
  have := StrLaws.reprText_len x fun c hc => Nat.lt_of_lt_of_le (strOk_iff.mp h c hc) (by decide)
  omega
theorem strOk_app {x y : Str} (h : PyData.strOk x = true) (g : PyData.strOk y = true) : PyData.strOk (x ++ y) = true := by
  rw [strOk_iff, app_l]
  intro c hc
  rcases List.mem_append.mp hc with hc | hc
  · exact strOk_iff.mp h c hc
  · exact strOk_iff.mp g c hc
theorem char_lt (c : Char) : c.toNat < 0x110000 := by
  show c.val.toNat < _
  rcases c.valid with h | ⟨_, h⟩
  · have : c.val.toNat < 0xd800 := h
    omega
  · exact h
theorem ofStr_ok (s : String) : PyData.strOk (Str.ofString s) = true := by
  rw [strOk_iff, Str.ofString_eq_toList]
  intro c hc
  obtain ⟨x, _, rfl⟩ := List.mem_map.mp (by simpa using hc)
  exact char_lt x
theorem reprChar_lt {q c : Nat} (hc : c < 0x110000) : ∀ d ∈ Builtin.Str.reprChar q c, d < 0x110000 := by
  intro d hd
  have hex : ∀ w : Nat, d ∈ List.replicate (w - ((Nat.toDigits 16 c).map Char.toNat).length) 48 ++ (Nat.toDigits 16 c).map Char.toNat → d < 0x110000 := by
    intro w h
    rcases List.mem_append.mp h with h | h
    · have := List.eq_of_mem_replicate h; omega
    · obtain ⟨x, _, rfl⟩ := List.mem_map.mp h; exact char_lt x
  unfold Builtin.Str.reprChar at hd
  dsimp only at hd
  repeat' split at hd
  all_goals first
    | (simp only [List.mem_cons, List.not_mem_nil, or_false] at hd; omega)
    | (rcases List.mem_append.mp hd with h | h
       · simp only [List.mem_cons, List.not_mem_nil, or_false] at h; omega
       · exact hex _ h)
theorem foldl_repr_lt (q : Nat) : ∀ (l : List Nat) (acc : Array Nat), (∀ c ∈ l, c < 0x110000) → (∀ c ∈ acc.toList, c < 0x110000) → ∀ c ∈ (l.foldl (fun out c => out ++ (Builtin.Str.reprChar q c).toArray) acc).toList, c < 0x110000
  | [], acc, _, h => h
  | c :: r, acc, h, g => by
    rw [List.foldl_cons]
    refine foldl_repr_lt q r _ (fun d hd => h d (List.mem_cons_of_mem _ hd)) ?_
    intro d hd
    rw [Array.toList_append] at hd
    rcases List.mem_append.mp hd with hd | hd
    · exact g d hd
    · exact reprChar_lt (h c (List.mem_cons_self ..)) d (by simpa using hd)
theorem repr_ok {x : Str} (h : PyData.strOk x = true) : PyData.strOk (reprText x) = true := by
  have hq : reprQuote x < 0x110000 := by unfold reprQuote; split <;> omega
  rw [strOk_iff]
  unfold reprText
  show ∀ c ∈ ((x.cps.foldl (fun out c => out ++ (Builtin.Str.reprChar (reprQuote x) c).toArray) #[reprQuote x]).push (reprQuote x)).toList, c < 0x110000
  rw [← Array.foldl_toList, Array.toList_push]
  intro c hc
  rcases List.mem_append.mp hc with hc | hc
  · exact foldl_repr_lt _ _ _ (strOk_iff.mp h) (by intro d hd; have : d = reprQuote x := by simpa using hd
                                                   omega) c hc
  · have : c = reprQuote x := by simpa using hc
    omega
theorem textFrom_ok : ∀ (ts : List Str) (k : Nat) (acc : Str), (∀ t ∈ ts, PyData.strOk t = true) → PyData.strOk acc = true → PyData.strOk (textFrom k acc ts) = true
  | [], _, _, _, h => h
  | t :: r, k, acc, h, g => by
    refine textFrom_ok r (k + 1) _ (fun u hu => h u (List.mem_cons_of_mem _ hu)) ?_
    exact strOk_app (strOk_app g (ofStr_ok _)) (h t (List.mem_cons_self ..))
theorem listText_ok {ts : List Str} (h : ∀ t ∈ ts, PyData.strOk t = true) : PyData.strOk (listText ts) = true := strOk_app (textFrom_ok ts 0 _ h (ofStr_ok _)) (ofStr_ok _)
theorem join_ok {s : Str} (hs : PyData.strOk s = true) : ∀ ts : List Str, (∀ t ∈ ts, PyData.strOk t = true) → PyData.strOk (Str.join s ts) = true
  | [], _ => (by decide +kernel : PyData.strOk Str.empty = true)
  | [t], h => h t (by simp)
  | t :: u :: r, h => strOk_app (strOk_app (h t (by simp)) hs) (join_ok hs (u :: r) fun v hv => h v (List.mem_cons_of_mem _ hv))
theorem tupleText_ok {ts : List Str} (h : ∀ t ∈ ts, PyData.strOk t = true) : PyData.strOk (tupleText ts) = true := strOk_app (strOk_app (ofStr_ok _) (join_ok (ofStr_ok _) ts h)) (by split <;> exact ofStr_ok _)
theorem near_log {i : Int} (h0 : -(10 ^ 30) ≤ i) (h1 : i ≤ 10 ^ 30) : i.natAbs.log2 < 210 := by
  have p : (10 : Nat) ^ 30 < 2 ^ 210 := by decide +kernel
  by_cases h2 : i.natAbs = 0
  · rw [h2]; decide
  · exact (Nat.log2_lt h2).mpr (by omega)
theorem near_text {i : Int} (h0 : -(10 ^ 30) ≤ i) (h1 : i ≤ 10 ^ 30) : ((toString i : String) : Str).length ≤ 250 := by
  have := int_text_length_le (k := 210) (by decide) (near_log h0 h1)
  have e : ((toString i : String) : Str).length = (toString i).length := ofString_length _
  omega
def VwR (k : Nat) (d : D) (w : Nat) : Prop := ∃ q : PyData, (∀ (j : Nat) (S : Store), toPy (j + k) S d = some q) ∧ q.showable = true ∧ q.shown.length ≤ w ∧ PyData.strOk q.shown = true
theorem vw_list {k v : Nat} : ∀ ds : List D, (∀ d ∈ ds, VwR k d v) → ∃ qs : List PyData, (∀ (j : Nat) (S : Store), allSome (ds.map (toPy (j + k) S)) = some qs) ∧ PyData.showableAll qs = true ∧ piled (PyData.shownAll qs) ≤ ds.length * (v + 2) ∧ ∀ t ∈ PyData.shownAll qs, PyData.strOk t = true
  | [], _ => ⟨[], fun _ _ => rfl, rfl, Nat.zero_le _, fun _ h => nomatch h⟩
  | d :: r, h => by
    obtain ⟨q, e, s, l, o⟩ := h d (by simp)
    obtain ⟨qs, es, ss, ls, os⟩ := vw_list r fun q hq => h q (by simp [hq])
    refine ⟨q :: qs, fun j S => ?_, by simp [PyData.showableAll, s, ss], ?_, ?_⟩
    · rw [List.map_cons, e j S]
      show (allSome _).map _ = _
      rw [es j S]; rfl
    · show piled (q.shown :: PyData.shownAll qs) ≤ _
      rw [piled_cons, List.length_cons, Nat.add_mul, Nat.one_mul]
      omega
    · intro t ht
      rcases List.mem_cons.mp (show t ∈ q.shown :: PyData.shownAll qs from ht) with rfl | ht
      · exact o
      · exact os t ht
theorem vw_non {k w : Nat} (h : 8 ≤ w) : VwR k .non w := ⟨.none, fun j S => by cases (j + k) <;> rfl, rfl, Nat.le_trans (by decide : _ ≤ 8) h, ofStr_ok _⟩
theorem vw_int {k w : Nat} {i : Int} (h : -(10 ^ 30) ≤ i) (h1 : i ≤ 10 ^ 30) (h2 : 250 ≤ w) : VwR k (.int i) w :=
  ⟨.int i, fun j S => by cases (j + k) <;> rfl, decide_eq_true (Nat.lt_trans (near_log h h1) (by decide)), Nat.le_trans (near_text h h1) h2, ofStr_ok _⟩
theorem vw_str {k w : Nat} {x : Str} (h : PyData.strOk x = true) (h1 : 12 * x.length + 12 ≤ w) : VwR k (.str x) w :=
  ⟨.str x, fun j S => by cases (j + k) <;> rfl, rfl, Nat.le_trans (reprText_le h) h1, repr_ok h⟩
theorem vw_tup {k v w : Nat} {ds : List D} (h : ∀ d ∈ ds, VwR k d v) (hw : ds.length * (v + 2) + 6 ≤ w) : VwR (k + 1) (.tup ds) w := by
  obtain ⟨qs, e, s, l, o⟩ := vw_list ds h
  refine ⟨.tuple qs, fun j S => ?_, s, ?_, tupleText_ok o⟩
  · show (allSome (ds.map (toPy (j + k) S))).map PyData.tuple = _
    rw [e j S]; rfl
  · have := tupleText_le (PyData.shownAll qs)
    show (tupleText (PyData.shownAll qs)).length ≤ w
    omega
theorem vw_pl {k v w : Nat} {ds : List D} (h : ∀ d ∈ ds, VwR k d v) (hw : ds.length * (v + 2) + 6 ≤ w) : VwR (k + 1) (.pl ds) w := by
  obtain ⟨qs, e, s, l, o⟩ := vw_list ds h
  refine ⟨.list qs, fun j S => ?_, s, ?_, listText_ok o⟩
  · show (allSome (ds.map (toPy (j + k) S))).map PyData.list = _
    rw [e j S]; rfl
  · have := listText_le (PyData.shownAll qs)
    show (listText (PyData.shownAll qs)).length ≤ w
    omega
theorem VwR.mono {k w w' : Nat} {d : D} (h : VwR k d w) (hw : w ≤ w') : VwR k d w' := by
  obtain ⟨q, e, s, l, o⟩ := h
  exact ⟨q, e, s, by omega, o⟩
theorem VwR.up {k w : Nat} {d : D} (h : VwR k d w) (i : Nat) : VwR (k + i) d w := by
  obtain ⟨q, e, s, l, o⟩ := h
  exact ⟨q, fun j S => by rw [show j + (k + i) = (j + i) + k by omega]; exact e _ S, s, l, o⟩
/-- repr of a value -/
theorem VwR.repr {k w : Nat} {d : D} (h : VwR k d w) (hk : k ≤ 50) (hw : w ≤ 16777216) : ∃ z : Str, PyData.strOk z = true ∧ ∀ S : Store, biD .repr [d] S = .ok (.str z) S := by
  obtain ⟨q, e, s, l, o⟩ := h
  refine ⟨q.shown, o, fun S => ?_⟩
  have e' : Mi.py S d = some q := by
    have := e (50 - k) S
    rwa [show 50 - k + k = 50 by omega] at this
  have hz : sizeOk q.shown.length = true := sizeOk_le (by omega)
  simp only [biD, e', s, hz, and_self, if_true]
theorem vw_sy {s : Sy} (n : Nam s.nm) (h0 : -(10 ^ 20) ≤ s.i) (h1 : s.i ≤ 10 ^ 20) : VwR 1 (syD s) 762 :=
  vw_tup (k := 0) (v := 250) (by
    intro d hd
    simp only [List.mem_cons, List.not_mem_nil, or_false] at hd
    rcases hd with rfl | rfl | rfl
    · exact vw_str n.ok (by have := n.len; omega)
    · refine vw_str (ok_srt _) ?_
      have : (srt s.ls).length ≤ 5 := by cases s.ls <;> decide +kernel
      omega
    · exact vw_int (by omega) (by omega) (Nat.le_refl _)) (by simp)
theorem vw_di {d : Di} (h : DiOk d) : VwR 1 (diD d) 1518 := by
  have b := h.in_
  have := b.l0; have := b.l1; have := b.h0; have := b.h1; have := b.u0; have := b.u1; have := b.d0; have := b.d1
  refine vw_tup (k := 0) (v := 250) ?_ (by simp)
  intro x hx
  simp only [List.mem_cons, List.not_mem_nil, or_false] at hx
  rcases hx with rfl | rfl | rfl | rfl | rfl | rfl
  · exact vw_str h.nm.ok (by have := h.nm.len; omega)
  · exact vw_int (by omega) (by omega) (Nat.le_refl _)
  · exact vw_int (by omega) (by omega) (Nat.le_refl _)
  · have w := h.way
    have : ∀ x ∈ ways, x.length ≤ 5 ∧ PyData.strOk x = true := by decide +kernel
    exact vw_str (this _ w).2 (by have := (this _ w).1; omega)
  · exact vw_int (by omega) (by omega) (Nat.le_refl _)
  · exact vw_int (by omega) (by omega) (Nat.le_refl _)
theorem vw_ru {xs : List Str} {r : Ru} (h : RuOk xs r) (hx : ∀ x ∈ xs, Nam x) : VwR 2 (ruD r) 2298 := by
  cases h with
  | @one p q hp hq =>
    refine vw_tup (k := 1) (v := 762) ?_ (by simp)
    intro x hx'
    simp only [List.mem_cons, List.not_mem_nil, or_false] at hx'
    rcases hx' with rfl | rfl | rfl
    · exact vw_str ok_one (by decide +kernel)
    · exact vw_sy (hx _ hp.nm) hp.lo hp.hi
    · exact vw_sy (hx _ hq.nm) hq.lo hq.hi
  | @lin w a b c ha hb ne lo hi =>
    refine vw_tup (k := 1) (v := 250) ?_ (by simp)
    intro x hx'
    simp only [List.mem_cons, List.not_mem_nil, or_false] at hx'
    rcases hx' with rfl | rfl | rfl | rfl
    · refine vw_str (ok_w _) ?_
      have : (wS w).length ≤ 5 := by cases w <;> decide +kernel
      omega
    · exact vw_str (hx _ ha).ok (by have := (hx _ ha).len; omega)
    · exact vw_str (hx _ hb).ok (by have := (hx _ hb).len; omega)
    · exact vw_int (by omega) (by omega) (Nat.le_refl _)
theorem vw_ho {h : Ho} (ok : HoOk h) : VwR 4 (hoD h) 184100 := by
  have l2 := ok.l2
  have rl := ok.rl
  refine vw_tup (k := 3) (v := 92010) ?_ (by simp)
  intro x hx
  simp only [List.mem_cons, List.not_mem_nil, or_false] at hx
  rcases hx with rfl | rfl
  · refine vw_tup (k := 2) (v := 1518) ?_ (by simp; omega)
    intro d hd
    obtain ⟨q, hq, rfl⟩ := List.mem_map.mp hd
    exact (vw_di (ok.ds q hq)).up 1
  · refine vw_tup (k := 2) (v := 2298) ?_ (by simp; omega)
    intro d hd
    obtain ⟨q, hq, rfl⟩ := List.mem_map.mp hd
    exact vw_ru (ok.rs q hq) ok.nm.nam
end Mi
namespace Mi
open PySem L2
/-- a text of these signs -/
abbrev mkS (l : List Nat) : Str := ⟨l.toArray⟩
theorem mkS_tl (x : Str) : mkS x.cps.toList = x := TL.mk_tl x
@[simp] theorem mkS_len (l : List Nat) : (mkS l).length = l.length := by simp [Str.length]
@[simp] theorem mkS_l (l : List Nat) : (mkS l).cps.toList = l := rfl
/-- signs that a text may have -/
def Sn (l : List Nat) : Prop := ∀ c ∈ l, c < 0x110000
theorem Sn.ok {l : List Nat} (h : Sn l) : PyData.strOk (mkS l) = true := strOk_iff.mpr h
theorem Sn.sub {l m : List Nat} (h : Sn l) (s : ∀ c ∈ m, c ∈ l) : Sn m := fun c hc => h c (s c hc)
theorem Sn.app {l m : List Nat} (h : Sn l) (g : Sn m) : Sn (l ++ m) := fun c hc => by
  rcases List.mem_append.mp hc with q | q
  · exact h c q
  · exact g c q
theorem eqL {l m : List Nat} {S : Store} (h : Sn l) (g : Sn m) : cmpD .Eq (.str (mkS l)) (.str (mkS m)) S = .ok (.bl (decide (l = m))) S := by
  rw [eqS h.ok g.ok]
  congr 2
  by_cases e : l = m
  · rw [e]; simp
  · rw [decide_eq_false e]
    exact Mi.beq_false (by simpa using e)
theorem neL {l m : List Nat} {S : Store} (h : Sn l) (g : Sn m) : cmpD .NotEq (.str (mkS l)) (.str (mkS m)) S = .ok (.bl (!decide (l = m))) S := by
  rw [ne_str h.ok g.ok]
  congr 3
  by_cases e : l = m
  · rw [e]; simp
  · rw [decide_eq_false e]
    exact Mi.beq_false (by simpa using e)
def isD (c : Nat) : Bool := decide (48 ≤ c ∧ c ≤ 57)
abbrev digS : Str := Str.ofString "0123456789"
theorem digS_l : digS.cps.toList = [48, 49, 50, 51, 52, 53, 54, 55, 56, 57] := by decide +kernel
theorem digS_mem (c : Nat) : decide (c ∈ digS.cps.toList) = isD c := by
  rw [digS_l]
  unfold isD
  congr 1
  simp only [List.mem_cons, List.not_mem_nil, or_false]
  exact propext ⟨fun h => by omega, fun h => by omega⟩
theorem all_digits {l : List Nat} (h : l.all isD = true) : NumText.AllDigits l := fun c hc => of_decide_eq_true (List.all_eq_true.mp h c hc)
theorem dv_snoc (l : List Nat) (c : Nat) : NumText.digitsVal (l ++ [c]) = NumText.digitsVal l * 10 + (c - 48) := by
  unfold NumText.digitsVal
  rw [List.foldl_append]; rfl
/-- no nought ahead -/
def canon (l : List Nat) : Bool := l != [] && (l.head? != some 48 || l == [48])
theorem canon_of {l : List Nat} (h : l ≠ []) (g : l.head? ≠ some 48) : canon l = true := by
  unfold canon
  have h1 : (l != []) = true := by simpa using h
  have h2 : (l.head? != some 48) = true := by simpa using g
  rw [h1, h2]; rfl
theorem canon_pos : ∀ {l : List Nat}, NumText.AllDigits l → l ≠ [] → l.head? ≠ some 48 → 1 ≤ NumText.digitsVal l := by
  intro l
  rw [← List.reverse_reverse l]
  generalize l.reverse = r
  induction r with
  | nil => intro _ h; exact absurd rfl h
  | cons c r ih =>
    intro h _ hh
    rw [List.reverse_cons] at h hh ⊢
    rw [dv_snoc]
    by_cases hr : r.reverse = []
    · rw [hr] at hh h ⊢
      have := h c (by simp)
      have h48 : c ≠ 48 := fun z => hh (by rw [z]; rfl)
      omega
    · have := ih (fun d hd => h d (by simp [hd])) hr (by
        intro z
        apply hh
        cases e : r.reverse with
        | nil => exact absurd e hr
        | cons a b => rw [e] at z; simpa using z)
      omega
theorem numL_canon : ∀ {l : List Nat}, NumText.AllDigits l → canon l = true → TL.numL (NumText.digitsVal l) = l := by
  intro l
  rw [← List.reverse_reverse l]
  generalize l.reverse = r
  induction r with
  | nil => intro _ h; cases h
  | cons c r ih =>
    intro h hc
    rw [List.reverse_cons] at h hc ⊢
    rw [dv_snoc]
    have hcd := h c (by simp)
    by_cases hr : r.reverse = []
    · rw [hr, List.nil_append]
      have : NumText.digitsVal [] = 0 := rfl
      rw [this, TL.numL_lt (by omega)]
      congr 1; omega
    · have hd : NumText.AllDigits r.reverse := fun d hd => h d (by simp [hd])
      have h48 : r.reverse.head? ≠ some 48 := by
        intro z
        cases e : r.reverse with
        | nil => exact absurd e hr
        | cons a b =>
          rw [e] at z hc
          simp only [List.head?_cons, Option.some.injEq] at z
          subst z
          simp [canon] at hc
      have pos := canon_pos hd hr h48
      have ih2 := ih hd (canon_of hr h48)
      rw [TL.numL_step (by omega)]
      have e1 : (NumText.digitsVal r.reverse * 10 + (c - 48)) / 10 = NumText.digitsVal r.reverse := by omega
      have e2 : (NumText.digitsVal r.reverse * 10 + (c - 48)) % 10 = c - 48 := by omega
      rw [e1, e2, ih2]
      congr 2; omega
theorem numL_head : ∀ n : Nat, canon (TL.numL n) = true := by
  intro n
  induction n using Nat.strongRecOn with
  | ind n ih =>
    by_cases h : n < 10
    · rw [TL.numL_lt h]
      by_cases h0 : n = 0
      · subst h0; rfl
      · have : 48 + n ≠ 48 := by omega
        exact canon_of (by simp) (by simpa using h0)
    · have := ih (n / 10) (by omega)
      rw [TL.numL_step (by omega)]
      have ne := TL.numL_ne (n / 10)
      cases e : TL.numL (n / 10) with
      | nil => exact absurd e ne
      | cons a b =>
        rw [e] at this
        by_cases ha : a = 48
        · subst ha
          have hb : b = [] := by simpa [canon] using this
          subst hb
          have e0 : TL.numL 0 = [48] := TL.numL_lt (by omega)
          have : n / 10 = 0 := TL.numL_inj (e.trans e0.symm)
          omega
        · simp [canon, ha]
theorem back_iff {l : List Nat} (h : NumText.AllDigits l) (hn : l ≠ []) : decide (TL.numL (NumText.digitsVal l) = l) = canon l := by
  cases hc : canon l with
  | true => exact decide_eq_true (numL_canon h hc)
  | false =>
    refine decide_eq_false fun z => ?_
    have := numL_head (NumText.digitsVal l)
    rw [z, hc] at this
    cases this
/-- int(..) of figures, with a sign ahead or without -/
theorem int_digs {l : List Nat} {S : Store} (h : l.all isD = true) (hn : l ≠ []) (hl : l.length ≤ 60) : biD .int [.str (mkS l)] S = .ok (.int (NumText.digitsVal l : Nat)) S := by
  have e := intText_digits (x := mkS l) (all_digits h) hn (by rw [mkS_len]; omega)
  have lz : (mkS l).length ≤ 640 := by rw [mkS_len]; omega
  show (match intText? (mkS l) with
    | some m => if (mkS l).length ≤ 640 then R.ok (D.int m) S else .bad
    | none => .bad) = _
  rw [e]
  exact if_pos lz
theorem int_mdigs {l : List Nat} {S : Store} (h : l.all isD = true) (hn : l ≠ []) (hl : l.length ≤ 60) : biD .int [.str (mkS (45 :: l))] S = .ok (.int (-(NumText.digitsVal l : Nat))) S := by
  have e := intText_neg (x := mkS (45 :: l)) rfl (all_digits h) hn (by rw [mkS_len, List.length_cons]; omega)
  have lz : (mkS (45 :: l)).length ≤ 640 := by rw [mkS_len, List.length_cons]; omega
  show (match intText? (mkS (45 :: l)) with
    | some m => if (mkS (45 :: l)).length ≤ 640 then R.ok (D.int m) S else .bad
    | none => .bad) = _
  rw [e]
  exact if_pos lz
theorem dv_lt : ∀ {l : List Nat}, NumText.AllDigits l → NumText.digitsVal l < 10 ^ l.length := by
  intro l
  rw [← List.reverse_reverse l]
  generalize l.reverse = r
  induction r with
  | nil => intro _; decide
  | cons c r ih =>
    intro h
    rw [List.reverse_cons] at h ⊢
    rw [dv_snoc, List.length_append, List.length_singleton, Nat.pow_succ]
    have := ih (fun d hd => h d (by simp [hd]))
    have := h c (by simp)
    omega
theorem str_nat {n : Nat} {S : Store} (h : (TL.numL n).length ≤ 60) : biD .str [.int (n : Nat)] S = .ok (.str (mkS (TL.numL n))) S := by
  have e : Str.ofString (toString ((n : Nat) : Int)) = mkS (TL.numL n) := TL.ext_tl (TL.tl_num n)
  have lg : ((n : Nat) : Int).natAbs.log2 < 1920 := by
    have hv := dv_lt (TL.numL_digits n)
    rw [TL.numL_val] at hv
    have : n < 10 ^ 60 := Nat.lt_of_lt_of_le hv (Nat.pow_le_pow_right (by decide) h)
    have h2 : (10 : Nat) ^ 60 ≤ 2 ^ 200 := by decide
    have : ((n : Nat) : Int).natAbs < 2 ^ 200 := by omega
    have := PySem.Flt.log2_lt_of (by decide) this
    omega
  show (if ((n : Nat) : Int).natAbs.log2 < 1920 then R.ok (D.str (Str.ofString (toString ((n : Nat) : Int)))) S else .bad) = _
  rw [if_pos lg, e]
/-- a number that is written -/
def figs (l : List Nat) : List Nat := match l with
  | 45 :: r => r
  | l => l
def sgnV (l : List Nat) : Int := match l with
  | 45 :: r => -((NumText.digitsVal r : Nat) : Int)
  | l => ((NumText.digitsVal l : Nat) : Int)
theorem sgnV_pos {c : Nat} {r : List Nat} (h : c ≠ 45) : sgnV (c :: r) = ((NumText.digitsVal (c :: r) : Nat) : Int) := by
  unfold sgnV
  split
  · rename_i q; cases q; exact absurd rfl h
  · rfl
def numV (l : List Nat) : Option Int :=
  if 1 ≤ (figs l).length ∧ (figs l).length ≤ 60 ∧ (figs l).all isD = true ∧ canon (figs l) = true ∧ l ≠ [45, 48] then
    some (sgnV l)
  else none
def optD (o : Option Int) : D := match o with
  | some i => .int i
  | none => .non
def isA (c : Nat) : Bool := decide (97 ≤ c ∧ c ≤ 122)
theorem abcS_mem (c : Nat) : decide (c ∈ abcS.cps.toList) = isA c := by
  unfold isA
  congr 1
  exact propext ⟨fun h => abc_iff c h, fun h => abc_mem h⟩
def nameB (l : List Nat) : Bool := decide (1 ≤ l.length) && decide (l.length ≤ 8) && l.all isA
theorem nameB_nam {l : List Nat} (h : nameB l = true) : Nam (mkS l) := by
  simp only [nameB, Bool.and_eq_true, decide_eq_true_eq] at h
  exact ⟨h.1.1, h.1.2, fun c hc => by
    have := List.all_eq_true.mp h.2 c hc
    exact abc_mem (of_decide_eq_true this)⟩
theorem nam_nameB {x : Str} (h : Nam x) : nameB x.cps.toList = true := by
  simp only [nameB, Bool.and_eq_true, decide_eq_true_eq]
  exact ⟨⟨h.l1, h.l8⟩, List.all_eq_true.mpr fun c hc => decide_eq_true (abc_iff c (h.az c hc))⟩
/-- signs of a mark -/
def mkL (b : Bool) : List Nat := [if b then 62 else 60, 61]
theorem mk_mkL (b : Bool) : (mk b).cps.toList = mkL b := by cases b <;> first | exact mk_f | exact mk_t
theorem mkS_mk (b : Bool) : mk b = mkS (mkL b) := str_ext (mk_mkL b)
def syT (b : Bool) (l : List Nat) : Option Sy := match TL.par (mkL b) [] l with
  | some (a, r) => match numV r with
    | some i => if nameB a = true then some ⟨mkS a, b, i⟩ else none
    | none => none
  | none => none
def syP (l : List Nat) : Option Sy := match syT true l with
  | some s => some s
  | none => syT false l
def inR (i : Int) : Bool := decide (-(10 ^ 20) ≤ i) && decide (i ≤ 10 ^ 20)
def lawT (b : Bool) (l : List Nat) : Option (Option Sy) := match TL.spl (mkL b) 0 [] l with
  | [a, r] => some (match numV r with
    | some i => if nameB a = true ∧ inR i = true then some ⟨mkS a, b, i⟩ else none
    | none => none)
  | _ => none
def syW (l : List Nat) : Option Sy := match lawT true l with
  | some o => o
  | none => match lawT false l with
    | some o => o
    | none => none
theorem par_spl {S : List Nat} (hS : S ≠ []) : ∀ (l acc : List Nat), (TL.par S acc l = none ∧ TL.spl S 0 acc l = [acc ++ l]) ∨ ∃ p r, TL.par S acc l = some (acc ++ p, r) ∧ TL.spl S 0 acc l = (acc ++ p) :: TL.spl S 0 [] r ∧ l = p ++ (S ++ r)
  | [], acc => .inl ⟨rfl, by rw [TL.spl_nil]; simp⟩
  | c :: r, acc => by
    cases hp : TL.pre S (c :: r) with
    | true =>
      refine .inr ⟨[], (c :: r).drop S.length, by rw [TL.par_hit hp]; simp, ?_, ?_⟩
      · rw [TL.spl_hit hp, TL.spl_pass, List.append_nil]
        congr 2
        cases S with
        | nil => exact absurd rfl hS
        | cons s S => simp
      · have e : (c :: r).take S.length = S := eq_of_beq hp
        have := (List.take_append_drop S.length (c :: r)).symm
        rw [e] at this
        simpa using this
    | false =>
      rcases par_spl hS r (acc ++ [c]) with ⟨h1, h2⟩ | ⟨p, q, h1, h2, h3⟩
      · exact .inl ⟨by rw [TL.par_miss hp, h1], by rw [TL.spl_miss hp, h2]; simp⟩
      · exact .inr ⟨c :: p, q, by rw [TL.par_miss hp, h1]; simp, by rw [TL.spl_miss hp, h2]; simp, by rw [h3]; simp⟩
theorem mkL_ne (b : Bool) : mkL b ≠ [] := by simp [mkL]
theorem numV_no {l : List Nat} {i : Int} (h : numV l = some i) : ∀ c ∈ l, c = 45 ∨ (48 ≤ c ∧ c ≤ 57) := by
  unfold numV at h
  split at h
  · rename_i hc
    obtain ⟨_, _, h3, _, _⟩ := hc
    intro c hc
    have : c = 45 ∨ c ∈ figs l := by
      unfold figs
      split
      · rcases List.mem_cons.mp hc with q | q
        · exact .inl q
        · exact .inr q
      · exact .inr hc
    rcases this with q | q
    · exact .inl q
    · exact .inr (of_decide_eq_true (List.all_eq_true.mp h3 c q))
  · cases h
theorem nameB_no {l : List Nat} (h : nameB l = true) : ∀ c ∈ l, 97 ≤ c ∧ c ≤ 122 := fun c hc => by
  simp only [nameB, Bool.and_eq_true] at h
  exact of_decide_eq_true (List.all_eq_true.mp h.2 c hc)
theorem lawT_eq (b : Bool) (l : List Nat) : (TL.par (mkL b) [] l = none ∧ lawT b l = none) ∨ ∃ a r, TL.par (mkL b) [] l = some (a, r) ∧ l = a ++ (mkL b ++ r) ∧ ((lawT b l = none ∧ numV r = none) ∨
    lawT b l = some (match numV r with
    | some i => if nameB a = true ∧ inR i = true then some ⟨mkS a, b, i⟩ else none
    | none => none)) := by
  rcases par_spl (mkL_ne b) l [] with ⟨h1, h2⟩ | ⟨p, r, h1, h2, h3⟩
  · refine .inl ⟨h1, ?_⟩
    unfold lawT
    rw [h2]
  · refine .inr ⟨p, r, by simpa using h1, h3, ?_⟩
    rcases par_spl (mkL_ne b) r [] with ⟨g1, g2⟩ | ⟨q, r2, g1, g2, g3⟩
    · right
      unfold lawT
      rw [h2, g2]
      simp
    · left
      constructor
      · unfold lawT
        rw [h2, g2]
        cases e : TL.spl (mkL b) 0 [] r2 with
        | nil =>
          rcases par_spl (mkL_ne b) r2 [] with ⟨_, z⟩ | ⟨_, _, _, z, _⟩
          · rw [e] at z; cases z
          · rw [e] at z; cases z
        | cons x y => rfl
      · cases e : numV r with
        | none => rfl
        | some i =>
          have := numV_no e 61 (by rw [g3]; simp [mkL])
          omega
/-- what the law reads is what the program reads -/
theorem syW_eq (l : List Nat) : syW l = (syP l).filter fun s => inR s.i := by
  have no2 : ∀ a r, l = a ++ (mkL true ++ r) → syT false l = none := by
    intro a r hl
    cases e : syT false l with
    | none => rfl
    | some s =>
      unfold syT at e
      split at e
      · rename_i a2 r2 hp
        rcases par_spl (mkL_ne false) l [] with ⟨z, _⟩ | ⟨p, q, z, _, h3⟩
        · rw [z] at hp; cases hp
        · rw [z] at hp
          simp only [List.nil_append, Option.some.injEq, Prod.mk.injEq] at hp
          obtain ⟨rfl, rfl⟩ := hp
          split at e
          · rename_i i hi
            split at e
            · rename_i hn
              have hm : 62 ∈ l := by rw [hl]; simp [mkL]
              rw [h3] at hm
              simp only [List.mem_append, mkL] at hm
              rcases hm with hm | hm | hm
              · have := nameB_no hn 62 hm; omega
              · simp at hm
              · have := numV_no hi 62 hm; omega
            · cases e
          · cases e
      · cases e
  have lawF : ∀ o, lawT false l = some o → syT true l = none → syT false l = none → o = none := by
    intro o ho _ h2
    rcases lawT_eq false l with ⟨_, z⟩ | ⟨a, r, hp, hl, z⟩
    · rw [z] at ho; cases ho
    · rcases z with ⟨z, _⟩ | z
      · rw [z] at ho; cases ho
      · rw [z] at ho
        cases ho
        unfold syT at h2
        rw [hp] at h2
        simp only at h2
        split
        · rename_i i hi
          rw [hi] at h2
          simp only at h2
          split at h2
          · cases h2
          · rename_i hn
            exact if_neg fun q => hn q.1
        · rfl
  rcases lawT_eq true l with ⟨hp, z⟩ | ⟨a, r, hp, hl, z⟩
  · -- no first mark
    have s1 : syT true l = none := by unfold syT; rw [hp]
    unfold syW syP
    rw [z, s1]
    simp only
    rcases lawT_eq false l with ⟨hp2, z2⟩ | ⟨a, r, hp2, hl2, z2⟩
    · have s2 : syT false l = none := by unfold syT; rw [hp2]
      rw [z2, s2]; rfl
    · rcases z2 with ⟨z2, hn⟩ | z2
      · have s2 : syT false l = none := by unfold syT; rw [hp2]; simp [hn]
        rw [z2, s2]; rfl
      · rw [z2]
        unfold syT
        rw [hp2]
        simp only
        cases hi : numV r with
        | none => rfl
        | some i =>
          simp only
          cases hn : nameB a <;> cases hr : inR i <;> simp [Option.filter, hr]
  · have s2 := no2 a r hl
    rcases z with ⟨z, hn⟩ | z
    · have s1 : syT true l = none := by unfold syT; rw [hp]; simp [hn]
      unfold syW syP
      rw [z, s1, s2]
      simp only
      cases hf : lawT false l with
      | none => rfl
      | some o => simp [lawF o hf s1 s2]
    · unfold syW syP
      rw [z]
      simp only
      unfold syT
      rw [hp]
      simp only
      cases hi : numV r with
      | none =>
        simp only
        unfold syT at s2
        rw [s2]; rfl
      | some i =>
        simp only
        cases hn : nameB a with
        | true => cases hr : inR i <;> simp [Option.filter, hr]
        | false =>
          unfold syT at s2
          simp [s2]
section
variable {G : Gv} {L : Lcs} {S : Store}
def parR (b : Bool) (l : List Nat) : D := match TL.par (mkL b) [] l with
  | some q => .tup [.str (mkS q.1), .str (mk b), .str (mkS q.2)]
  | none => .tup [.str (mkS l), .str Str.empty, .str Str.empty]
theorem par_op (b : Bool) {l : List Nat} (h : l.length < 16777000) : mtD .partition (.str (mkS l)) [.str (mk b)] S = .ok (parR b l) S := by
  have hb : ((mk b).length == 0) = false := by rw [mk_len]; rfl
  have hl : (mkS l).length ≤ sizeLine := by rw [mkS_len, sizeLine_eq]; omega
  have pp := TL.partition_par (mkS l) (mk b) (by show TL.tl (mk b) ≠ []; rw [show TL.tl (mk b) = mkL b from mk_mkL b]; exact mkL_ne b)
  rw [show TL.tl (mk b) = mkL b from mk_mkL b, show TL.tl (mkS l) = l from rfl] at pp
  simp only [mtD, hb, hl, and_self, if_true, pp]
  unfold parR
  cases TL.par (mkL b) [] l with
  | none => rfl
  | some q => rfl
theorem split_L (y : Str) (l : List Nat) (hy : y.cps.toList ≠ []) (hk : y.cps.all (· < 256) = true) : Txt.split (mkS l) y = (TL.spl y.cps.toList 0 [] l).map mkS := by
  refine TL.map_tl_inj ?_
  rw [TL.split_spl (mkS l) y hy (TL.kind_ok hk), List.map_map]
  show TL.spl y.cps.toList 0 [] l = _
  have : (TL.tl ∘ mkS) = id := rfl
  rw [this, List.map_id]
theorem split_op {y : Str} {l : List Nat} (hy : y.cps.toList ≠ []) (hk : y.cps.all (· < 256) = true) (h : l.length < 16777000) : mtD .split (.str (mkS l)) [.str y] S = newC (.lst ((TL.spl y.cps.toList 0 [] l).map fun m => .str (mkS m))) S := by
  have hb : (y.length == 0) = false := by
    rw [beq_eq_false_iff_ne]
    intro z
    exact hy ((TL.len0_tl y).mp z)
  have hl : (mkS l).length + 2 ≤ sizeLine := by rw [mkS_len, sizeLine_eq]; omega
  simp only [mtD, hb, hl, and_self, if_true]
  rw [split_L y l hy hk, List.map_map]
  rfl
theorem ltAll_mk {n : Nat} (ls : List (List Nat)) : D.ltAll n (ls.map fun m => .str (mkS m)) = true := ltAll_iff.mpr fun d hd => by
  obtain ⟨i, _, rfl⟩ := List.mem_map.mp hd; rfl
theorem split_fz' {y : Str} {l : List Nat} (hy : y.cps.toList ≠ []) (hk : y.cps.all (· < 256) = true) (h : l.length < 16777000) : ((mtD .split (.str (mkS l)) [.str y] S).gc S).fz S = .ok (.pl ((TL.spl y.cps.toList 0 [] l).map fun m => .str (mkS m))) S := by
  rw [split_op hy hk h]
  exact newG_same (ltAll_mk _)
theorem spl_len {T : List Nat} (hT : T ≠ []) : ∀ (n : Nat) (l : List Nat), l.length ≤ n → (TL.spl T 0 [] l).length ≤ l.length + 1 := by
  intro n
  induction n with
  | zero =>
    intro l h
    have : l = [] := List.length_eq_zero_iff.mp (by omega)
    subst this
    simp [TL.spl_nil]
  | succ n ih =>
    intro l h
    rcases par_spl hT l [] with ⟨_, z⟩ | ⟨p, r, _, z, e⟩
    · rw [z]; simp
    · rw [z, List.length_cons]
      have hl := congrArg List.length e
      have ht : 1 ≤ T.length := List.length_pos_iff.mpr hT
      simp only [List.length_append] at hl
      have := ih r (by omega)
      omega
theorem spl_sub {T : List Nat} (hT : T ≠ []) : ∀ (n : Nat) (l : List Nat), l.length ≤ n → ∀ m ∈ TL.spl T 0 [] l, (∀ c ∈ m, c ∈ l) ∧ m.length ≤ l.length := by
  intro n
  induction n with
  | zero =>
    intro l h
    have : l = [] := List.length_eq_zero_iff.mp (by omega)
    subst this
    simp [TL.spl_nil]
  | succ n ih =>
    intro l h m hm
    rcases par_spl hT l [] with ⟨_, z⟩ | ⟨p, r, _, z, e⟩
    · rw [z] at hm
      simp at hm
      subst hm
      exact ⟨fun c hc => hc, Nat.le_refl _⟩
    · rw [z] at hm
      have hl := congrArg List.length e
      have ht : 1 ≤ T.length := List.length_pos_iff.mpr hT
      simp only [List.length_append] at hl
      rcases List.mem_cons.mp hm with q | q
      · rw [q]
        exact ⟨fun c hc => by rw [e]; simp at hc ⊢; exact .inl hc, by simp; omega⟩
      · obtain ⟨h1, h2⟩ := ih r (by omega) m q
        exact ⟨fun c hc => by rw [e]; simp [h1 c hc], by omega⟩
theorem spl_ne {T : List Nat} (hT : T ≠ []) (l : List Nat) : TL.spl T 0 [] l ≠ [] := by
  rcases par_spl hT l [] with ⟨_, z⟩ | ⟨p, r, _, z, e⟩ <;> (rw [z]; simp)
theorem slc1 {l : List Nat} (h : l.length ≤ 16777216) : slcD (.str (mkS l)) none (some 1) S = .ok (.str (mkS (l.take 1))) S := by
  rw [slc_str (by rw [mkS_len]; exact h), cut_to _ (by omega)]; rfl
theorem slcR {l : List Nat} (h : l.length ≤ 16777216) : slcD (.str (mkS l)) (some 1) none S = .ok (.str (mkS (l.drop 1))) S := by
  rw [slc_str (by rw [mkS_len]; exact h), cut_from _ (by omega)]; rfl
/-- a comprehension whose turns leave all as it is; what it walks over may be a list -/
theorem ev_fzlcS {vs : List Nat} {t : CT} {it : CI} {c e : CE} {items : List D} {g : Guard} (p : D → Bool) (f : D → D) (M : D → Lcs) (hI : evI G it L S = .ok (items, g) S) (hl : items.length < 16777216) (hg : ∀ T, Gok g (S ++ T))
    (turn : ∀ d ∈ items, ∀ T, asgT t d (S ++ T) (wipeL L vs) = some (M d) ∧ evE G c (M d) (S ++ T) = .ok (.bl (p d)) (S ++ T) ∧ (p d = true → evE G e (M d) (S ++ T) = .ok (f d) (S ++ T) ∧ (f d).lt S.length = true)) :
    evE G (.fz (.lc vs t it c e)) L S = .ok (.pl ((items.filter p).map f)) S := by
  obtain ⟨S', e1, h1⟩ := lc_inv (f := lcF G t c e (wipeL L vs) S.length) (g := g) (I := fun i X => X = S ++ [.lst (((items.take i).filter p).map f)]) items 0 (S ++ [.lst []]) (by simp) (by
      rintro i X rfl
      exact hg _) (by
      rintro i d X _ hd rfl
      obtain ⟨q1, q2, q3⟩ := turn d (List.mem_of_getElem? hd) [.lst (((items.take i).filter p).map f)]
      have hi : i < items.length := (List.getElem?_eq_some_iff.mp hd).1
      have ht : items.take (i + 1) = items.take i ++ [d] := by rw [List.take_succ]; rw [show items[i]? = some d from hd]; rfl
      rw [ht, List.filter_append, List.map_append]
      refine ⟨_, ?_, rfl⟩
      unfold lcF
      rw [q1, ofO_some, R.bind_ok, q2, R.bind_ok]
      cases hp : p d with
      | false => rw [ifB_f]; simp [hp]
      | true =>
        rw [ifB_t, (q3 hp).1, R.bind_ok]
        have g1 : (S ++ [Cell.lst (((items.take i).filter p).map f)])[S.length]? = some (.lst (((items.take i).filter p).map f)) := by simp
        simp only [g1]
        have hc : (((items.take i).filter p).map f).length ≤ i := by
          rw [List.length_map]
          exact Nat.le_trans (List.length_filter_le _ _) (by rw [List.length_take]; omega)
        rw [if_pos (by rw [sizeLine_eq]; omega)]
        simp [hp])
  subst h1
  rw [Nat.zero_add, List.take_length] at e1
  rw [ev_fz, ev_lcE, hI, R.bind_ok]
  simp only
  rw [e1, R.bind_ok]
  show ((R.ok (.ref S.length) (S ++ [.lst ((items.filter p).map f)])).gc S).fz S = _
  refine gc_newL (Kp.refl S) (ltAll_iff.mpr fun d hd => ?_)
  obtain ⟨x, hx, rfl⟩ := List.mem_map.mp hd
  obtain ⟨hx1, hx2⟩ := List.mem_filter.mp hx
  exact ((turn x hx1 []).2.2 hx2).2
theorem bols_map {α : Type} (f : α → Bool) : ∀ xs : List α, bolsOf (xs.map fun x => D.bl (f x)) = some (xs.map f)
  | [] => rfl
  | x :: xs => by
    show (bolsOf (xs.map fun x => D.bl (f x))).map (f x :: ·) = _
    rw [bols_map f xs]; rfl
theorem all_map {α : Type} (f : α → Bool) (xs : List α) : biD .all [.pl (xs.map fun x => .bl (f x))] S = .ok (.bl (xs.all f)) S := by
  show ofB ((some _).bind fun ds => (bolsOf ds).map fun ns => ns.all id) S = _
  rw [Option.bind_some, bols_map]
  simp [ofB, List.all_map, Function.comp_def]
theorem in_sign {c : Nat} {z : Str} {S : Store} : cmpD .In (.str (mkS [c])) (.str z) S = .ok (.bl (decide (c ∈ z.cps.toList))) S := rfl
theorem notin_sign {c : Nat} {z : Str} {S : Store} : cmpD .NotIn (.str (mkS [c])) (.str z) S = .ok (.bl (!decide (c ∈ z.cps.toList))) S := rfl
/-- [sign in Z for sign in text] -/
theorem lc_in {v : Nat} {it : CI} {ez : CE} {l : List Nat} {z : Str} (hI : evI G it L S = .ok (l.map fun c => .str (mkS [c]), []) S) (hl : l.length < 16777216) (hv : v < L.length) (hz : ∀ (L' : Lcs) (S' : Store), evE G ez L' S' = .ok (.str z) S') :
    evE G (.fz (.lc [v] (.nm v) it (.cst (.bl true)) (.cmp .In (.loc v) ez))) L S = .ok (.pl (l.map fun c => .bl (decide (c ∈ z.cps.toList)))) S := by
  have key := ev_fzlcS (G := G) (L := L) (S := S) (vs := [v]) (t := .nm v) (c := .cst (.bl true)) (e := .cmp .In (.loc v) ez) (fun _ => true) (fun d => match d with | .str x => .bl (decide (x.cps.toList.headD 0 ∈ z.cps.toList)) | _ => .non) (fun d => (wipeL L [v]).set v (some d)) hI (by simpa using hl) (fun _ => gok0) (by
    intro d hd T
    obtain ⟨c, hc, rfl⟩ := List.mem_map.mp hd
    have gv : ((wipeL L [v]).set v (some (.str (mkS [c]))))[v]? = some (some (.str (mkS [c]))) := List.getElem?_set_self (by simpa [wipeL] using hv)
    refine ⟨show (if v < (wipeL L [v]).length then _ else none) = _ from if_pos (by simpa [wipeL] using hv), rfl, fun _ => ⟨?_, rfl⟩⟩
    rw [ev_cmp, ev_loc, gv]
    simp -implicitDefEqProofs only [R.bind_ok, hz, in_sign, R.gc_ok, gc_same]
    rfl)
  rw [key, List.filter_eq_self.mpr (fun _ _ => rfl), List.map_map]
  rfl
/-- [sign for sign in text if sign not in Z] -/
theorem lc_notin {v : Nat} {it : CI} {ez : CE} {l : List Nat} {z : Str} (hI : evI G it L S = .ok (l.map fun c => .str (mkS [c]), []) S) (hl : l.length < 16777216) (hv : v < L.length) (hz : ∀ (L' : Lcs) (S' : Store), evE G ez L' S' = .ok (.str z) S') :
    evE G (.fz (.lc [v] (.nm v) it (.cmp .NotIn (.loc v) ez) (.loc v))) L S = .ok (.pl ((l.filter fun c => !decide (c ∈ z.cps.toList)).map fun c => .str (mkS [c]))) S := by
  have key := ev_fzlcS (G := G) (L := L) (S := S) (vs := [v]) (t := .nm v) (c := .cmp .NotIn (.loc v) ez) (e := .loc v) (fun d => match d with | .str x => !decide (x.cps.toList.headD 0 ∈ z.cps.toList) | _ => false) (fun d => d) (fun d => (wipeL L [v]).set v (some d)) hI (by simpa using hl) (fun _ => gok0) (by
    intro d hd T
    obtain ⟨c, hc, rfl⟩ := List.mem_map.mp hd
    have gv : ((wipeL L [v]).set v (some (.str (mkS [c]))))[v]? = some (some (.str (mkS [c]))) := List.getElem?_set_self (by simpa [wipeL] using hv)
    refine ⟨show (if v < (wipeL L [v]).length then _ else none) = _ from if_pos (by simpa [wipeL] using hv), ?_, fun _ => ⟨by rw [ev_loc, gv], rfl⟩⟩
    rw [ev_cmp, ev_loc, gv]
    simp -implicitDefEqProofs only [R.bind_ok, hz, notin_sign, R.gc_ok, gc_same]
    rfl)
  rw [key, List.map_id', List.filter_map]
  rfl
theorem walk_str {l : List Nat} : walkD S (.str (mkS l)) = some (l.map fun c => .str (mkS [c]), []) := rfl
theorem ne_nilP {ds : List D} : cmpD .NotEq (.pl ds) (.pl []) S = .ok (.bl (!ds.isEmpty)) S := rfl
theorem eq_nilP {ds : List D} : cmpD .Eq (.pl ds) (.pl []) S = .ok (.bl ds.isEmpty) S := rfl
theorem len_L {l : List Nat} (h : l.length ≤ 16777216) : biD .len [.str (mkS l)] S = .ok (.int (l.length : Nat)) S := by
  have h : lenD S (.str (mkS l)) = some l.length := by
    show (if sizeOk (mkS l).length then some (mkS l).length else none) = _
    rw [mkS_len, sizeOk_le h]; rfl
  show optR ((lenD S (.str (mkS l))).map fun n => .int n) S = _
  rw [h]; rfl
theorem lit_eq {s : String} {l : List Nat} (h : (Str.ofString s).cps.toList = l) : Str.ofString s = mkS l := str_ext h
theorem minus_L : Str.ofString "-" = mkS [45] := lit_eq (by decide +kernel)
theorem m0_L : Str.ofString "-0" = mkS [45, 48] := lit_eq (by decide +kernel)
theorem zero_L : Str.ofString "0" = mkS [48] := lit_eq (by decide +kernel)
theorem sn1 {c : Nat} (h : c < 0x110000) : Sn [c] := fun d hd => by simp at hd; subst hd; exact h
theorem sn45 : Sn [45] := sn1 (by omega)
theorem figs_sub (l : List Nat) : ∀ c ∈ figs l, c ∈ l := fun c hc => by
  unfold figs at hc
  split at hc
  · exact List.mem_cons_of_mem _ hc
  · exact hc
theorem figs_len (l : List Nat) : (figs l).length ≤ l.length := by
  unfold figs
  split
  · simp
  · exact Nat.le_refl _
/-- text[1:] if text[:1] == "-" else text -/
theorem ev_figs {a : Nat} {l : List Nat} (ha : L[a]? = some (some (.str (mkS l)))) (h : Sn l) (hl : l.length < 16777000) :
    evE G (.ite (.cmp .Eq (.slc (.loc a) false (.cst .non) true (.cst (.int 1))) (.cst (.str (Str.ofString "-")))) (.slc (.loc a) true (.cst (.int 1)) false (.cst .non)) (.loc a)) L S = .ok (.str (mkS (figs l))) S := by
  have s1 := slc1 (S := S) (l := l) (by omega)
  have s2 := slcR (S := S) (l := l) (by omega)
  have e1 := eqL (S := S) (h.sub (m := l.take 1) fun c hc => List.mem_of_mem_take hc) sn45
  rw [← minus_L] at e1
  have eF : figs l = if l.take 1 = [45] then l.drop 1 else l := by
    cases l with
    | nil => rfl
    | cons c r =>
      by_cases hc : c = 45
      · subst hc; simp [figs]
      · rw [if_neg (by simpa using hc)]
        unfold figs
        split
        · rename_i h2; cases h2; exact absurd rfl hc
        · rfl
  rw [eF]
  by_cases hc : l.take 1 = [45]
  · rw [if_pos hc]
    rw [decide_eq_true hc] at e1
    simp -implicitDefEqProofs only [ev_ite, ev_cmp, slc_h, slc_l, ev_loc, ha, R.bind_ok, ev_cst, s1, s2, R.gc_ok, gc_same, e1, ifB_t]
  · rw [if_neg hc]
    rw [decide_eq_false hc] at e1
    simp -implicitDefEqProofs only [ev_ite, ev_cmp, slc_h, slc_l, ev_loc, ha, R.bind_ok, ev_cst, s1, s2, R.gc_ok, gc_same, e1, ifB_f]
theorem numV_len {l : List Nat} (h : ¬ (1 ≤ (figs l).length ∧ (figs l).length ≤ 60)) : numV l = none := by
  unfold numV
  exact if_neg fun z => h ⟨z.1, z.2.1⟩
theorem numV_dig {l : List Nat} (h : ¬ (figs l).all isD = true) : numV l = none := by
  unfold numV
  exact if_neg fun z => h z.2.2.1
/-- int(text) of a number's text -/
theorem int_numV {l : List Nat} (h1 : 1 ≤ (figs l).length) (h2 : (figs l).length ≤ 60) (h3 : (figs l).all isD = true) : biD .int [.str (mkS l)] S = .ok (.int (sgnV l)) S := by
  cases l with
  | nil => simp [figs] at h1
  | cons c r =>
    by_cases hc : c = 45
    · subst hc
      exact int_mdigs h3 (by intro z; rw [z] at h1; simp [figs] at h1) h2
    · have e : figs (c :: r) = c :: r := by
        unfold figs
        split
        · rename_i q; cases q; exact absurd rfl hc
        · rfl
      rw [e] at h1 h2 h3
      have := int_digs (S := S) h3 (by simp) h2
      rw [this, sgnV_pos hc]
section
variable {f : D → Lcs → Store → R (Fl × Lcs)} {d : D} {ds : List D} {L1 : Lcs} {S1 : Store} {v : D}
theorem for_nxt (h : f d L S = .ok (.nx, L1) S1) : forLoop f [] (d :: ds) L S = forLoop f [] ds L1 S1 := by
  simp only [forLoop]
  rw [if_pos gok0, h, R.bind_ok]
theorem for_rt (h : f d L S = .ok (.ret v, L1) S1) : forLoop f [] (d :: ds) L S = .ok (.ret v, L1) S1 := by
  simp only [forLoop]
  rw [if_pos gok0, h, R.bind_ok]
theorem for_end : forLoop f [] [] L S = .ok (.nx, L) S := by
  simp only [forLoop]
  rw [if_pos gok0]
end
/-- a reading's end: it tells, or goes on -/
def optF (o : Option D) : Fl := match o with
  | some d => .ret d
  | none => .nx
theorem sn_par {b : Bool} {l a r : List Nat} (h : Sn l) (e : TL.par (mkL b) [] l = some (a, r)) : Sn a ∧ Sn r ∧ a.length + 2 + r.length = l.length := by
  rcases par_spl (mkL_ne b) l [] with ⟨z, _⟩ | ⟨p, q, z, _, h3⟩
  · rw [z] at e; cases e
  · rw [z] at e
    simp only [List.nil_append, Option.some.injEq, Prod.mk.injEq] at e
    obtain ⟨rfl, rfl⟩ := e
    have hl := congrArg List.length h3
    simp only [List.length_append, mkL, List.length_cons, List.length_nil] at hl
    exact ⟨h.sub fun c hc => by rw [h3]; simp [hc], h.sub fun c hc => by rw [h3]; simp [hc], by omega⟩
/-- plain data of some depth, texts not too long -/
def okD : Nat → D → Bool
  | 0, _ => false
  | _ + 1, .non => true
  | _ + 1, .bl _ => true
  | _ + 1, .int _ => true
  | _ + 1, .str x => PyData.strOk x && decide (x.length < 16777000)
  | n + 1, .tup ds => ds.all (okD n)
  | n + 1, .pl ds => ds.all (okD n)
  | n + 1, .pd _ ds => ds.all (okD n)
  | _, _ => false
def wholeB : D → Bool
  | .int _ => true
  | _ => false
def fromB (lo hi : Int) : D → Bool
  | .int i => decide (lo ≤ i) && decide (i ≤ hi)
  | _ => false
def tupleB (lo hi : Int) : D → Bool
  | .tup ds => decide (lo ≤ (ds.length : Int)) && decide ((ds.length : Int) ≤ hi)
  | _ => false
def isNameB : D → Bool
  | .str x => nameB x.cps.toList
  | _ => false
def isSortB : D → Bool
  | .str x => decide (x = srt true ∨ x = srt false)
  | _ => false
def sayB : D → Bool
  | .tup [a, b, c] => isNameB a && isSortB b && fromB (-(10 ^ 20)) (10 ^ 20) c
  | _ => false
def nonB : D → Bool
  | .non => true
  | _ => false
def linkB (first : Bool) : D → Bool
  | .tup [a, b] => sayB a && (if first = true then nonB b else fromB (-1) 39 b)
  | _ => false
def linksT : List D → Bool
  | [] => true
  | d :: r => linkB true d && r.all (linkB false)
def linksB (ds : List D) : Bool := decide (1 ≤ ds.length) && decide (ds.length ≤ 2000) && linksT ds
theorem okD_str {n : Nat} {x : Str} (h : okD n (.str x) = true) : PyData.strOk x = true ∧ x.length < 16777000 := by
  cases n with
  | zero => cases h
  | succ n => simpa [okD] using h
theorem okD_tup {n : Nat} {ds : List D} (h : okD n (.tup ds) = true) : ∃ m, n = m + 1 ∧ ∀ d ∈ ds, okD m d = true := by
  cases n with
  | zero => cases h
  | succ n => exact ⟨n, rfl, List.all_eq_true.mp h⟩
theorem enu_mem {ds : List D} {k : Nat} {x : D} (h : x ∈ enuFrom k ds) : ∃ i d, d ∈ ds ∧ ds[i]? = some d ∧ x = .tup [.int ((k + i : Nat) : Int), d] := by
  obtain ⟨i, hi⟩ := List.getElem?_of_mem h
  rw [enu_get] at hi
  obtain ⟨d, hd, rfl⟩ := Option.map_eq_some_iff.mp hi
  exact ⟨i, d, List.mem_of_getElem? hd, hd, rfl⟩
theorem rng_step {a : Int} {m : Nat} {b : Int} (h0 : 0 ≤ a) (hm : (m : Int) < 2 ^ 50) (ha : a < 2 ^ 50) (hb : a + 2 * m - 1 ≤ b) (hb2 : b ≤ a + 2 * m) (h1 : 0 < m) : rngD [.int a, .int b, .int 2] = some ((List.range m).map fun (k : Nat) => D.int (a + (k : Int) * 2)) := by
  have rs : Builtin.Range.rangeSize a b 2 = m := by
    unfold Builtin.Range.rangeSize
    rw [if_pos (by omega), if_pos (by omega)]
    omega
  have sm : Builtin.Range.small a b 2 = true := by
    unfold Builtin.Range.small
    rw [rs]
    simp [Builtin.Range.rangeFitsLong]
    omega
  show (if _ then _ else _) = _
  rw [if_pos ⟨by omega, by omega, by omega, by omega, by omega, by decide, sm, by rw [rs]; omega⟩, rs]
  simp
theorem rng_none {a b : Int} (h0 : 0 ≤ a) (ha : a < 2 ^ 50) (hb : b ≤ a) (hb0 : -(2 ^ 50) < b) : rngD [.int a, .int b, .int 2] = some [] := by
  have rs : Builtin.Range.rangeSize a b 2 = 0 := by
    unfold Builtin.Range.rangeSize
    rw [if_pos (by omega), if_neg (by omega)]
  have sm : Builtin.Range.small a b 2 = true := by
    unfold Builtin.Range.small
    rw [rs]
    simp [Builtin.Range.rangeFitsLong]
    omega
  show (if _ then _ else _) = _
  rw [if_pos ⟨by omega, by omega, by omega, by omega, by omega, by decide, sm, by rw [rs]; omega⟩, rs]
  rfl
def optS (o : Option Sy) : D := match o with
  | some s => syD s
  | none => .non
def byP (l : List Nat) : Option Int := if l = [61] then some (-1) else if l.take 1 = [45] then none else numV l
def byE (l : List Nat) : D := match byP l with
  | some i => .int i
  | none => .str (Str.ofString "")
def byL (l : List Nat) : Option Int := if l = [61] then some (-1) else numV l
def byV (l : List Nat) : Option Int := match byP l with
  | some i => if -1 ≤ i ∧ i ≤ 39 then some i else none
  | none => none
theorem figs_no {l : List Nat} (h : l.take 1 ≠ [45]) : figs l = l := by
  unfold figs
  split
  · exact absurd rfl h
  · rfl
theorem numV_nn {l : List Nat} {i : Int} (h : l.take 1 ≠ [45]) (e : numV l = some i) : 0 ≤ i := by
  unfold numV at e
  split at e
  · cases l with
    | nil => cases e; simp [sgnV]
    | cons c r =>
      have hc : c ≠ 45 := fun z => h (by rw [z]; rfl)
      rw [sgnV_pos hc] at e
      cases e
      omega
  · cases e
theorem numV_neg {l : List Nat} {i : Int} (h : l.take 1 = [45]) (e : numV l = some i) : i < 0 := by
  unfold numV at e
  split at e
  · rename_i hc
    obtain ⟨h1, h2, h3, h4, h5⟩ := hc
    cases l with
    | nil => cases h
    | cons c r =>
      have : c = 45 := by simpa using h
      subst this
      have e2 : sgnV (45 :: r) = -((NumText.digitsVal r : Nat) : Int) := rfl
      have e3 : figs (45 :: r) = r := rfl
      rw [e2] at e
      rw [e3] at h1 h3 h4
      cases e
      have hr : r ≠ [] := by intro z; rw [z] at h1; simp at h1
      have h48 : r.head? ≠ some 48 := by
        intro z
        cases r with
        | nil => cases z
        | cons a b =>
          have : a = 48 := by simpa using z
          subst this
          have hb : b = [] := by simpa [canon] using h4
          subst hb
          exact h5 rfl
      have := canon_pos (all_digits h3) hr h48
      omega
  · cases e
/-- the law's own check of a number by which -/
theorem byL_ok (l : List Nat) : (match byL l with | some i => if 39 < i ∨ (i < 0 ∧ l ≠ [61]) then none else some i | none => none) = byV l := by
  unfold byL byV byP
  by_cases h1 : l = [61]
  · simp [h1]
  · rw [if_neg h1, if_neg h1]
    by_cases h2 : l.take 1 = [45]
    · rw [if_pos h2]
      cases e : numV l with
      | none => rfl
      | some i =>
        have := numV_neg h2 e
        simp only
        rw [if_pos (.inr ⟨this, h1⟩)]
    · rw [if_neg h2]
      cases e : numV l with
      | none => rfl
      | some i =>
        have := numV_nn h2 e
        simp only
        by_cases h3 : 39 < i
        · rw [if_pos (.inl h3), if_neg (by omega)]
        · rw [if_neg (by omega), if_pos (by omega)]
def wd (W : List (List Nat)) (n : Nat) : List Nat := (W[n]?).getD []
def linkP (w : List Nat) (b : D) : D := .tup [optS (syP w), b]
def progL (W : List (List Nat)) (m : Nat) : List D := linkP (wd W 0) .non :: (List.range m).map fun j => linkP (wd W (2 * j + 2)) (byE (wd W (2 * j + 1)))
def lawE (W : List (List Nat)) (j : Nat) : D := .tup [optS (syW (wd W (2 * j))), if j = 0 then .non else optD (byV (wd W (2 * j - 1)))]
def lawL (W : List (List Nat)) (m : Nat) : List D := (List.range (m + 1)).map (lawE W)
def goodV (W : List (List Nat)) (m : Nat) : Bool := (List.range (m + 1)).all fun j => (syW (wd W (2 * j))).isSome && (decide (j = 0) || (byV (wd W (2 * j - 1))).isSome)
def readV (W : List (List Nat)) : Option (List D) := if W.length % 2 = 0 ∨ 3999 < W.length then none else if goodV W (W.length / 2) = true then some (lawL W (W.length / 2)) else none
theorem syT_nam {b : Bool} {l : List Nat} {s : Sy} (h : syT b l = some s) : Nam s.nm := by
  unfold syT at h
  split at h
  · split at h
    · split at h
      · rename_i hn
        cases h
        exact nameB_nam hn
      · cases h
    · cases h
  · cases h
theorem syP_nam {l : List Nat} {s : Sy} (h : syP l = some s) : Nam s.nm := by
  unfold syP at h
  split at h
  · rename_i h1; cases h; exact syT_nam h1
  · exact syT_nam h
theorem sayB_sy {s : Sy} (h : Nam s.nm) : sayB (syD s) = inR s.i := by
  have h1 : isNameB (.str s.nm) = true := nam_nameB h
  have h2 : isSortB (.str (srt s.ls)) = true := by
    unfold isSortB
    cases s.ls <;> simp
  show (isNameB (.str s.nm) && isSortB (.str (srt s.ls)) && fromB _ _ (.int s.i)) = _
  rw [h1, h2]
  rfl
theorem sayB_opt (w : List Nat) : sayB (optS (syP w)) = (syW w).isSome := by
  rw [syW_eq]
  cases e : syP w with
  | none => rfl
  | some s =>
    show sayB (syD s) = _
    rw [sayB_sy (syP_nam e)]
    cases hr : inR s.i <;> simp [Option.filter, hr]
theorem optS_eq {w : List Nat} (h : (syW w).isSome = true) : optS (syP w) = optS (syW w) := by
  rw [syW_eq] at h ⊢
  cases e : syP w with
  | none => rfl
  | some s =>
    rw [e] at h
    cases hr : inR s.i <;> simp [Option.filter, hr] at h ⊢
theorem byE_from (l : List Nat) : fromB (-1) 39 (byE l) = (byV l).isSome := by
  unfold byE byV
  cases byP l with
  | none => rfl
  | some i =>
    show (decide (-1 ≤ i) && decide (i ≤ 39)) = _
    by_cases h : -1 ≤ i ∧ i ≤ 39
    · simp [h]
    · simp only [if_neg h, Option.isSome_none]
      simp
      omega
theorem byE_eq {l : List Nat} (h : (byV l).isSome = true) : byE l = optD (byV l) := by
  unfold byE
  unfold byV at h ⊢
  cases e : byP l with
  | none => rw [e] at h; cases h
  | some i =>
    rw [e] at h
    simp only at h ⊢
    split
    · rfl
    · rename_i hn; rw [if_neg hn] at h; cases h
theorem range_succ_map {α : Type} (f : Nat → α) (m : Nat) : (List.range (m + 1)).map f = f 0 :: (List.range m).map fun j => f (j + 1) := by
  rw [List.range_succ_eq_map, List.map_cons, List.map_map]; rfl
theorem goodV_eq (W : List (List Nat)) (m : Nat) : goodV W m = linksT (progL W m) := by
  unfold goodV progL
  show _ = (linkB true (linkP (wd W 0) .non) && ((List.range m).map fun j => linkP (wd W (2 * j + 2)) (byE (wd W (2 * j + 1)))).all (linkB false))
  rw [List.range_succ_eq_map, List.all_cons, List.all_map, List.all_map]
  have h0 : linkB true (linkP (wd W 0) .non) = ((syW (wd W 0)).isSome && true) := by
    show (sayB (optS (syP (wd W 0))) && true) = _
    rw [sayB_opt]
  rw [h0]
  congr 1
  congr 1
  funext j
  show _ = linkB false (linkP (wd W (2 * j + 2)) (byE (wd W (2 * j + 1))))
  have : linkB false (linkP (wd W (2 * j + 2)) (byE (wd W (2 * j + 1)))) = ((syW (wd W (2 * j + 2))).isSome && (byV (wd W (2 * j + 1))).isSome) := by
    show (sayB (optS (syP (wd W (2 * j + 2)))) && fromB (-1) 39 (byE (wd W (2 * j + 1)))) = _
    rw [sayB_opt, byE_from]
  rw [this]
  show ((syW (wd W (2 * (j + 1)))).isSome && (decide (j + 1 = 0) || (byV (wd W (2 * (j + 1) - 1))).isSome)) = _
  rw [show 2 * (j + 1) = 2 * j + 2 by omega, show 2 * j + 2 - 1 = 2 * j + 1 by omega, decide_eq_false (by omega), Bool.false_or]
theorem prog_law {W : List (List Nat)} {m : Nat} (h : goodV W m = true) : progL W m = lawL W m := by
  unfold progL lawL
  rw [range_succ_map]
  unfold goodV at h
  rw [List.all_eq_true] at h
  congr 1
  · have := h 0 (by simp)
    simp at this
    show D.tup [optS (syP (wd W 0)), .non] = D.tup [optS (syW (wd W (2 * 0))), _]
    rw [optS_eq (w := wd W 0) this]
    rfl
  · refine List.map_congr_left fun j hj => ?_
    have := h (j + 1) (by simp at hj ⊢; omega)
    simp only [Bool.and_eq_true, decide_eq_false (show ¬ (j + 1 = 0) by omega), Bool.false_or] at this
    rw [show 2 * (j + 1) = 2 * j + 2 by omega, show 2 * j + 2 - 1 = 2 * j + 1 by omega] at this
    show D.tup [optS (syP (wd W (2 * j + 2))), byE (wd W (2 * j + 1))] = D.tup [optS (syW (wd W (2 * (j + 1)))), if j + 1 = 0 then D.non else optD (byV (wd W (2 * (j + 1) - 1)))]
    rw [if_neg (by omega), show 2 * (j + 1) = 2 * j + 2 by omega, show 2 * j + 2 - 1 = 2 * j + 1 by omega, optS_eq this.1, byE_eq this.2]
end
section
variable {G : Gv} {L : Lcs} {S : Store}
/-- a loop that goes on, or tells -/
theorem for_or {f : D → Lcs → Store → R (Fl × Lcs)} (I : Nat → Lcs → Store → Prop) (P : Nat → D → Store → Prop) : ∀ (items : List D) (n : Nat) (L : Lcs) (S : Store), I n L S →
    (∀ i d L S, n ≤ i → items[i - n]? = some d → I i L S → (∃ L' S', f d L S = .ok (.nx, L') S' ∧ I (i + 1) L' S') ∨ ∃ v L' S', f d L S = .ok (.ret v, L') S' ∧ P i v S') →
    (∃ L' S', forLoop f [] items L S = .ok (.nx, L') S' ∧ I (n + items.length) L' S') ∨ ∃ i v L' S', n ≤ i ∧ i < n + items.length ∧ forLoop f [] items L S = .ok (.ret v, L') S' ∧ P i v S'
  | [], n, L, S, h0, _ => .inl ⟨L, S, for_end, h0⟩
  | d :: ds, n, L, S, h0, st => by
    rcases st n d L S (Nat.le_refl _) (by simp) h0 with ⟨L1, S1, e1, i1⟩ | ⟨v, L1, S1, e1, p⟩
    · rcases for_or I P ds (n + 1) L1 S1 i1 (fun i d' L S hi hd hI => st i d' L S (by omega) (by
        have : i - n = (i - (n + 1)) + 1 := by omega
        rw [this]; exact hd) hI) with ⟨L2, S2, e2, i2⟩ | ⟨i, v, L2, S2, h1, h2, e2, p⟩
      · refine .inl ⟨L2, S2, by rw [for_nxt e1]; exact e2, ?_⟩
        rw [List.length_cons]
        have : n + (ds.length + 1) = n + 1 + ds.length := by omega
        rw [this]; exact i2
      · exact .inr ⟨i, v, L2, S2, by omega, by rw [List.length_cons]; omega, by rw [for_nxt e1]; exact e2, p⟩
    · exact .inr ⟨n, v, L1, S1, Nat.le_refl _, by rw [List.length_cons]; omega, for_rt e1, p⟩
end
section
variable {G : Gv} {L : Lcs} {S : Store}
@[simp] theorem ex_raiseF' {x f : Str} {e : CE} : exS G (.raiseF x f e) L S = (evE G e L S).bind fun d S1 => .ok (.xc ⟨x, some (f, d)⟩, L) S1 := rfl
@[simp] theorem ex_raise' {x : Str} : exS G (.raise x) L S = .ok (.xc ⟨x, none⟩, L) S := rfl
@[simp] theorem fin_xc {x : Exn} : fin (.ok (.xc x, L) S) = .exc x S := rfl
@[simp] theorem then_xc {r : CSs} {x : Exn} : thenS G r (.ok (.xc x, L) S) = .ok (.xc x, L) S := rfl
theorem ex_xexp' {f : Nat} {as : CA} {r : CSs} : exS G (.xexp f as r) L S = (evA G as L S).bind fun ds S1 => match G.fn f ds S1 with
    | .ok _ S2 => exS G r L S2
    | .exc x S2 => .ok (.xc x, L) S2
    | .bad => .bad := rfl
theorem ex_xasg {z : Bool} {t : CT} {f : Nat} {as : CA} {r : CSs} : exS G (.xasg z t f as r) L S = (evA G as L S).bind fun ds S1 => match G.fn f ds S1 with
    | .ok d S2 => (if z = true then fz S d S2 else gc S d S2).bind fun d S3 => (ofO (asgT t d S3 L) S3).bind fun L1 S4 => exS G r L1 S4
    | .exc x S2 => .ok (.xc x, L) S2
    | .bad => .bad := rfl
theorem ex_xret {z : Bool} {f : Nat} {as : CA} : exS G (.xret z f as) L S = (evA G as L S).bind fun ds S1 => match G.fn f ds S1 with
    | .ok d S2 => (if z = true then fz S d S2 else gc S d S2).bind fun d S3 => .ok (.ret d, L) S3
    | .exc x S2 => .ok (.xc x, L) S2
    | .bad => .bad := rfl
theorem ex_tryM {b : CSs} {xs : List Str} {hs : List Hd} {r : CSs} : exS G (.tryM b xs hs r) L S = (exS G b L S).bind fun p S1 => match p.1 with
    | .nx => exS G r p.2 S1
    | .xc x => if xs.contains x.cls = true then thenS G r (hdS x hs p.2 S1) else .bad
    | _ => .ok p S1 := rfl
theorem app_end {xs : List D} {d : D} (hz : xs.length < 16777216) : mtD .append (.ref S.length) [d] (S ++ [.lst xs]) = .ok .non (S ++ [.lst (xs ++ [d])]) := by
  rw [app_lst (xs := xs) (by simp) hz]
  simp
theorem ext_end {xs ys : List D} (hz : xs.length + ys.length ≤ 16777216) : mtD .extend (.ref S.length) [.pl ys] (S ++ [.lst xs]) = .ok .non (S ++ [.lst (xs ++ ys)]) := by
  have e : (S ++ [Cell.lst xs])[S.length]? = some (.lst xs) := by simp
  have h : xs.length + ys.length ≤ sizeLine := by rw [sizeLine_eq]; exact hz
  simp only [mtD, e, if_pos h, setC]
  simp
theorem ty_end {xs : List D} : mtTy .append (.ref S.length) (S ++ [.lst xs]) = true := ty_app (xs := xs) (by simp)
theorem ty_extend {xs : List D} : mtTy .extend (.ref S.length) (S ++ [.lst xs]) = true := by
  have e : (S ++ [Cell.lst xs])[S.length]? = some (.lst xs) := by simp
  simp only [mtTy, lstAt, e]; rfl
theorem gc_end {xs : List D} (h : D.ltAll S.length xs = true) : Mi.gc S (.ref S.length) (S ++ [.lst xs]) = .ok (.ref S.length) (S ++ [.lst xs]) := gc_new0 (S := S) (T := [.lst xs]) (m := S.length) (c := .lst xs) (Nat.le_refl _) (by simp) h
theorem gc_end2 {c c' : Cell} {d : D} : Mi.gc (S ++ [c]) d (S ++ [c']) = .ok d (S ++ [c']) := gc_len (by simp)
theorem gc_drop {T : Store} {d : D} (h : d.lt S.length = true) : Mi.gc S d (S ++ T) = .ok d S := gc_kp (Kp.refl S) h
theorem fzv_end {xs : List D} {i : Nat} {c : CSs} (hL : L[i]? = some (some (.ref S.length))) : exS G (.fzv i c) L (S ++ [.lst xs]) = exS G c (L.set i (some (.pl xs))) (S ++ [.ded]) := by
  have e : (S ++ [Cell.lst xs])[S.length]? = some (.lst xs) := by simp
  simp only [exS, hL, e]
  simp
theorem ex_asgN {i : Nat} {e : CE} {c : CSs} (h : i < L.length) : exS G (.asg (.nm i) e c) L S = (evE G e L S).bind fun d S1 => exS G c (L.set i (some d)) S1 := by
  rw [ex_asg]
  congr 1
  funext d S1
  rw [asg_nm, if_pos h]
  rfl
theorem ex_asgT {t : CT} {e : CE} {c : CSs} {d : D} {S1 : Store} {L1 : Lcs} (h : evE G e L S = .ok d S1) (a : asgT t d S1 L = some L1) : exS G (.asg t e c) L S = exS G c L1 S1 := by
  rw [ex_asg, h, R.bind_ok, a]; rfl
theorem ex_ifF {e : CE} {a r : CSs} {S1 : Store} (h : evE G e L S = .ok (.bl false) S1) : exS G (.ifs e a .nil r) L S = exS G r L S1 := by
  rw [ex_ifs, h, R.bind_ok, ifB_f, ex_nil, then_nx]
theorem ex_ifT {e : CE} {a b r : CSs} {S1 : Store} (h : evE G e L S = .ok (.bl true) S1) : exS G (.ifs e a b r) L S = thenS G r (exS G a L S1) := by
  rw [ex_ifs, h, R.bind_ok, ifB_t]
theorem ex_fzvL {n i : Nat} {ds : List D} {c : CSs} (hL : L[i]? = some (some (.ref n))) (e : S[n]? = some (.lst ds)) : exS G (.fzv i c) L S = exS G c (L.set i (some (.pl ds))) (S.set n .ded) := by
  simp only [exS, hL, e]
theorem idx_W {W : List (List Nat)} {n : Nat} (h : n < W.length) : idxD (.pl (W.map fun m => .str (mkS m))) (.int (n : Int)) S = .ok (.str (mkS (wd W n))) S := by
  have e : W[n]? = some W[n] := List.getElem?_eq_getElem h
  show optR (L2.atI _ (n : Int)) S = _
  rw [Mi.atI_nat (x := .str (mkS W[n])) (by rw [List.getElem?_map, e]; rfl)]
  unfold wd
  rw [e]; rfl
@[simp] theorem lt_optS {n : Nat} (o : Option Sy) : (optS o).lt n = true := by cases o <;> simp [optS]
@[simp] theorem lt_optD {n : Nat} (o : Option Int) : (optD o).lt n = true := by cases o <;> simp [optD]
@[simp] theorem lt_byE {n : Nat} (l : List Nat) : (byE l).lt n = true := by unfold byE; cases byP l <;> simp
theorem lt_progL {n : Nat} (W : List (List Nat)) (m : Nat) : D.ltAll n (progL W m) = true := by
  refine ltAll_iff.mpr fun d hd => ?_
  unfold progL at hd
  rcases List.mem_cons.mp hd with rfl | hd
  · simp [linkP]
  · obtain ⟨j, _, rfl⟩ := List.mem_map.mp hd
    simp [linkP]
theorem lt_lawL {n : Nat} (W : List (List Nat)) (m : Nat) : D.ltAll n (lawL W m) = true := by
  refine ltAll_iff.mpr fun d hd => ?_
  obtain ⟨j, _, rfl⟩ := List.mem_map.mp hd
  unfold lawE
  split <;> simp
/-- words of a text -/
structure Ws (W : List (List Nat)) : Prop where
  sn : ∀ w ∈ W, Sn w
  len : ∀ w ∈ W, w.length < 16777000
  many : W.length < 16777000
theorem Ws.at {W : List (List Nat)} (h : Ws W) (n : Nat) : Sn (wd W n) ∧ (wd W n).length < 16777000 := by
  unfold wd
  cases e : W[n]? with
  | none => exact ⟨fun c hc => (by cases hc), (by simp)⟩
  | some w => exact ⟨h.sn w (List.mem_of_getElem? e), h.len w (List.mem_of_getElem? e)⟩
theorem ws_spl {T l : List Nat} (hT : T ≠ []) (h : Sn l) (hl : l.length < 16776900) : Ws (TL.spl T 0 [] l) := by
  have sb := spl_sub hT _ l (Nat.le_refl _)
  have ln := spl_len hT _ l (Nat.le_refl _)
  exact ⟨fun w hw => h.sub (sb w hw).1, fun w hw => by have := (sb w hw).2; omega, by omega⟩
end
def oPy (o : Option Sy) : PyData := match o with
  | some s => .tuple [.str s.nm, .str (srt s.ls), .int s.i]
  | none => .none
theorem toPy_optS (k : Nat) (S : Store) (o : Option Sy) : toPy (k + 2) S (optS o) = some (oPy o) := by
  cases o with
  | none => rfl
  | some s => rfl
theorem oPy_lay {os : List (Option Sy)} (h : ∀ o ∈ os, ∀ s, o = some s → PyData.strOk s.nm = true) : PyData.canLayAll0 (os.map oPy) = true ∧ PyData.depthAll (os.map oPy) ≤ 1 := by
  induction os with
  | nil => exact ⟨rfl, by simp [PyData.depthAll]⟩
  | cons o os ih =>
    obtain ⟨h1, h2⟩ := ih fun p hp => h p (by simp [hp])
    have ho := h o (by simp)
    cases o with
    | none =>
      refine ⟨by simp [oPy, PyData.canLayAll0, PyData.canLay0, h1], ?_⟩
      simp [oPy, PyData.depthAll, PyData.depth]
      exact h2
    | some s =>
      refine ⟨by simp [oPy, PyData.canLayAll0, PyData.canLay0, h1, ho s rfl, ok_srt], ?_⟩
      simp only [oPy, List.map_cons, PyData.depthAll, PyData.depth]
      simp
      omega
theorem none_in {S : Store} {os : List (Option Sy)} (h : ∀ o ∈ os, ∀ s, o = some s → PyData.strOk s.nm = true) : cmpD .In .non (.pl (os.map optS)) S = .ok (.bl (os.any fun o => o.isNone)) S := by
  have e : allSome ((os.map optS).map (toPy 49 S)) = some (os.map oPy) := by
    clear h
    induction os with
    | nil => rfl
    | cons o os ih =>
      rw [List.map_cons, List.map_cons]
      rw [show toPy 49 S (optS o) = some (oPy o) from toPy_optS 47 S o]
      show (allSome ((os.map optS).map (toPy 49 S))).map (oPy o :: ·) = _
      rw [ih]; rfl
  obtain ⟨h1, h2⟩ := oPy_lay h
  have s2 : SeqAt.shaped (.list (os.map oPy)) = true := by
    simp [SeqAt.shaped, PyData.canLay0, PyData.depth, h1]
    omega
  have s1 : SeqAt.shaped .none = true := by simp [SeqAt.shaped, PyData.canLay0, PyData.depth]
  have hd : hasD .non (.pl (os.map optS)) S = some (os.any fun o => o.isNone) := by
    show inD S .non (os.map optS) = _
    unfold inD
    rw [show py S .non = some .none from rfl, e]
    simp only [s1, s2, Bool.and_self, if_true]
    congr 1
    rw [List.any_map]
    congr 1
    funext o
    cases o <;> simp [oPy, Function.comp, PyData.eqv]
  show ofB (hasD _ _ _) _ = _
  rw [hd]; rfl
theorem numV_iS {i : Int} (h0 : -(10 ^ 20) ≤ i) (h1 : i ≤ 10 ^ 20) : numV (iS i).cps.toList = some i := by
  have p : (10 : Nat) ^ 21 = 1000000000000000000000 := by decide
  rcases cases_nat i with ⟨n, rfl⟩ | ⟨n, hn, rfl⟩
  · rw [iS_nn]
    have nl := TL.numL_len (n := n) (k := 21) (by omega) (by omega)
    have ne := TL.numL_ne n
    have dg := TL.numL_digits n
    have hf : figs (TL.numL n) = TL.numL n := by
      refine figs_no fun z => ?_
      cases e : TL.numL n with
      | nil => exact absurd e ne
      | cons a b =>
        rw [e] at z dg
        have := dg a (by simp)
        have : a = 45 := by simpa using z
        omega
    have ha : (TL.numL n).all isD = true := List.all_eq_true.mpr fun c hc => decide_eq_true (dg c hc)
    have h45 : TL.numL n ≠ [45, 48] := fun z => by
      have := dg 45 (by rw [z]; simp)
      omega
    unfold numV
    rw [hf, if_pos ⟨List.length_pos_iff.mpr ne, by omega, ha, numL_head n, h45⟩]
    cases e : TL.numL n with
    | nil => exact absurd e ne
    | cons a b =>
      have := dg a (by rw [e]; simp)
      rw [sgnV_pos (by omega), ← e, TL.numL_val]
  · rw [iS_neg n hn]
    have nl := TL.numL_len (n := n) (k := 21) (by omega) (by omega)
    have ne := TL.numL_ne n
    have dg := TL.numL_digits n
    have ha : (TL.numL n).all isD = true := List.all_eq_true.mpr fun c hc => decide_eq_true (dg c hc)
    have h45 : 45 :: TL.numL n ≠ [45, 48] := fun z => by
      have e : TL.numL n = TL.numL 0 := by rw [show TL.numL 0 = [48] from TL.numL_lt (by omega)]; simpa using z
      have := TL.numL_inj e
      omega
    unfold numV
    rw [show figs (45 :: TL.numL n) = TL.numL n from rfl, if_pos ⟨List.length_pos_iff.mpr ne, by omega, ha, numL_head n, h45⟩]
    show some (-((NumText.digitsVal (TL.numL n) : Nat) : Int)) = _
    rw [TL.numL_val]
theorem par_sy {s : Sy} (h : Nam s.nm) : TL.par (mkL s.ls) [] (syS s).cps.toList = some (s.nm.cps.toList, (iS s.i).cps.toList) := by
  rw [syS_l, mk_mkL]
  unfold mkL
  have no : (if s.ls = true then 62 else 60) ∉ s.nm.cps.toList := fun hm => by
    have := abc_iff _ (h.az _ hm)
    split at this <;> omega
  have := TL.par_part1 (s := if s.ls = true then 62 else 60) (S := [61]) (p := s.nm.cps.toList) (rest := (iS s.i).cps.toList) (acc := []) no
  simpa using this
theorem syP_syS {s : Sy} (h : Nam s.nm) (h0 : -(10 ^ 20) ≤ s.i) (h1 : s.i ≤ 10 ^ 20) : syP (syS s).cps.toList = some s := by
  have hit : syT s.ls (syS s).cps.toList = some s := by
    unfold syT
    rw [par_sy h]
    simp only
    rw [numV_iS h0 h1]
    simp only
    rw [if_pos (nam_nameB h)]
  unfold syP
  cases hl : s.ls with
  | true => rw [hl] at hit; rw [hit]
  | false =>
    rw [hl] at hit
    have miss : syT true (syS s).cps.toList = none := by
      have no : 62 ∉ (syS s).cps.toList := by
        rw [syS_l, mk_mkL, hl]
        simp only [List.mem_append, not_or]
        refine ⟨fun hm => ?_, by simp [mkL], iS_free (by omega)⟩
        have := abc_iff _ (h.az _ hm)
        omega
      unfold syT
      rw [show mkL true = [62, 61] from rfl, TL.par_none1 no]
    rw [miss, hit]
theorem inR_of {i : Int} (h0 : -(10 ^ 20) ≤ i) (h1 : i ≤ 10 ^ 20) : inR i = true := by
  unfold inR
  rw [decide_eq_true h0, decide_eq_true h1]; rfl
theorem syW_syS {s : Sy} (h : Nam s.nm) (h0 : -(10 ^ 20) ≤ s.i) (h1 : s.i ≤ 10 ^ 20) : syW (syS s).cps.toList = some s := by
  rw [syW_eq, syP_syS h h0 h1]
  have : inR s.i = true := inR_of h0 h1
  simp [Option.filter, this]
def byS (i : Int) : Str := if i = -1 then Str.ofString "=" else iS i
theorem eqs_l : (Str.ofString "=").cps.toList = [61] := by decide +kernel
theorem byV_byS {i : Int} (h0 : -1 ≤ i) (h1 : i ≤ 39) : byV (byS i).cps.toList = some i := by
  unfold byS
  by_cases h : i = -1
  · rw [if_pos h, eqs_l]
    simp [byV, byP, h]
  · rw [if_neg h]
    obtain ⟨n, rfl⟩ : ∃ n : Nat, i = n := ⟨i.toNat, by omega⟩
    have nv := numV_iS (i := (n : Int)) (by omega) (by omega)
    rw [iS_nn] at nv ⊢
    have ne := TL.numL_ne n
    have dg := TL.numL_digits n
    have h61 : TL.numL n ≠ [61] := fun z => by have := dg 61 (by rw [z]; simp); omega
    have h45 : (TL.numL n).take 1 ≠ [45] := fun z => by
      have := dg 45 (List.mem_of_mem_take (i := 1) (by rw [z]; simp))
      omega
    unfold byV byP
    rw [if_neg h61, if_neg h45, nv]
    simp only
    rw [if_pos ⟨by omega, h1⟩]
def lkD (s : Sy) (b : D) : D := .tup [syD s, b]
def chD (s : Sy) (r : List (Sy × Int)) : List D := lkD s .non :: r.map fun p => lkD p.1 (.int p.2)
def chW (s : Sy) (r : List (Sy × Int)) : List Str := syS s :: r.flatMap fun p => [byS p.2, syS p.1]
def chT (s : Sy) (r : List (Sy × Int)) : Str := Txt.join spS (chW s r)
structure LkOk (s : Sy) : Prop where
  nm : Nam s.nm
  lo : -(10 ^ 20) ≤ s.i
  hi : s.i ≤ 10 ^ 20
structure ChOk (s : Sy) (r : List (Sy × Int)) : Prop where
  s0 : LkOk s
  rs : ∀ p ∈ r, LkOk p.1 ∧ -1 ≤ p.2 ∧ p.2 ≤ 39
  len : r.length ≤ 2001
theorem flat2 {α β : Type} (f g : α → β) : ∀ (r : List α) (j : Nat), (r.flatMap fun p => [f p, g p])[2 * j]? = (r[j]?).map f ∧ (r.flatMap fun p => [f p, g p])[2 * j + 1]? = (r[j]?).map g
  | [], j => by simp
  | p :: r, 0 => by simp
  | p :: r, j + 1 => by
    obtain ⟨h1, h2⟩ := flat2 f g r j
    rw [List.flatMap_cons]
    constructor
    · rw [show 2 * (j + 1) = 2 * j + 2 by omega]
      simpa using h1
    · rw [show 2 * (j + 1) + 1 = (2 * j + 1) + 2 by omega]
      simpa using h2
theorem chW_len (s : Sy) (r : List (Sy × Int)) : (chW s r).length = 2 * r.length + 1 := by
  unfold chW
  rw [List.length_cons, List.length_flatMap]
  have : (r.map fun p => [byS p.2, syS p.1].length) = List.replicate r.length 2 := by
    rw [List.eq_replicate_iff]
    exact ⟨by simp, fun b hb => by obtain ⟨_, _, rfl⟩ := List.mem_map.mp hb; rfl⟩
  have sr : ∀ n : Nat, (List.replicate n 2).sum = 2 * n := by
    intro n
    induction n with
    | zero => rfl
    | succ n ih => rw [List.replicate_succ, List.sum_cons, ih]; omega
  rw [this, sr]
theorem byS_wd {i : Int} (h0 : -1 ≤ i) (h1 : i ≤ 39) : Wd (byS i) := by
  unfold byS
  split
  · exact wd_of (by decide +kernel)
  · exact wd_iS (by omega) (by omega)
theorem chW_wd {s : Sy} {r : List (Sy × Int)} (h : ChOk s r) : ∀ x ∈ chW s r, Wd x := by
  intro x hx
  unfold chW at hx
  rcases List.mem_cons.mp hx with rfl | hx
  · exact wd_sy h.s0.nm h.s0.lo h.s0.hi
  · obtain ⟨p, hp, hx⟩ := List.mem_flatMap.mp hx
    obtain ⟨a, b, c⟩ := h.rs p hp
    simp only [List.mem_cons, List.not_mem_nil, or_false] at hx
    rcases hx with rfl | rfl
    · exact byS_wd b c
    · exact wd_sy a.nm a.lo a.hi
theorem spl_chT {s : Sy} {r : List (Sy × Int)} (h : ChOk s r) : TL.spl [32] 0 [] (chT s r).cps.toList = (chW s r).map fun x => x.cps.toList := by
  unfold chT
  rw [TL.join_eq]
  rw [show (Str.join spS (chW s r)).cps.toList = TL.tl (Str.join spS (chW s r)) from rfl, TL.tl_join, show TL.tl spS = [32] from sp_l]
  refine TL.spl_join (by simp [chW]) fun p hp => ?_
  obtain ⟨x, hx, rfl⟩ := List.mem_map.mp hp
  intro hm
  have := (chW_wd h x hx).c 32 hm
  omega
theorem chT_len {s : Sy} {r : List (Sy × Int)} (h : ChOk s r) : (chT s r).length ≤ 300000 := by
  have := join_len (a := spS) (b := 64) (ys := chW s r) fun y hy => (chW_wd h y hy).len
  have l1 := chW_len s r
  have l2 := h.len
  have l3 : spS.length = 1 := by rw [str_len, sp_l]; rfl
  unfold chT
  rw [l3] at this
  omega
theorem chT_sn {s : Sy} {r : List (Sy × Int)} (h : ChOk s r) : Sn (chT s r).cps.toList := fun c hc => by
  rcases Nat.lt_or_ge c 1114112 with q | q
  · exact q
  · exfalso
    have : c ∉ (Txt.join spS (chW s r)).cps.toList := mem_join (by rw [sp_l]; simp; omega) fun y hy hm => by
      have := (chW_wd h y hy).c c hm
      omega
    exact this hc
/-- what is written is read back -/
theorem read_chT {s : Sy} {r : List (Sy × Int)} (h : ChOk s r) (hl : r.length ≤ 1999) : readV (TL.spl [32] 0 [] (chT s r).cps.toList) = some (chD s r) := by
  rw [spl_chT h]
  generalize hW : ((chW s r).map fun x => x.cps.toList) = W
  have wl : W.length = 2 * r.length + 1 := by rw [← hW, List.length_map, chW_len]
  have w0 : wd W 0 = (syS s).cps.toList := by
    unfold wd; rw [← hW]; rfl
  have wj : ∀ (j : Nat) (p : Sy × Int), r[j]? = some p → wd W (2 * j + 1) = (byS p.2).cps.toList ∧ wd W (2 * j + 2) = (syS p.1).cps.toList := by
    intro j p hj
    obtain ⟨f1, f2⟩ := flat2 (fun p : Sy × Int => byS p.2) (fun p => syS p.1) r j
    rw [hj] at f1 f2
    unfold wd
    rw [← hW]
    constructor
    · rw [List.getElem?_map]
      unfold chW
      rw [List.getElem?_cons_succ, f1]; rfl
    · rw [List.getElem?_map]
      unfold chW
      rw [show 2 * j + 2 = (2 * j + 1) + 1 from rfl, List.getElem?_cons_succ, f2]; rfl
  have m2 : W.length / 2 = r.length := by omega
  have g : goodV W r.length = true := by
    unfold goodV
    rw [List.all_eq_true]
    intro j hj
    cases j with
    | zero =>
      rw [show 2 * 0 = 0 from rfl, w0, syW_syS h.s0.nm h.s0.lo h.s0.hi]; rfl
    | succ j =>
      have hj' : j < r.length := by simp at hj; omega
      obtain ⟨a, b⟩ := wj j r[j] (List.getElem?_eq_getElem hj')
      obtain ⟨p1, p2, p3⟩ := h.rs r[j] (List.getElem_mem hj')
      rw [show 2 * (j + 1) = 2 * j + 2 by omega, show 2 * j + 2 - 1 = 2 * j + 1 by omega, a, b, syW_syS p1.nm p1.lo p1.hi, byV_byS p2 p3]
      simp
  unfold readV
  rw [if_neg (by omega), m2, if_pos g]
  congr 1
  unfold lawL chD
  rw [range_succ_map]
  congr 1
  · unfold lawE
    rw [show 2 * 0 = 0 from rfl, w0, syW_syS h.s0.nm h.s0.lo h.s0.hi]; rfl
  · refine List.ext_getElem? fun j => ?_
    rw [List.getElem?_map, List.getElem?_map]
    by_cases hj' : j < r.length
    · rw [List.getElem?_range hj', List.getElem?_eq_getElem hj']
      obtain ⟨a, b⟩ := wj j r[j] (List.getElem?_eq_getElem hj')
      obtain ⟨p1, p2, p3⟩ := h.rs r[j] (List.getElem_mem hj')
      show some (lawE W (j + 1)) = some _
      unfold lawE
      rw [if_neg (by omega), show 2 * (j + 1) = 2 * j + 2 by omega, show 2 * j + 2 - 1 = 2 * j + 1 by omega, a, b, syW_syS p1.nm p1.lo p1.hi, byV_byS p2 p3]
      rfl
    · rw [List.getElem?_eq_none (by simp; omega), List.getElem?_eq_none (by omega)]; rfl
theorem lt_chD {n : Nat} (s : Sy) (r : List (Sy × Int)) : D.ltAll n (chD s r) = true := by
  refine ltAll_iff.mpr fun d hd => ?_
  unfold chD at hd
  rcases List.mem_cons.mp hd with rfl | hd
  · simp [lkD]
  · obtain ⟨p, _, rfl⟩ := List.mem_map.mp hd
    simp [lkD]
theorem chD_len (s : Sy) (r : List (Sy × Int)) : (chD s r).length = r.length + 1 := by simp [chD]
theorem okD_sy {s : Sy} (h : Nam s.nm) : okD 4 (syD s) = true := by
  show ([D.str s.nm, .str (srt s.ls), .int s.i].all (okD 3)) = true
  have l1 := h.len
  have l2 : (srt s.ls).length < 16777000 := by cases s.ls <;> decide +kernel
  simp [okD, h.ok, ok_srt, l2]
  omega
theorem okD_chD {s : Sy} {r : List (Sy × Int)} (h : ChOk s r) : ∀ x ∈ chD s r, okD 5 x = true := by
  intro x hx
  unfold chD at hx
  rcases List.mem_cons.mp hx with rfl | hx
  · show ([syD s, .non].all (okD 4)) = true
    simp [okD_sy h.s0.nm, okD]
  · obtain ⟨p, hp, rfl⟩ := List.mem_map.mp hx
    show ([syD p.1, .int p.2].all (okD 4)) = true
    simp [okD_sy (h.rs p hp).1.nm, okD]
theorem link0_ok {s : Sy} (h : LkOk s) : linkB true (lkD s .non) = true := by
  show (sayB (syD s) && true) = true
  rw [sayB_sy h.nm, inR_of h.lo h.hi]; rfl
theorem link1_ok {s : Sy} {i : Int} (h : LkOk s) (h0 : -1 ≤ i) (h1 : i ≤ 39) : linkB false (lkD s (.int i)) = true := by
  show (sayB (syD s) && (decide (-1 ≤ i) && decide (i ≤ 39))) = true
  rw [sayB_sy h.nm, inR_of h.lo h.hi, decide_eq_true h0, decide_eq_true h1]; rfl
theorem links_ok {s : Sy} {r : List (Sy × Int)} (h : ChOk s r) : linksB (chD s r) = decide (r.length ≤ 1999) := by
  have t : linksT (chD s r) = true := by
    show (linkB true (lkD s .non) && (r.map fun p => lkD p.1 (.int p.2)).all (linkB false)) = true
    rw [link0_ok h.s0, Bool.true_and, List.all_eq_true]
    intro x hx
    obtain ⟨p, hp, rfl⟩ := List.mem_map.mp hx
    obtain ⟨a, b, c⟩ := h.rs p hp
    exact link1_ok a b c
  unfold linksB
  rw [t, chD_len]
  simp <;> omega
/-- behind a statement -/
def nxt : CSs → CSs
  | .asg _ _ r => r
  | .for_ _ _ _ r => r
  | .ifs _ _ _ r => r
  | .fzv _ r => r
  | .exp _ r => r
  | r => r
theorem repr_two {k w : Nat} {ds : List D} (h : VwR (k + 1) (.pl ds) w) (hk : k + 1 ≤ 50) (hw : w ≤ 16777216) : ∃ z : Str, PyData.strOk z = true ∧ (∀ S : Store, biD .repr [.pl ds] S = .ok (.str z) S) ∧ ∀ (S : Store) (n : Nat), S[n]? = some (.lst ds) → biD .repr [.ref n] S = .ok (.str z) S := by
  obtain ⟨q, h1, h2, h3, h4⟩ := h
  have e50 : 49 - k + (k + 1) = 50 := by omega
  have p1 : ∀ S : Store, py S (.pl ds) = some q := fun S => by have := h1 (49 - k) S; rwa [e50] at this
  have z1 : sizeOk q.shown.length = true := sizeOk_le (by omega)
  refine ⟨q.shown, h4, fun S => ?_, fun S n e => ?_⟩
  · show (match py S (.pl ds) with
      | some p => if p.showable = true ∧ sizeOk p.shown.length = true then R.ok (D.str p.shown) S else .bad
      | none => .bad) = _
    rw [p1 S]
    exact if_pos ⟨h2, z1⟩
  · have p2 : py S (.ref n) = some q := by
      rw [← p1 S]
      show toPy (49 + 1) S (.ref n) = toPy (49 + 1) S (.pl ds)
      simp only [toPy, e]
    show (match py S (.ref n) with
      | some p => if p.showable = true ∧ sizeOk p.shown.length = true then R.ok (D.str p.shown) S else .bad
      | none => .bad) = _
    rw [p2]
    exact if_pos ⟨h2, z1⟩
theorem vw_link {s : Sy} {b : D} (h : LkOk s) (hb : b = .non ∨ ∃ i : Int, b = .int i ∧ -1 ≤ i ∧ i ≤ 39) : VwR 2 (lkD s b) 2000 := by
  refine vw_tup (k := 1) (v := 800) (fun d hd => ?_) (by simp)
  simp only [List.mem_cons, List.not_mem_nil, or_false] at hd
  rcases hd with rfl | rfl
  · exact (vw_sy h.nm h.lo h.hi).mono (by omega)
  · rcases hb with rfl | ⟨i, rfl, h0, h1⟩
    · exact vw_non (by omega)
    · exact vw_int (by omega) (by omega) (by omega)
theorem vw_chD {s : Sy} {r : List (Sy × Int)} (h : ChOk s r) : VwR 3 (.pl (chD s r)) 4100000 := by
  have hl := h.len
  refine vw_pl (k := 2) (v := 2000) (fun d hd => ?_) (by rw [chD_len]; omega)
  unfold chD at hd
  rcases List.mem_cons.mp hd with rfl | hd
  · exact vw_link h.s0 (.inl rfl)
  · obtain ⟨p, hp, rfl⟩ := List.mem_map.mp hd
    obtain ⟨a, b, c⟩ := h.rs p hp
    exact vw_link a (.inr ⟨_, rfl, b, c⟩)
theorem inR_is {i : Int} (h : inR i = true) : -(10 ^ 20) ≤ i ∧ i ≤ 10 ^ 20 := by
  unfold inR at h
  rw [Bool.and_eq_true] at h
  exact ⟨of_decide_eq_true h.1, of_decide_eq_true h.2⟩
theorem syW_ok {w : List Nat} {s : Sy} (h : syW w = some s) : LkOk s := by
  rw [syW_eq] at h
  cases e : syP w with
  | none => rw [e] at h; cases h
  | some s2 =>
    rw [e] at h
    simp only [Option.filter] at h
    split at h
    · rename_i hr
      cases h
      obtain ⟨a, b⟩ := inR_is hr
      exact ⟨syP_nam e, a, b⟩
    · cases h
theorem byV_ok {w : List Nat} {i : Int} (h : byV w = some i) : -1 ≤ i ∧ i ≤ 39 := by
  unfold byV at h
  split at h
  · split at h
    · cases h; assumption
    · cases h
  · cases h
theorem vw_read {W : List (List Nat)} {ds : List D} (h : readV W = some ds) : VwR 3 (.pl ds) 4100000 ∧ ∀ n, D.ltAll n ds = true := by
  unfold readV at h
  split at h
  · cases h
  · rename_i hc
    split at h
    · rename_i hg
      cases h
      refine ⟨vw_pl (k := 2) (v := 2000) (fun d hd => ?_) (by simp [lawL]; omega), fun n => lt_lawL _ _⟩
      obtain ⟨j, hj, rfl⟩ := List.mem_map.mp hd
      unfold goodV at hg
      have := List.all_eq_true.mp hg j hj
      rw [Bool.and_eq_true] at this
      obtain ⟨g1, g2⟩ := this
      unfold lawE
      cases e : syW (wd W (2 * j)) with
      | none => rw [e] at g1; cases g1
      | some s =>
        by_cases h0 : j = 0
        · rw [if_pos h0]
          exact vw_link (syW_ok e) (.inl rfl)
        · rw [if_neg h0]
          rw [decide_eq_false h0, Bool.false_or] at g2
          cases e2 : byV (wd W (2 * j - 1)) with
          | none => rw [e2] at g2; cases g2
          | some i =>
            obtain ⟨a, b⟩ := byV_ok e2
            exact vw_link (syW_ok e) (.inr ⟨i, rfl, a, b⟩)
    · cases h
theorem read_many {s : Sy} {r : List (Sy × Int)} (h : ChOk s r) (hl : ¬ r.length ≤ 1999) : readV (TL.spl [32] 0 [] (chT s r).cps.toList) = none := by
  rw [spl_chT h]
  unfold readV
  rw [if_pos (.inr (by rw [List.length_map, chW_len]; omega))]
theorem read_nil : readV (TL.spl [32] 0 [] []) = none := by decide +kernel
theorem clr_end {S : Store} {xs : List D} : mtD .clear (.ref S.length) [] (S ++ [.lst xs]) = .ok .non (S ++ [.lst []]) := by
  have e : (S ++ [Cell.lst xs])[S.length]? = some (.lst xs) := by simp
  simp only [mtD, e, setC]
  simp
theorem ty_clr {S : Store} {xs : List D} : mtTy .clear (.ref S.length) (S ++ [.lst xs]) = true := by
  have e : (S ++ [Cell.lst xs])[S.length]? = some (.lst xs) := by simp
  simp only [mtTy, lstAt, e]; rfl
theorem Pn.put {p n : Nat} {cs : List Int} {t r : Int} {S : Store} {c : Cell} (h : Pn p cs t r S) (hn : n ≠ p) : Pn p cs t r (S.set n c) := by
  unfold Pn
  rw [List.getElem?_set_ne hn]; exact h
theorem eqv_self {S : Store} {d : D} {q : PyData} (h : py S d = some q) (sh : SeqAt.shaped q = true) (he : PyData.eqv q q = true) (hn : nilB S d d = none) : cmpD .NotEq d d S = .ok (.bl false) S := by
  show ofB ((eqX S d d).map (!·)) S = _
  unfold eqX
  rw [hn]
  simp only [eqD, h, sh, Bool.and_self, if_true, he]
  rfl
theorem ne_row {S : Store} : cmpD .NotEq (.tup [.str (Str.ofString "row"), .int 0]) (.tup [.str (Str.ofString "row"), .int 0]) S = .ok (.bl false) S := by
  refine eqv_self (q := .tuple [.str (Str.ofString "row"), .int 0]) rfl (by decide +kernel) (by decide +kernel) rfl
theorem ne_self {x : Str} {S : Store} (h : PyData.strOk x = true) : cmpD .NotEq (.str x) (.str x) S = .ok (.bl false) S := by
  rw [ne_str h h, beq_self_eq_true]; rfl
end Mi
namespace K71
open PySem L2 Mi
def top (i : Nat) : Stmt := PySem.Challenge.pw_pawldials_k71_chains_written_and_read.main.body.getD i (.Pass ⟨0, 0, 0, 0⟩)
def fns : List (Str × Nat) := [(("is_whole" : Str), 0), (("is_from" : Str), 1), (("is_tuple" : Str), 2), (("is_name" : Str), 3), (("is_saying" : Str), 4), (("number_in" : Str), 5), (("saying_text" : Str), 6), (("saying_in" : Str), 7), (("is_any_saying" : Str), 8), (("is_link" : Str), 9), (("has_links" : Str), 10), (("by_text" : Str), 11), (("by_in" : Str), 12), (("links_text" : Str), 13), (("links_in" : Str), 14), (("show_chain" : Str), 15), (("read_chain" : Str), 16), (("_law_pen" : Str), 17), (("_law_draw" : Str), 18), (("_law_pick" : Str), 19), (("_law_show_saying" : Str), 20), (("_law_show_chain" : Str), 21), (("_law_saying" : Str), 22), (("_law_read_number" : Str), 23), (("_law_read_saying" : Str), 24), (("_law_due" : Str), 25), (("_law_told" : Str), 26), (("_law_bent" : Str), 27), (("_law_word" : Str), 28), (("_law_odd" : Str), 29), (("law" : Str), 30)]
def cts : List (Str × Nat) := [(("LETTERS" : Str), 0), (("FARTHEST" : Str), 1), (("MOST_LETTERS" : Str), 2), (("SORTS" : Str), 3), (("FIGURES" : Str), 4), (("MOST_FIGURES" : Str), 5), (("MOST_LINKS" : Str), 6), (("MOST_BY" : Str), 7), (("GIVEN" : Str), 8)]
def asked : List (List Str × List Str) := []
def nm : Nm := ⟨fun x => fns.lookup x, fun x => cts.lookup x, ["len", "isinstance", "abs", "all", "list", "tuple", "str", "int", "repr", "bool", "range", "enumerate"], ["NoChain"], ["show_chain", "_law_word", "read_chain"], fun ys => asked.lookup ys, [], [("NoText", "row")], [("MARKS", [("least", ">="), ("most", "<=")])], [2300780113, 3600560093, 6400150072, 7300220031, 7400210055, 9000120027, 9900120034, 11900330062, 12200370051, 12300260105, 12600240113, 12700430095, 12701240134, 12800480065, 13100430117, 13101210123, 13600210047, 13900280119, 14000410043, 14400300050, 15400270089, 16500290049, 17200200116, 16800240069, 17000240069, 17400240084, 16800240043, 16800460069, 17000240047, 17000500069, 17400240058, 17400610084, 17600580098, 17400240043, 17400460058, 19100160122, 18800160018, 18800500052, 18800540072, 18800740111, 18801130152, 18900200059, 19000260177, 19200200119, 19300360129, 18800870111, 18801260152, 18900330059, 19000270067, 19000690096, 19000980138, 19001400176, 19101030108, 19200210054, 19300470129, 19000400067, 19001110138, 19001530176, 19200340054, 19200760118, 19300480088, 19300900128, 19001540175, 19200880118, 19300610088, 19301030128, 20100250039, 20100420108, 20100420069, 21900460086, 21900560058], [(7500040016, 1), (12400040031, 1), (15400040105, 2), (19300040130, 3), (20200080111, 3)], [(("NoText" : Str), (["NoText"] : List Str)), (("DialError" : Str), (["NoChain", "NoText"] : List Str)), (("NoChain" : Str), (["NoChain"] : List Str))], [15800210042], [], [], []⟩
/-- is_whole(thing) -/
def n0 : List Str := ["thing"]
/-- is_from(thing, low, high) -/
def n1 : List Str := ["thing", "low", "high"]
/-- is_tuple(thing, low, high) -/
def n2 : List Str := ["thing", "low", "high"]
/-- is_name(thing) -/
def n3 : List Str := ["thing", "sign"]
/-- is_saying(thing, names) -/
def n4 : List Str := ["thing", "names"]
/-- number_in(text) -/
def n5 : List Str := ["text", "figures", "sign"]
/-- saying_text(saying) -/
def n6 : List Str := ["saying", "name", "sort", "number"]
/-- saying_in(text) -/
def n7 : List Str := ["text", "sort", "mark", "name", "sign", "figures", "number"]
/-- is_any_saying(thing) -/
def n8 : List Str := ["thing"]
/-- is_link(thing, first) -/
def n9 : List Str := ["thing", "first"]
/-- has_links(thing) -/
def n10 : List Str := ["thing", "at", "link"]
/-- by_text(by) -/
def n11 : List Str := ["by"]
/-- by_in(text) -/
def n12 : List Str := ["text"]
/-- links_text(links) -/
def n13 : List Str := ["links", "found", "saying", "by"]
/-- links_in(words) -/
def n14 : List Str := ["words", "found", "k", "by"]
/-- show_chain(chain) -/
def n15 : List Str := ["chain"]
/-- read_chain(text) -/
def n16 : List Str := ["text", "words", "found"]
/-- _law_pen(_law_script) -/
def n17 : List Str := ["_law_script"]
/-- _law_draw(_law_pen_here, _law_many) -/
def n18 : List Str := ["_law_pen_here", "_law_many", "_law_found", "_law_at", "_law_cell", "_law_number"]
/-- _law_pick(_law_pen_here, _law_lot) -/
def n19 : List Str := ["_law_pen_here", "_law_lot"]
/-- _law_show_saying(_law_saying_here) -/
def n20 : List Str := ["_law_saying_here"]
/-- _law_show_chain(_law_chain) -/
def n21 : List Str := ["_law_chain", "_law_words", "_law_saying_here", "_law_by"]
/-- _law_saying(_law_pen_here) -/
def n22 : List Str := ["_law_pen_here", "_law_name", "_law_k", "_law_number"]
/-- _law_read_number(_law_text) -/
def n23 : List Str := ["_law_text", "_law_figures", "_law_sign"]
/-- _law_read_saying(_law_text) -/
def n24 : List Str := ["_law_text", "_law_sort", "_law_mark", "_law_parts", "_law_number", "_law_odd_here", "_law_sign", "_law_good"]
/-- _law_due(_law_text) -/
def n25 : List Str := ["_law_text", "_law_words", "_law_found", "_law_k", "_law_by", "_law_saying_here"]
/-- _law_told(_law_text) -/
def n26 : List Str := ["_law_text", "_law_found", "e"]
/-- _law_bent(_law_pen_here, _law_text) -/
def n27 : List Str := ["_law_pen_here", "_law_text", "_law_words", "_law_turn", "_law_k", "_law_some", "_law_fresh", "_law_at"]
/-- _law_word(_law_thing) -/
def n28 : List Str := ["_law_thing", "_law_found"]
/-- _law_odd(_law_pen_here, _law_chain) -/
def n29 : List Str := ["_law_pen_here", "_law_chain", "_law_saying_here", "_law_lot", "_law_some", "_law_odd_here"]
/-- law(_law_script) -/
def n30 : List Str := ["_law_script", "_law_pen_here", "_law_turn", "_law_chain", "_law_k", "_law_due_here", "_law_text", "_law_told_here", "_law_again", "_law_some"]
def c0 : CF := ⟨1, 1, (.ret (.and (.bi .isi (.cons (.loc 0) (.cons (.cst (.sta (.ty "int"))) .nil))) (.not (.bi .isi (.cons (.loc 0) (.cons (.cst (.sta (.ty "bool"))) .nil))))))⟩
def c1 : CF := ⟨3, 3, (.ret (.and (.call 0 (.cons (.loc 0) .nil)) (.chn .LtE .LtE (.loc 1) (.loc 0) (.loc 2))))⟩
def c2 : CF := ⟨3, 3, (.ret (.and (.bi .isi (.cons (.loc 0) (.cons (.cst (.sta (.ty "tuple"))) .nil))) (.chn .LtE .LtE (.loc 1) (.bi .len (.cons (.loc 0) .nil)) (.loc 2))))⟩
def c3 : CF := ⟨1, 2, (.ret (.and (.bi .isi (.cons (.loc 0) (.cons (.cst (.sta (.ty "str"))) .nil))) (.and (.chn .LtE .LtE (.cst (.int 1)) (.bi .len (.cons (.loc 0) .nil)) (.glb 2)) (.bi .all (.cons (.fz (.lc [1] (.nm 1) (.val (.loc 0)) (.cst (.bl true)) (.cmp .In (.loc 1) (.glb 0)))) .nil)))))⟩
def c4 : CF := ⟨2, 2, (.ifs (.or (.not (.call 2 (.cons (.loc 0) (.cons (.cst (.int 3)) (.cons (.cst (.int 3)) .nil))))) (.or (.not (.call 3 (.cons (.idx (.loc 0) (.cst (.int 0))) .nil))) (.cmp .NotIn (.idx (.loc 0) (.cst (.int 0))) (.loc 1)))) (.ret (.cst (.bl false))) .nil (.ifs (.or (.not (.bi .isi (.cons (.idx (.loc 0) (.cst (.int 1))) (.cons (.cst (.sta (.ty "str"))) .nil)))) (.cmp .NotIn (.idx (.loc 0) (.cst (.int 1))) (.glb 3))) (.ret (.cst (.bl false))) .nil (.ret (.call 1 (.cons (.idx (.loc 0) (.cst (.int 2))) (.cons (.bin .Sub (.cst (.int 0)) (.glb 1)) (.cons (.glb 1) .nil)))))))⟩
def c5 : CF := ⟨1, 3, (.asg (.nm 1) (.ite (.cmp .Eq (.slc (.loc 0) false (.cst .non) true (.cst (.int 1))) (.cst (.str "-"))) (.slc (.loc 0) true (.cst (.int 1)) false (.cst .non)) (.loc 0)) (.ifs (.or (.not (.chn .LtE .LtE (.cst (.int 1)) (.bi .len (.cons (.loc 1) .nil)) (.glb 5))) (.not (.bi .all (.cons (.fz (.lc [2] (.nm 2) (.val (.loc 1)) (.cst (.bl true)) (.cmp .In (.loc 2) (.glb 4)))) .nil)))) (.ret (.cst .non)) .nil (.ifs (.or (.cmp .NotEq (.bi .str (.cons (.bi .int (.cons (.loc 1) .nil)) .nil)) (.loc 1)) (.cmp .Eq (.loc 0) (.cst (.str "-0")))) (.ret (.cst .non)) .nil (.ret (.bi .int (.cons (.loc 0) .nil))))))⟩
def c6 : CF := ⟨1, 4, (.asg (.tp [(.nm 1), (.nm 2), (.nm 3)]) (.loc 0) (.ret (.fst (.cons (.loc 1) (.cons (.dix [("least", ">="), ("most", "<=")] (.loc 2)) (.cons (.loc 3) .nil))))))⟩
def c7 : CF := ⟨1, 7, (.for_ (.tp [(.nm 1), (.nm 2)]) (.dit [("least", ">="), ("most", "<=")]) (.asg (.tp [(.nm 3), (.nm 4), (.nm 5)]) (.mth .partition (.loc 0) (.cons (.loc 2) .nil)) (.asg (.nm 6) (.ite (.cmp .NotEq (.loc 4) (.cst (.str ""))) (.call 5 (.cons (.loc 5) .nil)) (.cst .non)) (.ifs (.and (.cmp .IsNot (.loc 6) (.cst .non)) (.call 3 (.cons (.loc 3) .nil))) (.ret (.tup (.cons (.loc 3) (.cons (.loc 1) (.cons (.loc 6) .nil))))) .nil .nil))) (.ret (.cst .non)))⟩
def c8 : CF := ⟨1, 1, (.ret (.and (.call 2 (.cons (.loc 0) (.cons (.cst (.int 3)) (.cons (.cst (.int 3)) .nil)))) (.and (.call 3 (.cons (.idx (.loc 0) (.cst (.int 0))) .nil)) (.call 4 (.cons (.loc 0) (.cons (.tup (.cons (.idx (.loc 0) (.cst (.int 0))) .nil)) .nil))))))⟩
def c9 : CF := ⟨2, 2, (.ifs (.or (.not (.call 2 (.cons (.loc 0) (.cons (.cst (.int 2)) (.cons (.cst (.int 2)) .nil))))) (.not (.call 8 (.cons (.idx (.loc 0) (.cst (.int 0))) .nil)))) (.ret (.cst (.bl false))) .nil (.ret (.ite (.loc 1) (.cmp .Is (.idx (.loc 0) (.cst (.int 1))) (.cst .non)) (.call 1 (.cons (.idx (.loc 0) (.cst (.int 1))) (.cons (.neg (.cst (.int 1))) (.cons (.glb 7) .nil)))))))⟩
def c10 : CF := ⟨1, 3, (.ifs (.or (.not (.bi .isi (.cons (.loc 0) (.cons (.cst (.sta (.ty "list"))) .nil)))) (.not (.chn .LtE .LtE (.cst (.int 1)) (.bi .len (.cons (.loc 0) .nil)) (.glb 6)))) (.ret (.cst (.bl false))) .nil (.ret (.bi .all (.cons (.fz (.lc [1, 2] (.tp [(.nm 1), (.nm 2)]) (.enu (.loc 0)) (.cst (.bl true)) (.call 9 (.cons (.loc 2) (.cons (.cmp .Eq (.loc 1) (.cst (.int 0))) .nil))))) .nil))))⟩
def c11 : CF := ⟨1, 1, (.ret (.ite (.cmp .Eq (.loc 0) (.neg (.cst (.int 1)))) (.glb 8) (.bi .str (.cons (.loc 0) .nil))))⟩
def c12 : CF := ⟨1, 1, (.ifs (.cmp .Eq (.loc 0) (.glb 8)) (.ret (.neg (.cst (.int 1)))) .nil (.ret (.ite (.cmp .NotEq (.slc (.loc 0) false (.cst .non) true (.cst (.int 1))) (.cst (.str "-"))) (.call 5 (.cons (.loc 0) .nil)) (.cst .non))))⟩
def c13 : CF := ⟨1, 4, (.asg (.nm 1) (.lst (.cons (.call 6 (.cons (.idx (.idx (.loc 0) (.cst (.int 0))) (.cst (.int 0))) .nil)) .nil)) (.for_ (.tp [(.nm 2), (.nm 3)]) (.val (.fz (.slc (.loc 0) true (.cst (.int 1)) false (.cst .non)))) (.exp (.mth .extend (.loc 1) (.cons (.fz (.lst (.cons (.call 11 (.cons (.loc 3) .nil)) (.cons (.call 6 (.cons (.loc 2) .nil)) .nil)))) .nil)) .nil) (.fzv 1 (.ret (.loc 1)))))⟩
def c14 : CF := ⟨1, 4, (.asg (.nm 1) (.lst (.cons (.tup (.cons (.call 7 (.cons (.idx (.loc 0) (.cst (.int 0))) .nil)) (.cons (.cst .non) .nil))) .nil)) (.for_ (.nm 2) (.rng (.cons (.cst (.int 1)) (.cons (.bin .Sub (.bi .len (.cons (.loc 0) .nil)) (.cst (.int 1))) (.cons (.cst (.int 2)) .nil)))) (.asg (.nm 3) (.call 12 (.cons (.idx (.loc 0) (.loc 2)) .nil)) (.exp (.mth .append (.loc 1) (.cons (.tup (.cons (.call 7 (.cons (.idx (.loc 0) (.bin .Add (.loc 2) (.cst (.int 1)))) .nil)) (.cons (.ite (.cmp .Is (.loc 3) (.cst .non)) (.cst (.str "")) (.loc 3)) .nil))) .nil)) .nil)) (.ret (.loc 1))))⟩
def c15 : CF := ⟨1, 1, (.ifs (.not (.call 10 (.cons (.loc 0) .nil))) (.raise "NoChain") .nil (.ret (.mth .join (.cst (.str " ")) (.cons (.call 13 (.cons (.loc 0) .nil)) .nil))))⟩
def c16 : CF := ⟨1, 3, (.ifs (.not (.bi .isi (.cons (.loc 0) (.cons (.cst (.sta (.ty "str"))) .nil)))) (.raiseF "NoText" "row" (.cst (.int 0))) .nil (.asg (.nm 1) (.fz (.mth .split (.loc 0) (.cons (.cst (.str " ")) .nil))) (.ifs (.or (.cmp .Eq (.bin .Mod (.bi .len (.cons (.loc 1) .nil)) (.cst (.int 2))) (.cst (.int 0))) (.cmp .Gt (.bi .len (.cons (.loc 1) .nil)) (.bin .Sub (.bin .Mult (.cst (.int 2)) (.glb 6)) (.cst (.int 1))))) (.raiseF "NoText" "row" (.cst (.int 0))) .nil (.asg (.nm 2) (.call 14 (.cons (.loc 1) .nil)) (.ifs (.not (.call 10 (.cons (.loc 2) .nil))) (.raiseF "NoText" "row" (.cst (.int 0))) .nil (.ret (.loc 2)))))))⟩
def c17 : CF := ⟨1, 1, (.ret (.lst (.cons (.fz (.bi .list (.cons (.slc (.loc 0) false (.cst .non) true (.cst (.int 63))) .nil))) (.cons (.cst (.int 0)) (.cons (.cst (.int 0)) .nil)))))⟩
def c18 : CF := ⟨2, 6, (.ifs (.cmp .Gt (.idx (.loc 0) (.cst (.int 2))) (.cst (.int 0))) (.asg (.nm 2) (.bin .Mod (.idx (.loc 0) (.cst (.int 2))) (.loc 1)) (.sub (.loc 0) (.cst (.int 2)) (.bin .FloorDiv (.idx (.loc 0) (.cst (.int 2))) (.loc 1)) (.ret (.loc 2)))) .nil (.asg (.nm 3) (.idx (.loc 0) (.cst (.int 1))) (.sub (.loc 0) (.cst (.int 1)) (.bin .Add (.loc 3) (.cst (.int 1))) (.asg (.nm 4) (.cst (.int 29)) (.ifs (.cmp .Gt (.bi .len (.cons (.idx (.loc 0) (.cst (.int 0))) .nil)) (.cst (.int 0))) (.asg (.nm 4) (.bi .abs (.cons (.idx (.idx (.loc 0) (.cst (.int 0))) (.bin .Mod (.loc 3) (.bi .len (.cons (.idx (.loc 0) (.cst (.int 0))) .nil)))) .nil)) .nil) .nil (.ifs (.and (.cmp .Lt (.loc 3) (.bi .len (.cons (.idx (.loc 0) (.cst (.int 0))) .nil))) (.cmp .GtE (.loc 4) (.bin .Pow (.cst (.int 10)) (.cst (.int 18))))) (.sub (.loc 0) (.cst (.int 2)) (.bin .FloorDiv (.bin .Sub (.loc 4) (.bin .Pow (.cst (.int 10)) (.cst (.int 18)))) (.loc 1)) (.ret (.bin .Mod (.bin .Sub (.loc 4) (.bin .Pow (.cst (.int 10)) (.cst (.int 18)))) (.loc 1)))) .nil (.asg (.nm 5) (.bin .Mod (.bin .Mult (.bin .Add (.bin .Mod (.loc 4) (.cst (.int 2147483629))) (.cst (.int 31))) (.bin .Add (.bin .Add (.bin .Mult (.loc 3) (.loc 3)) (.bin .Mult (.cst (.int 5)) (.loc 3))) (.cst (.int 11)))) (.cst (.int 2147483647))) (.asg (.nm 5) (.bin .Mod (.bin .Mult (.bin .Mod (.bin .Add (.bin .Pow (.loc 5) (.cst (.int 3))) (.bin .Mult (.cst (.int 69621)) (.loc 3))) (.cst (.int 2147483587))) (.cst (.int 48271))) (.cst (.int 2147483399))) (.ret (.bin .Mod (.bin .FloorDiv (.loc 5) (.cst (.int 64))) (.loc 1)))))))))))⟩
def c19 : CF := ⟨2, 2, (.ret (.idx (.loc 1) (.call 18 (.cons (.loc 0) (.cons (.bi .len (.cons (.loc 1) .nil)) .nil)))))⟩
def c20 : CF := ⟨1, 1, (.ret (.bin .Add (.bin .Add (.idx (.loc 0) (.cst (.int 0))) (.idx (.fz (.dct (.cons (.cst (.str "least")) (.cons (.cst (.str ">=")) (.cons (.cst (.str "most")) (.cons (.cst (.str "<=")) .nil)))))) (.idx (.loc 0) (.cst (.int 1))))) (.bi .str (.cons (.idx (.loc 0) (.cst (.int 2))) .nil))))⟩
def c21 : CF := ⟨1, 4, (.asg (.nm 1) (.lst (.cons (.call 20 (.cons (.idx (.idx (.loc 0) (.cst (.int 0))) (.cst (.int 0))) .nil)) .nil)) (.for_ (.tp [(.nm 2), (.nm 3)]) (.val (.fz (.slc (.loc 0) true (.cst (.int 1)) false (.cst .non)))) (.exp (.mth .extend (.loc 1) (.cons (.fz (.lst (.cons (.ite (.cmp .Eq (.loc 3) (.bin .Sub (.cst (.int 0)) (.cst (.int 1)))) (.cst (.str "=")) (.bi .str (.cons (.loc 3) .nil))) (.cons (.call 20 (.cons (.loc 2) .nil)) .nil)))) .nil)) .nil) (.fzv 1 (.ret (.mth .join (.cst (.str " ")) (.cons (.loc 1) .nil))))))⟩
def c22 : CF := ⟨1, 4, (.asg (.nm 1) (.mth .join (.cst (.str "")) (.cons (.fz (.lc [2] (.nm 2) (.rng (.cons (.bin .Add (.cst (.int 1)) (.call 18 (.cons (.loc 0) (.cons (.cst (.int 8)) .nil)))) .nil)) (.cst (.bl true)) (.call 19 (.cons (.loc 0) (.cons (.cst (.str "abcxyz")) .nil))))) .nil)) (.asg (.nm 3) (.bin .Mult (.call 19 (.cons (.loc 0) (.cons (.fz (.lst (.cons (.cst (.int 0)) (.cons (.cst (.int 7)) (.cons (.bin .Pow (.cst (.int 10)) (.cst (.int 20))) (.cons (.call 18 (.cons (.loc 0) (.cons (.bin .Pow (.cst (.int 10)) (.cst (.int 18))) .nil))) .nil)))))) .nil))) (.call 19 (.cons (.loc 0) (.cons (.fz (.lst (.cons (.cst (.int 1)) (.cons (.bin .Sub (.cst (.int 0)) (.cst (.int 1))) .nil)))) .nil)))) (.ret (.tup (.cons (.loc 1) (.cons (.call 19 (.cons (.loc 0) (.cons (.fz (.lst (.cons (.cst (.str "least")) (.cons (.cst (.str "most")) .nil)))) .nil))) (.cons (.loc 3) .nil)))))))⟩
def c23 : CF := ⟨1, 3, (.asg (.nm 1) (.ite (.cmp .Eq (.slc (.loc 0) false (.cst .non) true (.cst (.int 1))) (.cst (.str "-"))) (.slc (.loc 0) true (.cst (.int 1)) false (.cst .non)) (.loc 0)) (.ifs (.or (.not (.chn .LtE .LtE (.cst (.int 1)) (.bi .len (.cons (.loc 1) .nil)) (.cst (.int 60)))) (.cmp .NotEq (.fz (.lc [2] (.nm 2) (.val (.loc 1)) (.cmp .NotIn (.loc 2) (.cst (.str "0123456789"))) (.loc 2))) (.fz (.lst .nil)))) (.ret (.cst .non)) .nil (.ret (.ite (.and (.cmp .Eq (.idx (.loc 1) (.cst (.int 0))) (.cst (.str "0"))) (.cmp .NotEq (.loc 0) (.cst (.str "0")))) (.cst .non) (.bi .int (.cons (.loc 0) .nil))))))⟩
def c24 : CF := ⟨1, 8, (.for_ (.tp [(.nm 1), (.nm 2)]) (.val (.tup (.cons (.tup (.cons (.cst (.str "least")) (.cons (.cst (.str ">=")) .nil))) (.cons (.tup (.cons (.cst (.str "most")) (.cons (.cst (.str "<=")) .nil))) .nil)))) (.asg (.nm 3) (.fz (.mth .split (.loc 0) (.cons (.loc 2) .nil))) (.ifs (.cmp .Eq (.bi .len (.cons (.loc 3) .nil)) (.cst (.int 2))) (.asg (.nm 4) (.call 23 (.cons (.idx (.loc 3) (.cst (.int 1))) .nil)) (.asg (.nm 5) (.fz (.lc [6] (.nm 6) (.val (.idx (.loc 3) (.cst (.int 0)))) (.cmp .NotIn (.loc 6) (.cst (.str "abcdefghijklmnopqrstuvwxyz"))) (.loc 6))) (.asg (.nm 7) (.and (.cmp .Eq (.loc 5) (.fz (.lst .nil))) (.and (.chn .LtE .LtE (.cst (.int 1)) (.bi .len (.cons (.idx (.loc 3) (.cst (.int 0))) .nil)) (.cst (.int 8))) (.and (.cmp .IsNot (.loc 4) (.cst .non)) (.cmp .LtE (.bi .abs (.cons (.loc 4) .nil)) (.bin .Pow (.cst (.int 10)) (.cst (.int 20))))))) (.ret (.ite (.loc 7) (.tup (.cons (.idx (.loc 3) (.cst (.int 0))) (.cons (.loc 1) (.cons (.loc 4) .nil)))) (.cst .non)))))) .nil .nil)) (.ret (.cst .non)))⟩
def c25 : CF := ⟨1, 6, (.asg (.tp [(.nm 1), (.nm 2)]) (.tup (.cons (.fz (.mth .split (.loc 0) (.cons (.cst (.str " ")) .nil))) (.cons (.lst .nil) .nil))) (.ifs (.or (.cmp .Eq (.bin .Mod (.bi .len (.cons (.loc 1) .nil)) (.cst (.int 2))) (.cst (.int 0))) (.cmp .Gt (.bi .len (.cons (.loc 1) .nil)) (.cst (.int 3999)))) (.ret (.cst .non)) .nil (.for_ (.nm 3) (.rng (.cons (.cst (.int 0)) (.cons (.bi .len (.cons (.loc 1) .nil)) (.cons (.cst (.int 2)) .nil)))) (.asg (.nm 4) (.cst .non) (.ifs (.cmp .Gt (.loc 3) (.cst (.int 0))) (.asg (.nm 4) (.ite (.cmp .Eq (.idx (.loc 1) (.bin .Sub (.loc 3) (.cst (.int 1)))) (.cst (.str "="))) (.bin .Sub (.cst (.int 0)) (.cst (.int 1))) (.call 23 (.cons (.idx (.loc 1) (.bin .Sub (.loc 3) (.cst (.int 1)))) .nil))) (.ifs (.or (.cmp .Is (.loc 4) (.cst .non)) (.or (.cmp .Gt (.loc 4) (.cst (.int 39))) (.and (.cmp .Lt (.loc 4) (.cst (.int 0))) (.cmp .NotEq (.idx (.loc 1) (.bin .Sub (.loc 3) (.cst (.int 1)))) (.cst (.str "=")))))) (.ret (.cst .non)) .nil .nil)) .nil (.exp (.mth .append (.loc 2) (.cons (.tup (.cons (.call 24 (.cons (.idx (.loc 1) (.loc 3)) .nil)) (.cons (.loc 4) .nil))) .nil)) .nil))) (.fzv 2 (.ret (.ite (.cmp .In (.cst .non) (.fz (.lc [5, 4] (.tp [(.nm 5), (.nm 4)]) (.val (.loc 2)) (.cst (.bl true)) (.loc 5)))) (.cst .non) (.loc 2)))))))⟩
def c26 : CF := ⟨1, 3, (.asg (.nm 1) (.cst .non) (.tryM (.xasg false (.nm 1) 16 (.cons (.loc 0) .nil) .nil) ["NoChain", "NoText"] [⟨["NoText"], (some 2), (.asg 1 (.tupf "row" ["NoText"] "row"))⟩, ⟨["NoChain", "NoText"], none, (.asg 1 (.cst (.str "other")))⟩] (.ret (.loc 1))))⟩
def c27 : CF := ⟨2, 8, (.asg (.tp [(.nm 2), (.nm 3)]) (.tup (.cons (.fz (.mth .split (.loc 1) (.cons (.cst (.str " ")) .nil))) (.cons (.call 18 (.cons (.loc 0) (.cons (.cst (.int 4)) .nil))) .nil))) (.asg (.nm 4) (.call 18 (.cons (.loc 0) (.cons (.bi .len (.cons (.loc 2) .nil)) .nil))) (.ifs (.cmp .Eq (.loc 3) (.cst (.int 0))) (.ret (.mth .join (.cst (.str " ")) (.cons (.fz (.bin .Add (.fz (.slc (.loc 2) false (.cst .non) true (.loc 4))) (.fz (.slc (.loc 2) true (.bin .Add (.loc 4) (.cst (.int 1))) false (.cst .non))))) .nil))) .nil (.ifs (.cmp .Eq (.loc 3) (.cst (.int 1))) (.ret (.mth .join (.cst (.str " ")) (.cons (.fz (.bin .Add (.fz (.slc (.loc 2) false (.cst .non) true (.bin .Add (.loc 4) (.cst (.int 1))))) (.fz (.slc (.loc 2) true (.loc 4) false (.cst .non))))) .nil))) .nil (.ifs (.cmp .Eq (.loc 3) (.cst (.int 2))) (.asg (.nm 5) (.fz (.lst (.cons (.cst (.str "=")) (.cons (.cst (.str "0")) (.cons (.cst (.str "39")) (.cons (.cst (.str "40")) (.cons (.cst (.str "-1")) (.cons (.cst (.str "-0")) (.cons (.cst (.str "01")) (.cons (.cst (.str "a>=5")) (.cons (.cst (.str "a<=-5")) (.cons (.cst (.str "a>5")) (.cons (.cst (.str "")) (.cons (.cst (.str "A<=1")) (.cons (.cst (.str "a>=1<=2")) (.cons (.cst (.str "b<=+1")) .nil)))))))))))))))) (.asg (.nm 6) (.call 19 (.cons (.loc 0) (.cons (.loc 5) .nil))) (.ret (.mth .join (.cst (.str " ")) (.cons (.fz (.bin .Add (.fz (.bin .Add (.fz (.slc (.loc 2) false (.cst .non) true (.loc 4))) (.fz (.lst (.cons (.loc 6) .nil))))) (.fz (.slc (.loc 2) true (.bin .Add (.loc 4) (.cst (.int 1))) false (.cst .non))))) .nil))))) .nil (.asg (.nm 7) (.call 18 (.cons (.loc 0) (.cons (.bin .Add (.bi .len (.cons (.loc 1) .nil)) (.cst (.int 1))) .nil))) (.ret (.bin .Add (.bin .Add (.slc (.loc 1) false (.cst .non) true (.loc 7)) (.call 19 (.cons (.loc 0) (.cons (.fz (.lst (.cons (.cst (.str "")) (.cons (.cst (.str " ")) (.cons (.cst (.str "0")) (.cons (.cst (.str "-")) (.cons (.cst (.str "=")) (.cons (.cst (.str "<")) (.cons (.cst (.str "a")) (.cons (.cst (.str "
")) .nil)))))))))) .nil)))) (.slc (.loc 1) true (.bin .Add (.loc 7) (.call 18 (.cons (.loc 0) (.cons (.cst (.int 2)) .nil)))) false (.cst .non))))))))))⟩
def c28 : CF := ⟨1, 2, (.asg (.nm 1) (.cst (.str "told")) (.tryM (.xexp 15 (.cons (.loc 0) .nil) .nil) ["NoChain", "NoText"] [⟨["NoChain"], none, (.asg 1 (.cst (.str "chain")))⟩, ⟨["NoChain", "NoText"], none, (.asg 1 (.cst (.str "other")))⟩] (.ret (.loc 1))))⟩
def c29 : CF := ⟨2, 6, (.asg (.nm 2) (.idx (.idx (.loc 1) (.cst (.int 0))) (.cst (.int 0))) (.asg (.nm 3) (.lst (.cons (.fz (.lst .nil)) (.cons (.bi .tuple (.cons (.loc 1) .nil)) (.cons (.cst .non) (.cons (.cst (.str "x")) (.cons (.fz (.dct .nil)) (.cons (.fz (.lst (.cons (.loc 2) .nil))) (.cons (.fz (.bin .Add (.loc 1) (.fz (.lst (.cons (.tup (.cons (.loc 2) (.cons (.cst (.int 40)) .nil))) .nil))))) (.cons (.fz (.bin .Add (.loc 1) (.fz (.lst (.cons (.tup (.cons (.loc 2) (.cons (.cst .non) .nil))) .nil))))) .nil))))))))) (.exp (.mth .append (.loc 3) (.cons (.fz (.bin .Add (.loc 1) (.fz (.lst (.cons (.tup (.cons (.loc 2) (.cons (.cst (.bl true)) .nil))) .nil))))) .nil)) (.asg (.nm 3) (.bin .Add (.loc 3) (.fz (.lst (.cons (.fz (.bin .Add (.loc 1) (.fz (.lst (.cons (.tup (.cons (.loc 2) (.cons (.bin .Sub (.cst (.int 0)) (.cst (.int 2))) .nil))) .nil))))) (.cons (.fz (.lst (.cons (.tup (.cons (.loc 2) (.cons (.bin .Sub (.cst (.int 0)) (.cst (.int 1))) .nil))) .nil))) (.cons (.fz (.bin .Add (.loc 1) (.fz (.lst (.cons (.tup (.cons (.slc (.loc 2) false (.cst .non) true (.cst (.int 2))) (.cons (.cst (.int 0)) .nil))) .nil))))) (.cons (.fz (.bin .Add (.loc 1) (.fz (.lst (.cons (.fz (.lst (.cons (.loc 2) (.cons (.cst (.int 0)) .nil)))) .nil))))) .nil))))))) (.asg (.nm 4) (.fz (.lst (.cons (.tup (.cons (.bin .Add (.idx (.loc 2) (.cst (.int 0))) (.cst (.str "qqqqqqqq"))) (.cons (.cst (.str "least")) (.cons (.cst (.int 1)) .nil)))) (.cons (.tup (.cons (.cst (.str "A")) (.cons (.cst (.str "least")) (.cons (.cst (.int 1)) .nil)))) (.cons (.tup (.cons (.cst (.str "a")) (.cons (.cst (.str "more")) (.cons (.cst (.int 1)) .nil)))) (.cons (.tup (.cons (.fz (.lst (.cons (.cst (.str "a")) .nil))) (.cons (.cst (.str "least")) (.cons (.cst (.int 1)) .nil)))) .nil)))))) (.exp (.mth .extend (.loc 3) (.cons (.fz (.lc [5] (.nm 5) (.val (.fz (.bin .Add (.loc 4) (.fz (.lst (.cons (.tup (.cons (.cst (.str "a")) (.cons (.cst (.str "least")) (.cons (.bin .Add (.bin .Pow (.cst (.int 10)) (.cst (.int 20))) (.cst (.int 1))) .nil)))) .nil)))))) (.cst (.bl true)) (.fz (.bin .Add (.loc 1) (.fz (.lst (.cons (.tup (.cons (.loc 5) (.cons (.cst (.int 0)) .nil))) .nil))))))) .nil)) (.fzv 3 (.ret (.call 19 (.cons (.loc 0) (.cons (.fz (.bin .Add (.loc 3) (.fz (.lst (.cons (.fz (.bin .Add (.loc 1) (.fz (.lst (.cons (.tup (.cons (.tup (.cons (.cst (.str "a")) (.cons (.cst (.str "least")) (.cons (.cst (.bl true)) .nil)))) (.cons (.cst (.int 0)) .nil))) .nil))))) (.cons (.fz (.bin .Add (.loc 1) (.fz (.lst (.cons (.tup (.cons (.tup (.cons (.cst (.str "a")) (.cons (.cst (.str "most")) (.cons (.cst (.str "1")) .nil)))) (.cons (.cst (.int 0)) .nil))) .nil))))) .nil)))))) .nil)))))))))))⟩
def c30 : CF := ⟨1, 10, (.asg (.nm 1) (.call 17 (.cons (.loc 0) .nil)) (.for_ (.nm 2) (.rng (.cons (.cst (.int 8)) .nil)) (.asg (.nm 3) (.lst (.cons (.tup (.cons (.call 22 (.cons (.loc 1) .nil)) (.cons (.cst .non) .nil))) .nil)) (.for_ (.nm 4) (.rng (.cons (.call 18 (.cons (.loc 1) (.cons (.cst (.int 12)) .nil))) .nil)) (.exp (.mth .append (.loc 3) (.cons (.tup (.cons (.call 22 (.cons (.loc 1) .nil)) (.cons (.bin .Sub (.call 18 (.cons (.loc 1) (.cons (.cst (.int 41)) .nil))) (.cst (.int 1))) .nil))) .nil)) .nil) (.ifs (.cmp .Eq (.loc 2) (.cst (.int 7))) (.asg (.nm 3) (.bin .Add (.fz (.slc (.loc 3) false (.cst .non) true (.cst (.int 1)))) (.fz (.bin .Mult (.fz (.lst (.cons (.tup (.cons (.idx (.idx (.loc 3) (.cst (.int 0))) (.cst (.int 0))) (.cons (.bin .Sub (.cst (.int 0)) (.cst (.int 1))) .nil))) .nil))) (.bin .Add (.cst (.int 1998)) (.call 18 (.cons (.loc 1) (.cons (.cst (.int 3)) .nil))))))) .nil) .nil (.fzv 3 (.asg (.tp [(.nm 5), (.nm 6)]) (.tup (.cons (.ite (.cmp .Gt (.bi .len (.cons (.loc 3) .nil)) (.cst (.int 2000))) (.cst (.str "chain")) (.cst (.str "told"))) (.cons (.call 21 (.cons (.loc 3) .nil)) .nil))) (.ifs (.or (.cmp .NotEq (.call 28 (.cons (.loc 3) .nil)) (.loc 5)) (.and (.cmp .Eq (.loc 5) (.cst (.str "told"))) (.cmp .NotEq (.call 15 (.cons (.loc 3) .nil)) (.loc 6)))) (.ret (.cst (.bl false))) .nil (.asg (.nm 7) (.call 26 (.cons (.loc 6) .nil)) (.ifs (.cmp .NotEq (.bi .repr (.cons (.loc 7) .nil)) (.bi .repr (.cons (.ite (.cmp .Eq (.loc 5) (.cst (.str "told"))) (.loc 3) (.tup (.cons (.cst (.str "row")) (.cons (.cst (.int 0)) .nil)))) .nil))) (.ret (.cst (.bl false))) .nil (.ifs (.cmp .Eq (.loc 5) (.cst (.str "told"))) (.exp (.mth .clear (.loc 7) .nil) (.ifs (.cmp .NotEq (.bi .repr (.cons (.call 16 (.cons (.loc 6) .nil)) .nil)) (.bi .repr (.cons (.loc 3) .nil))) (.ret (.cst (.bl false))) .nil .nil)) .nil (.ifs (.cmp .NotEq (.call 28 (.cons (.call 29 (.cons (.loc 1) (.cons (.loc 3) .nil))) .nil)) (.cst (.str "chain"))) (.ret (.cst (.bl false))) .nil (.for_ (.nm 8) (.rng (.cons (.ite (.cmp .Lt (.loc 2) (.cst (.int 7))) (.cst (.int 4)) (.cst (.int 0))) .nil)) (.asg (.nm 9) (.call 27 (.cons (.loc 1) (.cons (.loc 6) .nil))) (.asg (.nm 7) (.call 25 (.cons (.loc 9) .nil)) (.ifs (.cmp .NotEq (.bi .repr (.cons (.call 26 (.cons (.loc 9) .nil)) .nil)) (.bi .repr (.cons (.ite (.cmp .Is (.loc 7) (.cst .non)) (.tup (.cons (.cst (.str "row")) (.cons (.cst (.int 0)) .nil))) (.loc 7)) .nil))) (.ret (.cst (.bl false))) .nil .nil))) (.ifs (.cmp .NotEq (.call 26 (.cons (.call 19 (.cons (.loc 1) (.cons (.fz (.lst (.cons (.cst .non) (.cons (.cst (.int 7)) (.cons (.fz (.lst .nil)) (.cons (.loc 3) (.cons (.tup (.cons (.cst (.str "a>=1")) .nil)) (.cons (.cst (.str "")) .nil)))))))) .nil))) .nil)) (.tup (.cons (.cst (.str "row")) (.cons (.cst (.int 0)) .nil)))) (.ret (.cst (.bl false))) .nil .nil)))))))))))) (.ret (.cst (.bl true)))))⟩
def ctv : List D := [.str "abcdefghijklmnopqrstuvwxyz", .int 100000000000000000000, .int 8, .kt [.str "least", .str "most"], .str "0123456789", .int 60, .int 2000, .int 39, .str "="]
def T (i : Nat) : Option CF := [c0, c1, c2, c3, c4, c5, c6, c7, c8, c9, c10, c11, c12, c13, c14, c15, c16, c17, c18, c19, c20, c21, c22, c23, c24, c25, c26, c27, c28, c29, c30][i]?
def ct (i : Nat) : Option D := ctv[i]?
theorem e0 : erF nm 60 n0 (top 9) = some c0 := by kernel_rfl
theorem e1 : erF nm 60 n1 (top 10) = some c1 := by kernel_rfl
theorem e2 : erF nm 60 n2 (top 11) = some c2 := by kernel_rfl
theorem e3 : erF nm 60 n3 (top 12) = some c3 := by kernel_rfl
theorem e4 : erF nm 60 n4 (top 13) = some c4 := by kernel_rfl
theorem e5 : erF nm 60 n5 (top 18) = some c5 := by kernel_rfl
theorem e6 : erF nm 60 n6 (top 19) = some c6 := by kernel_rfl
theorem e7 : erF nm 60 n7 (top 20) = some c7 := by kernel_rfl
theorem e8 : erF nm 60 n8 (top 25) = some c8 := by kernel_rfl
theorem e9 : erF nm 60 n9 (top 26) = some c9 := by kernel_rfl
theorem e10 : erF nm 60 n10 (top 27) = some c10 := by kernel_rfl
theorem e11 : erF nm 60 n11 (top 28) = some c11 := by kernel_rfl
theorem e12 : erF nm 60 n12 (top 29) = some c12 := by kernel_rfl
theorem e13 : erF nm 60 n13 (top 30) = some c13 := by kernel_rfl
theorem e14 : erF nm 60 n14 (top 31) = some c14 := by kernel_rfl
theorem e15 : erF nm 60 n15 (top 33) = some c15 := by kernel_rfl
theorem e16 : erF nm 60 n16 (top 34) = some c16 := by kernel_rfl
theorem e17 : erF nm 60 n17 (top 36) = some c17 := by kernel_rfl
theorem e18 : erF nm 60 n18 (top 37) = some c18 := by kernel_rfl
theorem e19 : erF nm 60 n19 (top 38) = some c19 := by kernel_rfl
theorem e20 : erF nm 60 n20 (top 39) = some c20 := by kernel_rfl
theorem e21 : erF nm 60 n21 (top 40) = some c21 := by kernel_rfl
theorem e22 : erF nm 60 n22 (top 41) = some c22 := by kernel_rfl
theorem e23 : erF nm 60 n23 (top 42) = some c23 := by kernel_rfl
theorem e24 : erF nm 60 n24 (top 43) = some c24 := by kernel_rfl
theorem e25 : erF nm 60 n25 (top 44) = some c25 := by kernel_rfl
theorem e26 : erF nm 60 n26 (top 45) = some c26 := by kernel_rfl
theorem e27 : erF nm 60 n27 (top 46) = some c27 := by kernel_rfl
theorem e28 : erF nm 60 n28 (top 47) = some c28 := by kernel_rfl
theorem e29 : erF nm 60 n29 (top 48) = some c29 := by kernel_rfl
theorem e30 : erF nm 60 n30 (top 49) = some c30 := by kernel_rfl
end K71
namespace K71
open PySem L2 Mi
theorem sem_run {k i : Nat} {f : CF} (h : T i = some f) (ds : List D) (S : Store) : semN T ct (k + 1) i ds S = runF ⟨semN T ct k, ct⟩ f ds S := by
  show (match T i with
    | some f => runF ⟨semN T ct k, ct⟩ f ds S
    | none => .bad) = _
  rw [h]
section
variable {p : Nat} {cs : List Int} {t r : Int} {S : Store}
theorem pn0 (h : Pn p cs t r S) : idxD (.ref p) (.int 0) S = .ok (.pl (cs.map .int)) S := by
  show idxC S[p]? _ S = _
  rw [h]; rfl
theorem pn1 (h : Pn p cs t r S) : idxD (.ref p) (.int 1) S = .ok (.int t) S := by
  show idxC S[p]? _ S = _
  rw [h]; rfl
theorem pn2 (h : Pn p cs t r S) : idxD (.ref p) (.int 2) S = .ok (.int r) S := by
  show idxC S[p]? _ S = _
  rw [h]; rfl
theorem ps1 (h : Pn p cs t r S) {x : Int} : subD (.ref p) (.int 1) (.int x) S = some (setP S p cs x r) := by
  rw [sub_lst (j := 1) h rfl]; rfl
theorem ps2 (h : Pn p cs t r S) {x : Int} : subD (.ref p) (.int 2) (.int x) S = some (setP S p cs t x) := by
  rw [sub_lst (j := 2) h rfl]; rfl
end
theorem len_pl {ds : List D} {S : Store} : biD .len [.pl ds] S = .ok (.int ds.length) S := rfl
/-- a draw below m -/
theorem draw_ok {k : Nat} {p : Nat} {cs : List Int} {t r m : Int} {S : Store} (hp : Pn p cs t r S) (hm : 0 < m) (h2 : m < 2 ^ 64) (h0 : 0 ≤ t) (h1 : t < 2 ^ 60) : ∃ v t' r', semN T ct (k + 1) 18 [.ref p, .int m] S = .ok (.int v) (setP S p cs t' r') ∧ 0 ≤ v ∧ v < m ∧ t ≤ t' ∧ t' ≤ t + 1 := by
  rw [sem_run (f := c18) rfl]
  by_cases hr : 0 < r
  · refine ⟨r % m, t, r / m, ?_, Int.emod_nonneg _ (by omega), Int.emod_lt_of_pos _ hm, by omega, by omega⟩
    simp [runF, c18, pn2 hp, gc_same, hr, bin_mod hm, bin_div (div_ok hm h2), ps2 hp, gc_len]
  · have hp1 := hp.set (t + 1) r
    -- the cell
    have cell : ∃ z : Int, (cs = [] ∧ z = 29) ∨ (0 < (cs.length : Int) ∧ ∃ y, L2.atI (cs.map D.int) (t % (cs.length : Int)) = some (.int y) ∧ z = if y < 0 then -y else y) := by
      cases hc : cs with
      | nil => exact ⟨_, .inl ⟨rfl, rfl⟩⟩
      | cons x xs =>
        have hpos : (0 : Int) < ((x :: xs).length : Int) := by simp only [List.length_cons]; omega
        obtain ⟨z, _, hz⟩ := at_ints (cs := x :: xs) (i := t % ((x :: xs).length : Int)) (Int.emod_nonneg _ (by omega)) (Int.emod_lt_of_pos _ hpos)
        exact ⟨_, .inr ⟨hpos, z, hz, rfl⟩⟩
    obtain ⟨z, cell⟩ := cell
    have n1 := Int.emod_nonneg z (b := 2147483629) (by omega)
    have n2 := Int.emod_lt_of_pos z (show (0 : Int) < 2147483629 by omega)
    have m1 : CMul t t := .inl (by omega)
    have m2 : CMul 5 t := .inl (by omega)
    have m3 : CMul (z % 2147483629 + 31) (t * t + 5 * t + 11) := .inl (by omega)
    have d0 : (0 : Int) < 2147483629 := by omega
    have d1 : (0 : Int) < 2147483647 := by omega
    have d2 : (0 : Int) < 2147483587 := by omega
    have d3 : (0 : Int) < 2147483399 := by omega
    have w1 := Int.emod_nonneg ((z % 2147483629 + 31) * (t * t + 5 * t + 11)) (b := 2147483647) (by omega)
    have w2 := Int.emod_lt_of_pos ((z % 2147483629 + 31) * (t * t + 5 * t + 11)) d1
    generalize hx : (z % 2147483629 + 31) * (t * t + 5 * t + 11) % 2147483647 = x at w1 w2
    have p3 : CPow x 3 := ⟨by omega, by omega, by omega⟩
    have m4 : CMul 69621 t := .inl (by omega)
    have y1 := Int.emod_nonneg (x ^ (3 : Int).toNat + 69621 * t) (b := 2147483587) (by omega)
    have y2 := Int.emod_lt_of_pos (x ^ (3 : Int).toNat + 69621 * t) d2
    generalize hy : (x ^ (3 : Int).toNat + 69621 * t) % 2147483587 = y at y1 y2
    have m5 : CMul y 48271 := .inl (by omega)
    have d64 : ∀ j : Int, binD .FloorDiv (.int j) (.int 64) = fun S => .ok (.int (j / 64)) S := fun j => by funext S; exact bin_div (div_ok (by decide) (by decide))
    have q2 : (3 : Int).toNat = 3 := rfl
    rw [q2] at hy
    rcases cell with ⟨rfl, hz⟩ | ⟨cc2, y0, cc3, rfl⟩
    · refine ⟨y * 48271 % 2147483399 / 64 % m, t + 1, r, ?_, Int.emod_nonneg _ (by omega), Int.emod_lt_of_pos _ hm, by omega, by omega⟩
      have big : ¬ t < 0 := by omega
      simp only [runF, c18]
      rw [← hz]
      simp [pn2 hp, pn1 hp, pn0 hp1, gc_same, hr, ps1 hp, len_pl, big, bin_mul m1, bin_mul m2, bin_mod d0, bin_mul m3, bin_mod d1, hx, bin_pow p3, bin_mul m4, bin_mod d2, hy, bin_mul m5, bin_mod d3, d64, bin_mod hm, gc_len]
    · have cc4 : 0 < cs.length := by omega
      have ix : ∀ S' : Store, idxD (.pl (cs.map D.int)) (.int (t % (cs.length : Int))) S' = .ok (.int y0) S' := fun S' => by
        show optR (L2.atI _ _) S' = _
        rw [cc3]; rfl
      by_cases big : t < (cs.length : Int) ∧ 1000000000000000000 ≤ (if y0 < 0 then -y0 else y0)
      · refine ⟨((if y0 < 0 then -y0 else y0) - 1000000000000000000) % m, t + 1, ((if y0 < 0 then -y0 else y0) - 1000000000000000000) / m, ?_, Int.emod_nonneg _ (by omega), Int.emod_lt_of_pos _ hm, by omega, by omega⟩
        simp [runF, c18, pn2 hp, pn1 hp, pn0 hp1, gc_same, hr, ps1 hp, len_pl, bin_mod cc2, ix, cc4, big.1, big.2, bin_mod hm, bin_div (div_ok hm h2), ps2 hp1, gc_len]
      · refine ⟨y * 48271 % 2147483399 / 64 % m, t + 1, r, ?_, Int.emod_nonneg _ (by omega), Int.emod_lt_of_pos _ hm, by omega, by omega⟩
        have nb : ∀ (S' : Store), (if t < (cs.length : Int) then (if 1000000000000000000 ≤ (if y0 < 0 then -y0 else y0) then R.ok (D.bl true) S' else R.ok (D.bl false) S') else R.ok (D.bl false) S') = R.ok (D.bl false) S' := by
          intro S'
          by_cases h1 : t < (cs.length : Int)
          · rw [if_pos h1, if_neg fun h => big ⟨h1, h⟩]
          · rw [if_neg h1]
        simp [runF, c18, pn2 hp, pn1 hp, pn0 hp1, gc_same, hr, ps1 hp, len_pl, bin_mod cc2, ix, cc4, nb, bin_mul m1, bin_mul m2, bin_mod d0, bin_mul m3, bin_mod d1, hx, bin_pow p3, bin_mul m4, bin_mod d2, hy, bin_mul m5, bin_mod d3, d64, bin_mod hm, gc_len]
/-- a pick -/
theorem pick_ok {k : Nat} {p : Nat} {cs : List Int} {t r : Int} {S : Store} {ds : List D} (hp : Pn p cs t r S) (hl : 0 < ds.length) (hz : ds.length < 2 ^ 60) (h0 : 0 ≤ t) (h1 : t < 2 ^ 60) :
    ∃ d t' r', semN T ct (k + 2) 19 [.ref p, .pl ds] S = .ok d (setP S p cs t' r') ∧ d ∈ ds ∧ t ≤ t' ∧ t' ≤ t + 1 := by
  obtain ⟨v, t', r', ed, v0, v1, t0, t1⟩ := draw_ok (k := k) (m := ds.length) hp (by omega) (by omega) h0 h1
  obtain ⟨d, hd, hm⟩ := atI_int v0 v1
  refine ⟨d, t', r', ?_, hm, t0, t1⟩
  have hi : ∀ S' : Store, idxD (.pl ds) (.int v) S' = .ok d S' := fun S' => by
    show optR (L2.atI ds v) S' = _
    rw [hd]; rfl
  rw [sem_run (f := c19) rfl]
  simp [runF, c19, gc_same, len_pl, ed, gc_len, hi]
theorem pickT_ok {k : Nat} {p : Nat} {cs : List Int} {t r : Int} {S : Store} {ds : List D} (hp : Pn p cs t r S) (hl : 0 < ds.length) (hz : ds.length < 2 ^ 60) (h0 : 0 ≤ t) (h1 : t < 2 ^ 60) :
    ∃ d t' r', semN T ct (k + 2) 19 [.ref p, .tup ds] S = .ok d (setP S p cs t' r') ∧ d ∈ ds ∧ t ≤ t' ∧ t' ≤ t + 1 := by
  obtain ⟨v, t', r', ed, v0, v1, t0, t1⟩ := draw_ok (k := k) (m := ds.length) hp (by omega) (by omega) h0 h1
  obtain ⟨d, hd, hm⟩ := atI_int v0 v1
  refine ⟨d, t', r', ?_, hm, t0, t1⟩
  have hi : ∀ S' : Store, idxD (.tup ds) (.int v) S' = .ok d S' := fun S' => by
    show optR (L2.atI ds v) S' = _
    rw [hd]; rfl
  rw [sem_run (f := c19) rfl]
  simp [runF, c19, gc_same, ed, gc_len, hi]
theorem pickC_ok {k : Nat} {p : Nat} {cs : List Int} {t r : Int} {S : Store} {z : Str} (hp : Pn p cs t r S) (hl : 0 < z.length) (hz : z.length ≤ 16777216) (h0 : 0 ≤ t) (h1 : t < 2 ^ 60) :
    ∃ x t' r', semN T ct (k + 2) 19 [.ref p, .str z] S = .ok (.str ⟨#[x]⟩) (setP S p cs t' r') ∧ x ∈ z.cps.toList ∧ t ≤ t' ∧ t' ≤ t + 1 := by
  obtain ⟨v, t', r', ed, v0, v1, t0, t1⟩ := draw_ok (k := k) (m := z.length) hp (by omega) (by omega) h0 h1
  have v1' : v < (z.cps.toList.length : Int) := by
    have : z.length = z.cps.toList.length := by simp [Str.length]
    omega
  obtain ⟨x, hd, hm⟩ := atI_int v0 v1'
  refine ⟨x, t', r', ?_, hm, t0, t1⟩
  have hi : ∀ S' : Store, idxD (.str z) (.int v) S' = .ok (.str ⟨#[x]⟩) S' := fun S' => by
    show (if sizeOk z.length then optR ((L2.atI z.cps.toList v).map fun c => .str ⟨#[c]⟩) S' else .bad) = _
    rw [sizeOk_of, decide_eq_true hz, hd]; rfl
  have hn : ∀ S' : Store, biD .len [.str z] S' = .ok (.int z.length) S' := fun S' => by
    have h : lenD S' (.str z) = some z.length := by
      show (if sizeOk z.length then some z.length else none) = _
      rw [sizeOk_of, decide_eq_true hz]; rfl
    show optR ((lenD S' (.str z)).map fun n => .int n) S' = _
    rw [h]; rfl
  rw [sem_run (f := c19) rfl]
  simp [runF, c19, gc_same, ed, gc_len, hi, hn]
end K71
namespace K71
open PySem L2 Mi
section
variable {k : Nat} {S : Store}
/-- a number that a word writes -/
theorem numin_ok {l : List Nat} (h : Sn l) (hl : l.length < 16777000) : semN T ct (k + 1) 5 [.str (mkS l)] S = .ok (optD (numV l)) S := by
  have g60 : ct 5 = some (.int 60) := rfl
  have gF : ct 4 = some (.str digS) := rfl
  have eF := ev_figs (G := ⟨semN T ct k, ct⟩) (S := S) (L := [some (.str (mkS l)), none, none]) (a := 0) rfl h hl
  have fl := figs_len l
  have fs := h.sub (figs_sub l)
  have ln : biD .len [.str (mkS (figs l))] S = .ok (.int (figs l).length) S := len_L (by omega)
  have lc := lc_in (G := ⟨semN T ct k, ct⟩) (S := S) (L := [some (.str (mkS l)), some (.str (mkS (figs l))), none]) (v := 2) (it := .val (.loc 1)) (ez := .glb 4) (l := figs l) (z := digS) rfl (by omega) (by simp) (fun _ _ => rfl)
  have al := all_map (S := S) (fun c => decide (c ∈ digS.cps.toList)) (figs l)
  have e3 : (figs l).all (fun c => decide (c ∈ digS.cps.toList)) = (figs l).all isD := by
    congr 1; funext c; exact digS_mem c
  rw [e3] at al
  generalize (figs l).map (fun c => D.bl (decide (c ∈ digS.cps.toList))) = ds at lc al
  have e0 := eqL (S := S) h (show Sn [45, 48] from fun c hc => by simp at hc; omega)
  rw [← m0_L] at e0
  rw [sem_run (f := c5) rfl, runF_fin rfl]
  simp -implicitDefEqProofs only [c5]
  show (fin (exS _ _ [some (.str (mkS l)), none, none] S)).gc S = _
  rw [ex_asg, eF, R.bind_ok]
  by_cases q1 : 1 ≤ (figs l).length ∧ (figs l).length ≤ 60
  · have c1 : (1 : Int) ≤ ((figs l).length : Nat) := by omega
    have c2 : (((figs l).length : Nat) : Int) ≤ 60 := by omega
    by_cases q2 : (figs l).all isD = true
    · rw [q2] at al
      have hne : figs l ≠ [] := by intro z; rw [z] at q1; simp at q1
      have i1 := int_digs (S := S) q2 hne q1.2
      have dl := dv_lt (all_digits q2)
      have nl : (TL.numL (NumText.digitsVal (figs l))).length ≤ 60 := TL.numL_len (by omega) (Nat.lt_of_lt_of_le dl (Nat.pow_le_pow_right (by decide) q1.2))
      have st := str_nat (S := S) nl
      have ns : Sn (TL.numL (NumText.digitsVal (figs l))) := fun c hc => by have := TL.numL_digits _ c hc; omega
      have ne := neL (S := S) ns fs
      rw [back_iff (all_digits q2) hne] at ne
      have i0 := int_numV (S := S) q1.1 q1.2 q2
      have nv : numV l = if canon (figs l) = true ∧ l ≠ [45, 48] then some (sgnV l) else none := by
        unfold numV
        by_cases q3 : canon (figs l) = true ∧ l ≠ [45, 48]
        · rw [if_pos q3, if_pos ⟨q1.1, q1.2, q2, q3.1, q3.2⟩]
        · rw [if_neg q3, if_neg fun z => q3 ⟨z.2.2.2.1, z.2.2.2.2⟩]
      generalize (sgnV l) = v at i0 nv
      rw [nv]
      generalize NumText.digitsVal (figs l) = n at i1 st ne
      cases q3 : canon (figs l) with
      | false =>
        rw [q3] at ne
        simp -implicitDefEqProofs [g60, ln, gc_same, c1, c2, lc, al, i1, st, ne, optD]
      | true =>
        rw [q3] at ne
        by_cases q4 : l = [45, 48]
        · rw [decide_eq_true q4] at e0
          rw [if_neg fun z => z.2 q4]
          simp -implicitDefEqProofs [g60, ln, gc_same, c1, c2, lc, al, i1, st, ne, e0, optD]
        · rw [decide_eq_false q4] at e0
          rw [if_pos ⟨rfl, q4⟩]
          simp -implicitDefEqProofs [g60, ln, gc_same, c1, c2, lc, al, i1, st, ne, e0, i0, optD]
    · rw [numV_dig q2]
      rw [eq_false_of_ne_true q2] at al
      simp -implicitDefEqProofs [g60, ln, gc_same, c1, c2, lc, al, optD]
  · rw [numV_len q1]
    by_cases q2 : 1 ≤ (figs l).length
    · have c1 : (1 : Int) ≤ ((figs l).length : Nat) := by omega
      have c2 : ¬ (((figs l).length : Nat) : Int) ≤ 60 := by omega
      simp -implicitDefEqProofs [g60, ln, gc_same, c1, c2, optD]
    · have c1 : ¬ (1 : Int) ≤ ((figs l).length : Nat) := by omega
      simp -implicitDefEqProofs [ln, gc_same, c1, optD]
/-- the law's own -/
theorem lnum_ok {l : List Nat} (h : Sn l) (hl : l.length < 16777000) : semN T ct (k + 1) 23 [.str (mkS l)] S = .ok (optD (numV l)) S := by
  have eF := ev_figs (G := ⟨semN T ct k, ct⟩) (S := S) (L := [some (.str (mkS l)), none, none]) (a := 0) rfl h hl
  have fl := figs_len l
  have fs := h.sub (figs_sub l)
  have ln : biD .len [.str (mkS (figs l))] S = .ok (.int (figs l).length) S := len_L (by omega)
  have lc := lc_notin (G := ⟨semN T ct k, ct⟩) (S := S) (L := [some (.str (mkS l)), some (.str (mkS (figs l))), none]) (v := 2) (it := .val (.loc 1)) (ez := .cst (.str digS)) (l := figs l) (z := digS) rfl (by omega) (by simp) (fun _ _ => rfl)
  have nn := fun ds => ne_nilP (S := S) (ds := ds)
  have e0 := eqL (S := S) (l := (figs l).take 1) (fs.sub fun c hc => List.mem_of_mem_take hc) (sn1 (c := 48) (by omega))
  have e1 := neL (S := S) h (sn1 (c := 48) (by omega))
  rw [← zero_L] at e0 e1
  have es : (((figs l).filter fun c => !decide (c ∈ digS.cps.toList)).map fun c => (D.str (mkS [c]))).isEmpty = (figs l).all isD := by
    rw [Bool.eq_iff_iff]
    simp only [List.isEmpty_iff, List.map_eq_nil_iff, List.filter_eq_nil_iff, digS_mem, List.all_eq_true]
    exact ⟨fun z c hc => by simpa using z c hc, fun z c hc => by simp [z c hc]⟩
  rw [sem_run (f := c23) rfl, runF_fin rfl]
  simp -implicitDefEqProofs only [c23]
  show (fin (exS _ _ [some (.str (mkS l)), none, none] S)).gc S = _
  rw [ex_asg, eF, R.bind_ok]
  by_cases q1 : 1 ≤ (figs l).length ∧ (figs l).length ≤ 60
  · have c1 : (1 : Int) ≤ ((figs l).length : Nat) := by omega
    have c2 : (((figs l).length : Nat) : Int) ≤ 60 := by omega
    have nnl := nn (((figs l).filter fun c => !decide (c ∈ digS.cps.toList)).map fun c => (D.str (mkS [c])))
    rw [es] at nnl
    generalize (((figs l).filter fun c => !decide (c ∈ digS.cps.toList)).map fun c => (D.str (mkS [c]))) = ds at lc nnl
    by_cases q2 : (figs l).all isD = true
    · rw [q2] at nnl
      obtain ⟨f0, fr, ef⟩ : ∃ a b, figs l = a :: b := by
        cases e : figs l with
        | nil => rw [e] at q1; simp at q1
        | cons a b => exact ⟨a, b, rfl⟩
      have i0 := int_numV (S := S) q1.1 q1.2 q2
      have ix : idxD (.str (mkS (figs l))) (.int 0) S = .ok (.str (mkS ((figs l).take 1))) S := by
        show (if sizeOk (mkS (figs l)).length then optR ((L2.atI (figs l) 0).map fun c => .str ⟨#[c]⟩) S else .bad) = _
        rw [sizeOk_le (by rw [mkS_len]; omega), ef, show L2.atI (f0 :: fr) 0 = some f0 by simp [L2.atI, ixN]]
        rfl
      have t1 : decide ((figs l).take 1 = [48]) = decide (f0 = 48) := by rw [ef]; simp
      rw [t1] at e0
      have nv : numV l = if f0 = 48 ∧ l ≠ [48] then none else some (sgnV l) := by
        have cn : (canon (figs l) = true ∧ l ≠ [45, 48]) ↔ ¬ (f0 = 48 ∧ l ≠ [48]) := by
          rw [ef]
          unfold figs at ef
          split at ef
          · subst ef
            by_cases z : f0 = 48
            · subst z
              by_cases z2 : fr = []
              · subst z2; simp [canon]
              · simp [canon, z2]
            · simp [canon, z]
          · subst ef
            by_cases z : f0 = 48
            · subst z
              by_cases z2 : fr = []
              · subst z2; simp [canon]
              · simp [canon, z2]
            · simp [canon, z]
              intro z3
              rename_i hh
              exact absurd (show f0 :: fr = 45 :: fr by rw [z3]) (hh fr)
        unfold numV
        by_cases q3 : f0 = 48 ∧ l ≠ [48]
        · rw [if_pos q3, if_neg fun z => (cn.mp ⟨z.2.2.2.1, z.2.2.2.2⟩) q3]
        · rw [if_neg q3, if_pos ⟨q1.1, q1.2, q2, (cn.mpr q3).1, (cn.mpr q3).2⟩]
      generalize (sgnV l) = v at i0 nv
      rw [nv]
      by_cases z1 : f0 = 48
      · rw [decide_eq_true z1] at e0
        by_cases z2 : l = [48]
        · rw [decide_eq_true z2] at e1
          rw [if_neg fun z => z.2 z2]
          simp -implicitDefEqProofs [ln, gc_same, c1, c2, lc, nnl, ix, e0, e1, i0, optD]
        · rw [decide_eq_false z2] at e1
          rw [if_pos ⟨z1, z2⟩]
          simp -implicitDefEqProofs [ln, gc_same, c1, c2, lc, nnl, ix, e0, e1, i0, optD]
      · rw [decide_eq_false z1] at e0
        rw [if_neg fun z => z1 z.1]
        simp -implicitDefEqProofs [ln, gc_same, c1, c2, lc, nnl, ix, e0, e1, i0, optD]
    · rw [numV_dig q2]
      rw [eq_false_of_ne_true q2] at nnl
      simp -implicitDefEqProofs [ln, gc_same, c1, c2, lc, nnl, optD]
  · rw [numV_len q1]
    by_cases q2 : 1 ≤ (figs l).length
    · have c1 : (1 : Int) ≤ ((figs l).length : Nat) := by omega
      have c2 : ¬ (((figs l).length : Nat) : Int) ≤ 60 := by omega
      simp -implicitDefEqProofs [ln, gc_same, c1, c2, optD]
    · have c1 : ¬ (1 : Int) ≤ ((figs l).length : Nat) := by omega
      simp -implicitDefEqProofs [ln, gc_same, c1, optD]
end
end K71
namespace K71
open PySem L2 Mi
section
variable {k : Nat} {S : Store}
theorem isiL {l : List Nat} : biD .isi [.str (mkS l), .sta (.ty "str")] S = .ok (.bl true) S := rfl
theorem isname_L {l : List Nat} (hl : l.length < 16777000) : semN T ct (k + 1) 3 [.str (mkS l)] S = .ok (.bl (nameB l)) S := by
  have g8 : ct 2 = some (.int 8) := rfl
  have i1 := isiL (S := S) (l := l)
  have ln := len_L (S := S) (l := l) (by omega)
  have lc := lc_in (G := ⟨semN T ct k, ct⟩) (S := S) (L := [some (.str (mkS l)), none]) (v := 1) (it := .val (.loc 0)) (ez := .glb 0) (l := l) (z := abcS) rfl (by omega) (by simp) (fun _ _ => rfl)
  have al := all_map (S := S) (fun c => decide (c ∈ abcS.cps.toList)) l
  have e3 : l.all (fun c => decide (c ∈ abcS.cps.toList)) = l.all isA := by
    congr 1; funext c; exact abcS_mem c
  rw [e3] at al
  generalize l.map (fun c => D.bl (decide (c ∈ abcS.cps.toList))) = ds at lc al
  rw [sem_run (f := c3) rfl]
  unfold nameB
  by_cases q1 : 1 ≤ l.length
  · have c1 : (1 : Int) ≤ (l.length : Nat) := by omega
    by_cases q2 : l.length ≤ 8
    · have c2 : ((l.length : Nat) : Int) ≤ 8 := by omega
      rw [decide_eq_true q1, decide_eq_true q2, Bool.true_and, Bool.true_and]
      cases hA : l.all isA <;> rw [hA] at al <;> simp -implicitDefEqProofs [runF, c3, i1, gc_same, ln, c1, c2, g8, lc, al]
    · have c2 : ¬ ((l.length : Nat) : Int) ≤ 8 := by omega
      rw [decide_eq_false q2]
      simp -implicitDefEqProofs [runF, c3, i1, gc_same, ln, c1, c2, g8]
  · have c1 : ¬ (1 : Int) ≤ (l.length : Nat) := by omega
    rw [decide_eq_false q1]
    simp -implicitDefEqProofs [runF, c3, i1, gc_same, ln, c1, g8]
theorem sayin_turn (b : Bool) {l : List Nat} (h : Sn l) (hl : l.length < 16777000) {a1 a2 a3 a4 a5 a6 : Option D} :
    ∃ L', body2 ⟨semN T ct (k + 1), ct⟩ (.tp [(.nm 1), (.nm 2)]) ((.asg (.tp [(.nm 3), (.nm 4), (.nm 5)]) (.mth .partition (.loc 0) (.cons (.loc 2) .nil)) (.asg (.nm 6) (.ite (.cmp .NotEq (.loc 4) (.cst (.str ""))) (.call 5 (.cons (.loc 5) .nil)) (.cst .non)) (.ifs (.and (.cmp .IsNot (.loc 6) (.cst .non)) (.call 3 (.cons (.loc 3) .nil))) (.ret (.tup (.cons (.loc 3) (.cons (.loc 1) (.cons (.loc 6) .nil))))) .nil .nil)))) (.tup [.str (srt b), .str (mk b)]) [some (.str (mkS l)), a1, a2, a3, a4, a5, a6] S = .ok (optF ((syT b l).map syD), L') S ∧ ∃ a1 a2 a3 a4 a5 a6, L' = [some (.str (mkS l)), a1, a2, a3, a4, a5, a6] := by
  have pt := par_op (S := S) b (l := l) hl
  have eS := ne_str (S := S) (x := Str.empty) (y := Str.ofString "") (by decide +kernel) (by decide +kernel)
  rw [show (Str.empty == Str.ofString "") = true from beqS _ (by decide +kernel)] at eS
  have eM := ne_str (S := S) (ok_mk b) (y := Str.ofString "") (by decide +kernel)
  rw [show (mk b == Str.ofString "") = false from by cases b <;> exact beqS _ (by decide +kernel)] at eM
  unfold parR at pt
  unfold syT
  cases hp : TL.par (mkL b) [] l with
  | none =>
    rw [hp] at pt
    exact ⟨_, by simp -implicitDefEqProofs [body2, pt, gc_same, eS, optF]; (repeat' first | exact rfl | apply And.intro), _, _, _, _, _, _, rfl⟩
  | some q =>
    obtain ⟨a, r⟩ := q
    rw [hp] at pt
    obtain ⟨sa, sr, e⟩ := sn_par h hp
    have nk := numin_ok (k := k) (S := S) sr (by omega)
    have nm := isname_L (k := k) (S := S) (l := a) (by omega)
    simp only
    cases hn : numV r with
    | none =>
      rw [hn] at nk
      exact ⟨_, by simp -implicitDefEqProofs [body2, pt, gc_same, eM, nk, optD, optF]; (repeat' first | exact rfl | apply And.intro), _, _, _, _, _, _, rfl⟩
    | some i =>
      rw [hn] at nk
      cases ha : nameB a with
      | false =>
        rw [ha] at nm
        exact ⟨_, by simp -implicitDefEqProofs [body2, pt, gc_same, eM, nk, optD, optF, nm]; (repeat' first | exact rfl | apply And.intro), _, _, _, _, _, _, rfl⟩
      | true =>
        rw [ha] at nm
        exact ⟨_, by simp -implicitDefEqProofs [body2, pt, gc_same, eM, nk, optD, optF, nm, syD]; (repeat' first | exact rfl | apply And.intro), _, _, _, _, _, _, rfl⟩
theorem sayin_L {l : List Nat} (h : Sn l) (hl : l.length < 16777000) : semN T ct (k + 2) 7 [.str (mkS l)] S = .ok (optS (syP l)) S := by
  rw [sem_run (f := c7) rfl, runF_fin rfl]
  obtain ⟨L1, e1, b1, b2, b3, b4, b5, b6, rfl⟩ := sayin_turn (k := k) (S := S) true h hl (a1 := none) (a2 := none) (a3 := none) (a4 := none) (a5 := none) (a6 := none)
  obtain ⟨L2, e2, c1, c2, c3, c4, c5, c6, rfl⟩ := sayin_turn (k := k) (S := S) false h hl (a1 := b1) (a2 := b2) (a3 := b3) (a4 := b4) (a5 := b5) (a6 := b6)
  rw [show srt true = Str.ofString "least" from rfl, show mk true = Str.ofString ">=" from rfl] at e1
  rw [show srt false = Str.ofString "most" from rfl, show mk false = Str.ofString "<=" from rfl] at e2
  simp -implicitDefEqProofs only [c7]
  simp -implicitDefEqProofs
  unfold syP
  cases h1 : syT true l with
  | some s =>
    rw [h1] at e1
    rw [for_rt e1, then_ret]
    simp -implicitDefEqProofs [gc_same, optS]
  | none =>
    rw [h1] at e1
    rw [for_nxt e1]
    cases h2 : syT false l with
    | some s =>
      rw [h2] at e2
      rw [for_rt e2, then_ret]
      simp -implicitDefEqProofs [gc_same, optS]
    | none =>
      rw [h2] at e2
      rw [for_nxt e2, for_end, then_nx]
      simp -implicitDefEqProofs [gc_same, optS]
theorem abs_inR {i : Int} : decide ((if i < 0 then -i else i) ≤ (100000000000000000000 : Int)) = inR i := by
  unfold inR
  rw [Bool.eq_iff_iff]
  simp only [decide_eq_true_eq, Bool.and_eq_true]
  constructor
  · intro h; split at h <;> omega
  · intro h; split <;> omega
theorem lsay_turn (b : Bool) {l : List Nat} (h : Sn l) (hl : l.length < 16777000) {a1 a2 a3 a4 a5 a6 a7 : Option D} :
    ∃ L', body2 ⟨semN T ct (k + 1), ct⟩ (.tp [(.nm 1), (.nm 2)]) ((.asg (.nm 3) (.fz (.mth .split (.loc 0) (.cons (.loc 2) .nil))) (.ifs (.cmp .Eq (.bi .len (.cons (.loc 3) .nil)) (.cst (.int 2))) (.asg (.nm 4) (.call 23 (.cons (.idx (.loc 3) (.cst (.int 1))) .nil)) (.asg (.nm 5) (.fz (.lc [6] (.nm 6) (.val (.idx (.loc 3) (.cst (.int 0)))) (.cmp .NotIn (.loc 6) (.cst (.str "abcdefghijklmnopqrstuvwxyz"))) (.loc 6))) (.asg (.nm 7) (.and (.cmp .Eq (.loc 5) (.fz (.lst .nil))) (.and (.chn .LtE .LtE (.cst (.int 1)) (.bi .len (.cons (.idx (.loc 3) (.cst (.int 0))) .nil)) (.cst (.int 8))) (.and (.cmp .IsNot (.loc 4) (.cst .non)) (.cmp .LtE (.bi .abs (.cons (.loc 4) .nil)) (.bin .Pow (.cst (.int 10)) (.cst (.int 20))))))) (.ret (.ite (.loc 7) (.tup (.cons (.idx (.loc 3) (.cst (.int 0))) (.cons (.loc 1) (.cons (.loc 4) .nil)))) (.cst .non)))))) .nil .nil))) (.tup [.str (srt b), .str (mk b)]) [some (.str (mkS l)), a1, a2, a3, a4, a5, a6, a7] S = .ok (optF ((lawT b l).map optS), L') S ∧ ∃ a1 a2 a3 a4 a5 a6 a7, L' = [some (.str (mkS l)), a1, a2, a3, a4, a5, a6, a7] := by
  have spS : ∀ (S : Store) , ((mtD .split (.str (mkS l)) [.str (mk b)] S).gc S).fz S = .ok (.pl ((TL.spl (mkL b) 0 [] l).map fun m => .str (mkS m))) S := fun S => by
    have := split_fz' (S := S) (y := mk b) (l := l) (by rw [mk_mkL]; exact mkL_ne b) (by cases b <;> decide +kernel) hl
    rw [mk_mkL] at this
    exact this
  have sp := spS S
  unfold lawT
  have two : ∀ ls : List (List Nat), ls.length ≠ 2 → (∀ a r, ls ≠ [a, r]) := fun ls hls a r z => hls (by rw [z]; rfl)
  rcases hs : TL.spl (mkL b) 0 [] l with _ | ⟨a, _ | ⟨r, _ | ⟨q, qs⟩⟩⟩
  · rw [hs] at sp
    exact ⟨_, by simp -implicitDefEqProofs [body2, sp, gc_same, optF]; (repeat' first | exact rfl | apply And.intro), _, _, _, _, _, _, _, rfl⟩
  · rw [hs] at sp
    exact ⟨_, by simp -implicitDefEqProofs [body2, sp, gc_same, optF]; (repeat' first | exact rfl | apply And.intro), _, _, _, _, _, _, _, rfl⟩
  · rw [hs] at sp
    have sb := spl_sub (mkL_ne b) _ l (Nat.le_refl _)
    rw [hs] at sb
    obtain ⟨a1', a2'⟩ := sb a (by simp)
    obtain ⟨r1', r2'⟩ := sb r (by simp)
    have nk := lnum_ok (k := k) (S := S) (h.sub r1') (by omega)
    have ln := len_L (S := S) (l := a) (by omega)
    have i0 : idxD (.pl [.str (mkS a), .str (mkS r)]) (.int 0) S = .ok (.str (mkS a)) S := rfl
    have i1 : idxD (.pl [.str (mkS a), .str (mkS r)]) (.int 1) S = .ok (.str (mkS r)) S := rfl
    have lc := fun x4 x5 x6 x7 => lc_notin (G := ⟨semN T ct (k + 1), ct⟩) (S := S) (L := [some (.str (mkS l)), some (.str (srt b)), some (.str (mk b)), some (.pl [.str (mkS a), .str (mkS r)]), x4, x5, x6, x7]) (v := 6) (it := .val (.idx (.loc 3) (.cst (.int 0)))) (ez := .cst (.str abcS)) (l := a) (z := abcS) (by
      simp -implicitDefEqProofs [gc_same, i0, walk_str]) (by omega) (by simp) (fun _ _ => rfl)
    have en := fun ds => eq_nilP (S := S) (ds := ds)
    have es : ((a.filter fun c => !decide (c ∈ abcS.cps.toList)).map fun c => (D.str (mkS [c]))).isEmpty = a.all isA := by
      rw [Bool.eq_iff_iff]
      simp only [List.isEmpty_iff, List.map_eq_nil_iff, List.filter_eq_nil_iff, abcS_mem, List.all_eq_true]
      exact ⟨fun z c hc => by simpa using z c hc, fun z c hc => by simp [z c hc]⟩
    have enl := en ((a.filter fun c => !decide (c ∈ abcS.cps.toList)).map fun c => (D.str (mkS [c])))
    rw [es] at enl
    generalize ((a.filter fun c => !decide (c ∈ abcS.cps.toList)).map fun c => (D.str (mkS [c]))) = ds at lc enl
    have go : ∀ w : D, optF (some w) = .ret w := fun _ => rfl
    simp only [Option.map_some, go]
    unfold nameB
    cases hn : numV r with
    | none =>
      rw [hn] at nk
      cases ha : a.all isA with
      | false =>
        rw [ha] at enl
        exact ⟨_, by simp -implicitDefEqProofs [body2, sp, gc_same, i0, i1, nk, optD, lc, enl, optS]; (repeat' first | exact rfl | apply And.intro), _, _, _, _, _, _, _, rfl⟩
      | true =>
        rw [ha] at enl
        by_cases q1 : 1 ≤ a.length
        · have c1 : (1 : Int) ≤ (a.length : Nat) := by omega
          by_cases q2 : a.length ≤ 8
          · have c2 : ((a.length : Nat) : Int) ≤ 8 := by omega
            exact ⟨_, by simp -implicitDefEqProofs [body2, sp, gc_same, i0, i1, nk, optD, lc, enl, optS, ln, c1, c2]; (repeat' first | exact rfl | apply And.intro), _, _, _, _, _, _, _, rfl⟩
          · have c2 : ¬ ((a.length : Nat) : Int) ≤ 8 := by omega
            exact ⟨_, by simp -implicitDefEqProofs [body2, sp, gc_same, i0, i1, nk, optD, lc, enl, optS, ln, c1, c2]; (repeat' first | exact rfl | apply And.intro), _, _, _, _, _, _, _, rfl⟩
        · have c1 : ¬ (1 : Int) ≤ (a.length : Nat) := by omega
          exact ⟨_, by simp -implicitDefEqProofs [body2, sp, gc_same, i0, i1, nk, optD, lc, enl, optS, ln, c1]; (repeat' first | exact rfl | apply And.intro), _, _, _, _, _, _, _, rfl⟩
    | some i =>
      rw [hn] at nk
      have ab := abs_inR (i := i)
      cases ha : a.all isA with
      | false =>
        rw [ha] at enl
        exact ⟨_, by simp -implicitDefEqProofs [body2, sp, gc_same, i0, i1, nk, optD, lc, enl, optS]; (repeat' first | exact rfl | apply And.intro), _, _, _, _, _, _, _, rfl⟩
      | true =>
        rw [ha] at enl
        by_cases q1 : 1 ≤ a.length
        · have c1 : (1 : Int) ≤ (a.length : Nat) := by omega
          by_cases q2 : a.length ≤ 8
          · have c2 : ((a.length : Nat) : Int) ≤ 8 := by omega
            rw [decide_eq_true q1, decide_eq_true q2]
            cases hr : inR i with
            | false =>
              rw [hr] at ab
              have ab := of_decide_eq_false ab
              exact ⟨_, by simp -implicitDefEqProofs [body2, sp, gc_same, i0, i1, nk, optD, lc, enl, optS, ln, c1, c2, ab, hr]; (repeat' first | exact rfl | apply And.intro), _, _, _, _, _, _, _, rfl⟩
            | true =>
              rw [hr] at ab
              have ab := of_decide_eq_true ab
              exact ⟨_, by simp -implicitDefEqProofs [body2, sp, gc_same, i0, i1, nk, optD, lc, enl, optS, ln, c1, c2, ab, syD, hr]; (repeat' first | exact rfl | apply And.intro), _, _, _, _, _, _, _, rfl⟩
          · have c2 : ¬ ((a.length : Nat) : Int) ≤ 8 := by omega
            rw [decide_eq_false q2]
            exact ⟨_, by simp -implicitDefEqProofs [body2, sp, gc_same, i0, i1, nk, optD, lc, enl, optS, ln, c1, c2]; (repeat' first | exact rfl | apply And.intro), _, _, _, _, _, _, _, rfl⟩
        · have c1 : ¬ (1 : Int) ≤ (a.length : Nat) := by omega
          rw [decide_eq_false q1]
          exact ⟨_, by simp -implicitDefEqProofs [body2, sp, gc_same, i0, i1, nk, optD, lc, enl, optS, ln, c1]; (repeat' first | exact rfl | apply And.intro), _, _, _, _, _, _, _, rfl⟩
  · rw [hs] at sp
    have ne : ¬ ((qs.length : Int) + 1 + 1 + 1 = 2) := by omega
    exact ⟨_, by simp -implicitDefEqProofs [body2, sp, gc_same, optF, ne]; (repeat' first | exact rfl | apply And.intro), _, _, _, _, _, _, _, rfl⟩
theorem lsay_L {l : List Nat} (h : Sn l) (hl : l.length < 16777000) : semN T ct (k + 2) 24 [.str (mkS l)] S = .ok (optS (syW l)) S := by
  rw [sem_run (f := c24) rfl, runF_fin rfl]
  obtain ⟨L1, e1, b1, b2, b3, b4, b5, b6, b7, rfl⟩ := lsay_turn (k := k) (S := S) true h hl (a1 := none) (a2 := none) (a3 := none) (a4 := none) (a5 := none) (a6 := none) (a7 := none)
  obtain ⟨L2, e2, c1, c2, c3, c4, c5, c6, c7, rfl⟩ := lsay_turn (k := k) (S := S) false h hl (a1 := b1) (a2 := b2) (a3 := b3) (a4 := b4) (a5 := b5) (a6 := b6) (a7 := b7)
  rw [show srt true = Str.ofString "least" from rfl, show mk true = Str.ofString ">=" from rfl] at e1
  rw [show srt false = Str.ofString "most" from rfl, show mk false = Str.ofString "<=" from rfl] at e2
  simp -implicitDefEqProofs only [c24]
  simp -implicitDefEqProofs
  unfold syW
  cases h1 : lawT true l with
  | some s =>
    rw [h1] at e1
    rw [for_rt e1, then_ret]
    simp -implicitDefEqProofs [gc_same]
  | none =>
    rw [h1] at e1
    rw [for_nxt e1]
    cases h2 : lawT false l with
    | some s =>
      rw [h2] at e2
      rw [for_rt e2, then_ret]
      simp -implicitDefEqProofs [gc_same]
    | none =>
      rw [h2] at e2
      rw [for_nxt e2, for_end, then_nx]
      simp -implicitDefEqProofs [gc_same, optS]
end
end K71
namespace K71
open PySem L2 Mi
section
variable {k : Nat} {S : Store}
theorem whole_D {n : Nat} {d : D} (h : okD n d = true) : semN T ct (k + 1) 0 [d] S = .ok (.bl (wholeB d)) S := by
  rw [sem_run (f := c0) rfl]
  have go : ∀ b1 b2 : Bool, biD .isi [d, .sta (.ty "int")] S = .ok (.bl b1) S → biD .isi [d, .sta (.ty "bool")] S = .ok (.bl b2) S → wholeB d = (b1 && !b2) → runF ⟨semN T ct k, ct⟩ c0 [d] S = .ok (.bl (wholeB d)) S := by
    intro b1 b2 h1 h2 h3
    rw [h3]
    cases b1 <;> cases b2 <;> simp -implicitDefEqProofs [runF, c0, h1, h2, gc_same]
  cases n with
  | zero => cases h
  | succ n =>
    cases d with
    | non => exact go false false rfl rfl rfl
    | bl b => exact go true true rfl rfl rfl
    | int i => exact go true false rfl rfl rfl
    | str x => exact go false false rfl rfl rfl
    | tup ds => exact go false false rfl rfl rfl
    | pl ds => exact go false false rfl rfl rfl
    | pd ks ds => exact go false false rfl rfl rfl
    | _ => cases h
theorem from_D {n : Nat} {d : D} (h : okD n d = true) {lo hi : Int} : semN T ct (k + 2) 1 [d, .int lo, .int hi] S = .ok (.bl (fromB lo hi d)) S := by
  rw [sem_run (f := c1) rfl]
  have h1 := whole_D (k := k) (S := S) h
  cases d with
  | int i => by_cases a : lo ≤ i <;> by_cases b : i ≤ hi <;> simp -implicitDefEqProofs [runF, c1, h1, gc_same, a, b, wholeB, fromB]
  | _ => simp -implicitDefEqProofs [runF, c1, h1, gc_same, wholeB, fromB]
theorem tuple_D {n : Nat} {d : D} (h : okD n d = true) {lo hi : Int} : semN T ct (k + 1) 2 [d, .int lo, .int hi] S = .ok (.bl (tupleB lo hi d)) S := by
  rw [sem_run (f := c2) rfl]
  have go : biD .isi [d, .sta (.ty "tuple")] S = .ok (.bl false) S → tupleB lo hi d = false → runF ⟨semN T ct k, ct⟩ c2 [d, .int lo, .int hi] S = .ok (.bl (tupleB lo hi d)) S := by
    intro h1 h3
    rw [h3]
    simp -implicitDefEqProofs [runF, c2, h1, gc_same]
  cases n with
  | zero => cases h
  | succ n =>
    cases d with
    | non => exact go rfl rfl
    | bl b => exact go rfl rfl
    | int i => exact go rfl rfl
    | str x => exact go rfl rfl
    | tup ds =>
      have h1 : biD .isi [.tup ds, .sta (.ty "tuple")] S = .ok (.bl true) S := rfl
      unfold tupleB
      by_cases a : lo ≤ (ds.length : Int) <;> by_cases b : (ds.length : Int) ≤ hi <;> simp -implicitDefEqProofs [runF, c2, h1, gc_same, a, b]
    | pl ds => exact go rfl rfl
    | pd ks ds => exact go rfl rfl
    | _ => cases h
theorem name_D {n : Nat} {d : D} (h : okD n d = true) : semN T ct (k + 1) 3 [d] S = .ok (.bl (isNameB d)) S := by
  have go : biD .isi [d, .sta (.ty "str")] S = .ok (.bl false) S → isNameB d = false → semN T ct (k + 1) 3 [d] S = .ok (.bl (isNameB d)) S := by
    intro h1 h3
    rw [h3, sem_run (f := c3) rfl]
    simp -implicitDefEqProofs [runF, c3, h1, gc_same]
  cases n with
  | zero => cases h
  | succ n =>
    cases d with
    | non => exact go rfl rfl
    | bl b => exact go rfl rfl
    | int i => exact go rfl rfl
    | str x =>
      have := isname_L (k := k) (S := S) (l := x.cps.toList) (by have := (okD_str h).2; rw [str_len] at this; exact this)
      rw [mkS_tl] at this
      exact this
    | tup ds => exact go rfl rfl
    | pl ds => exact go rfl rfl
    | pd ks ds => exact go rfl rfl
    | _ => cases h
theorem ixT {ds : List D} {i : Nat} {d : D} (h : ds[i]? = some d) : idxD (.tup ds) (.int (i : Int)) S = .ok d S := by
  show optR (L2.atI ds (i : Int)) S = _
  rw [Mi.atI_nat h]; rfl
theorem own_in {x : Str} (h : PyData.strOk x = true) : cmpD .NotIn (.str x) (.tup [.str x]) S = .ok (.bl false) S := by
  have e : hasD (.str x) (.tup [.str x]) S = some true := by
    simp [hasD, inD, py, toPy, allSome, SeqAt.shaped, PyData.canLay0, PyData.canLayAll0, PyData.depth, PyData.depthAll, PyData.eqv, h]
  show ofB ((hasD _ _ _).map (!·)) _ = _
  rw [e]; rfl
theorem sort_in {x : Str} (h : PyData.strOk x = true) : cmpD .NotIn (.str x) (.kt [.str (Str.ofString "least"), .str (Str.ofString "most")]) S = .ok (.bl (!isSortB (.str x))) S := by
  have h1 : PyData.strOk (Str.ofString "least") = true := ok_least
  have h2 : PyData.strOk (Str.ofString "most") = true := ok_most
  have e : hasD (.str x) (.kt [.str (Str.ofString "least"), .str (Str.ofString "most")]) S = some (isSortB (.str x)) := by
    unfold isSortB
    rw [show srt true = Str.ofString "least" from rfl, show srt false = Str.ofString "most" from rfl]
    generalize Str.ofString "least" = u at h1
    generalize Str.ofString "most" = v at h2
    simp only [hasD, inD]
    have s1 : SeqAt.shaped (.str x) = true := by simp [SeqAt.shaped, PyData.canLay0, PyData.depth, h]
    have s2 := shaped_strs (xs := [u, v]) (by simp [h1, h2])
    rw [show py S (.str x) = some (.str x) from rfl, show [D.str u, D.str v] = [u, v].map .str from rfl, allSome_strs 48 [u, v]]
    simp only [s1, s2, Bool.and_self, if_true]
    congr 1
    rw [Bool.eq_iff_iff]
    simp only [List.map_cons, List.map_nil, List.any_cons, List.any_nil, Bool.or_false, PyData.eqv, decide_eq_true_eq, Bool.or_eq_true, beq_iff_eq]
    exact ⟨fun z => by rcases z with z | z <;> simp [z], fun z => by rcases z with z | z <;> simp [z]⟩
  show ofB ((hasD _ _ _).map (!·)) _ = _
  rw [e]; rfl
theorem say_D {n : Nat} {a b c : D} {x : Str} (h : ∀ d ∈ [a, b, c], okD n d = true) (ha : a = .str x) (hn : isNameB a = true) : semN T ct (k + 3) 4 [.tup [a, b, c], .tup [a]] S = .ok (.bl (sayB (.tup [a, b, c]))) S := by
  have oka := h a (by simp)
  have okb := h b (by simp)
  have okc := h c (by simp)
  have t3 := tuple_D (k := k + 1) (S := S) (n := n + 1) (d := .tup [a, b, c]) (lo := 3) (hi := 3) (by simp only [okD]; exact List.all_eq_true.mpr h)
  have nm := name_D (k := k + 1) (S := S) oka
  rw [hn] at nm
  have fc := from_D (k := k) (S := S) okc (lo := -100000000000000000000) (hi := 100000000000000000000)
  have i0 : idxD (.tup [a, b, c]) (.int 0) S = .ok a S := ixT (i := 0) rfl
  have i1 : idxD (.tup [a, b, c]) (.int 1) S = .ok b S := ixT (i := 1) rfl
  have i2 : idxD (.tup [a, b, c]) (.int 2) S = .ok c S := ixT (i := 2) rfl
  have gf : ct 1 = some (.int 100000000000000000000) := rfl
  have gs : ct 3 = some (.kt [.str (Str.ofString "least"), .str (Str.ofString "most")]) := rfl
  have oi : cmpD .NotIn a (.tup [a]) S = .ok (.bl false) S := by
    rw [ha] at oka ⊢
    exact own_in (okD_str oka).1
  have tv : tupleB 3 3 (.tup [a, b, c]) = true := rfl
  rw [tv] at t3
  rw [sem_run (f := c4) rfl]
  have ev : sayB (.tup [a, b, c]) = (isSortB b && fromB (-100000000000000000000) 100000000000000000000 c) := by
    simp only [sayB, hn, Bool.true_and]
    rfl
  rw [ev]
  have no : biD .isi [b, .sta (.ty "str")] S = .ok (.bl false) S → isSortB b = false → runF ⟨semN T ct (k + 2), ct⟩ c4 [.tup [a, b, c], .tup [a]] S = .ok (.bl (isSortB b && fromB (-100000000000000000000) 100000000000000000000 c)) S := by
    intro h1 h3
    rw [h3]
    simp -implicitDefEqProofs only [runF, c4]
    simp -implicitDefEqProofs [gc_same, t3, nm, i0, i1, oi, h1]
  cases n with
  | zero => cases okb
  | succ n =>
    cases b with
    | str y =>
      have si := sort_in (S := S) (okD_str okb).1
      have h1 : biD .isi [.str y, .sta (.ty "str")] S = .ok (.bl true) S := rfl
      simp -implicitDefEqProofs only [runF, c4]
      cases hs : isSortB (.str y) with
      | false =>
        rw [hs] at si
        simp -implicitDefEqProofs [gc_same, t3, nm, i0, i1, oi, h1, gs, si]
      | true =>
        rw [hs] at si
        simp -implicitDefEqProofs [gc_same, t3, nm, i0, i1, i2, oi, h1, gs, si, gf, fc]
    | non => exact no rfl rfl
    | bl b => exact no rfl rfl
    | int i => exact no rfl rfl
    | tup ds => exact no rfl rfl
    | pl ds => exact no rfl rfl
    | pd ks ds => exact no rfl rfl
    | _ => cases okb
theorem anysay_D {n : Nat} {d : D} (h : okD n d = true) : semN T ct (k + 4) 8 [d] S = .ok (.bl (sayB d)) S := by
  have t3 := tuple_D (k := k + 2) (S := S) (n := n) (d := d) (lo := 3) (hi := 3) h
  rw [sem_run (f := c8) rfl]
  simp -implicitDefEqProofs only [runF, c8]
  by_cases q : ∃ a b c, d = .tup [a, b, c]
  · obtain ⟨a, b, c, rfl⟩ := q
    obtain ⟨m, rfl, hm⟩ := okD_tup h
    have tv : tupleB 3 3 (.tup [a, b, c]) = true := rfl
    rw [tv] at t3
    have nm := name_D (k := k + 2) (S := S) (hm a (by simp))
    have i0 : idxD (.tup [a, b, c]) (.int 0) S = .ok a S := ixT (i := 0) rfl
    cases hn : isNameB a with
    | false =>
      rw [hn] at nm
      have : sayB (.tup [a, b, c]) = false := by simp [sayB, hn]
      rw [this]
      simp -implicitDefEqProofs [gc_same, t3, i0, nm]
    | true =>
      rw [hn] at nm
      obtain ⟨x, hx⟩ : ∃ x, a = .str x := by
        cases a with
        | str x => exact ⟨x, rfl⟩
        | _ => cases hn
      have sd := say_D (k := k) (S := S) hm hx hn
      cases hv : sayB (.tup [a, b, c]) <;> rw [hv] at sd <;> simp -implicitDefEqProofs [gc_same, t3, i0, nm, sd]
  · have tv : tupleB 3 3 d = false := by
      cases d with
      | tup ds =>
        rcases ds with _ | ⟨a, _ | ⟨b, _ | ⟨c, _ | ⟨e, r⟩⟩⟩⟩
        · rfl
        · rfl
        · rfl
        · exact absurd ⟨a, b, c, rfl⟩ q
        · simp [tupleB]; omega
      | _ => rfl
    have sv : sayB d = false := by
      unfold sayB
      split
      · rename_i a b c; exact absurd ⟨a, b, c, rfl⟩ q
      · rfl
    rw [tv] at t3
    rw [sv]
    simp -implicitDefEqProofs [gc_same, t3]
theorem isnon {n : Nat} {d : D} (h : okD n d = true) : cmpD .Is d .non S = .ok (.bl (nonB d)) S := by
  cases n with
  | zero => cases h
  | succ n => cases d <;> first | rfl | cases h
theorem link_D {n : Nat} {d : D} (h : okD n d = true) (first : Bool) : semN T ct (k + 5) 9 [d, .bl first] S = .ok (.bl (linkB first d)) S := by
  have t3 := tuple_D (k := k + 3) (S := S) (n := n) (d := d) (lo := 2) (hi := 2) h
  rw [sem_run (f := c9) rfl]
  simp -implicitDefEqProofs only [runF, c9]
  by_cases q : ∃ a b, d = .tup [a, b]
  · obtain ⟨a, b, rfl⟩ := q
    obtain ⟨m, rfl, hm⟩ := okD_tup h
    have tv : tupleB 2 2 (.tup [a, b]) = true := rfl
    rw [tv] at t3
    have sy := anysay_D (k := k) (S := S) (hm a (by simp))
    have fr := from_D (k := k + 2) (S := S) (hm b (by simp)) (lo := -1) (hi := 39)
    have ns := isnon (S := S) (hm b (by simp))
    have i0 : idxD (.tup [a, b]) (.int 0) S = .ok a S := ixT (i := 0) rfl
    have i1 : idxD (.tup [a, b]) (.int 1) S = .ok b S := ixT (i := 1) rfl
    have gb : ct 7 = some (.int 39) := rfl
    have ev : linkB first (.tup [a, b]) = (sayB a && (if first = true then nonB b else fromB (-1) 39 b)) := rfl
    rw [ev]
    cases hs : sayB a with
    | false =>
      rw [hs] at sy
      simp -implicitDefEqProofs [gc_same, t3, i0, sy]
    | true =>
      rw [hs] at sy
      cases first with
      | false => simp -implicitDefEqProofs [gc_same, t3, i0, i1, sy, gb, fr]
      | true => simp -implicitDefEqProofs [gc_same, t3, i0, i1, sy, ns]
  · have tv : tupleB 2 2 d = false := by
      cases d with
      | tup ds =>
        rcases ds with _ | ⟨a, _ | ⟨b, _ | ⟨c, r⟩⟩⟩
        · rfl
        · rfl
        · exact absurd ⟨a, b, rfl⟩ q
        · simp [tupleB]; omega
      | _ => rfl
    have sv : linkB first d = false := by
      unfold linkB
      split
      · rename_i a b; exact absurd ⟨a, b, rfl⟩ q
      · rfl
    rw [tv] at t3
    rw [sv]
    simp -implicitDefEqProofs [gc_same, t3]
theorem enu_all : ∀ (ds : List D), ((enuFrom 0 ds).map fun d => match d with | .tup [.int i, x] => linkB (i == 0) x | _ => false).all id = linksT ds := by
  have up : ∀ (ds : List D) (j : Nat), ((enuFrom (j + 1) ds).map fun d => match d with | .tup [.int i, x] => linkB (i == 0) x | _ => false).all id = ds.all (linkB false) := by
    intro ds
    induction ds with
    | nil => intro j; rfl
    | cons d r ih =>
      intro j
      simp only [enuFrom, List.map_cons, List.all_cons, ih (j + 1), id]
      have : ((((j + 1 : Nat) : Int)) == 0) = false := by
        rw [beq_eq_false_iff_ne]; omega
      rw [this]
  intro ds
  cases ds with
  | nil => rfl
  | cons d r =>
    simp only [enuFrom, List.map_cons, List.all_cons, up r 0, id, linksT]
    rfl
/-- what is a list of links: a list, a cell or a value -/
theorem links_D {d : D} {ds : List D} {g : Guard} (h : ∀ x ∈ ds, okD 5 x = true) (h1 : biD .isi [d, .sta (.ty "list")] S = .ok (.bl true) S) (h2 : biD .len [d] S = .ok (.int ds.length) S) (h3 : walkE S d = some (ds, g)) (hg : ∀ T, Gok g (S ++ T)) (hlt : ds.length < 1000000) :
    semN T ct (k + 6) 10 [d] S = .ok (.bl (linksB ds)) S := by
  have gm : ct 6 = some (.int 2000) := rfl
  rw [sem_run (f := c10) rfl]
  simp -implicitDefEqProofs only [runF, c10]
  unfold linksB
  by_cases q1 : 1 ≤ ds.length
  · have c1 : (1 : Int) ≤ (ds.length : Nat) := by omega
    by_cases q2 : ds.length ≤ 2000
    · have c2 : ((ds.length : Nat) : Int) ≤ 2000 := by omega
      have lc := ev_fzlcS (G := ⟨semN T ct (k + 5), ct⟩) (S := S) (L := [some d, none, none]) (vs := [1, 2]) (t := .tp [(.nm 1), (.nm 2)]) (it := .enu (.loc 0)) (c := .cst (.bl true)) (e := .call 9 (.cons (.loc 2) (.cons (.cmp .Eq (.loc 1) (.cst (.int 0))) .nil))) (items := enuFrom 0 ds) (g := g) (fun _ => true)
        (fun d => .bl (match d with | .tup [.int i, x] => linkB (i == 0) x | _ => false)) (fun y => match y with | .tup [i, x] => [some d, some i, some x] | _ => []) (by simp -implicitDefEqProofs [h3]) (by rw [enu_len]; omega) hg (by
          intro y hy T
          obtain ⟨i, x, hx, _, rfl⟩ := enu_mem hy
          refine ⟨rfl, rfl, fun _ => ⟨?_, rfl⟩⟩
          have lk := link_D (k := k) (S := S ++ T) (h x hx) (((0 + i : Nat) : Int) == 0)
          simp -implicitDefEqProofs [gc_same] at lk ⊢
          rw [lk]
          simp -implicitDefEqProofs [gc_same])
      rw [List.filter_eq_self.mpr (fun _ _ => rfl)] at lc
      have al := all_map (S := S) (fun d => match d with | .tup [.int i, x] => linkB (i == 0) x | _ => false) (enuFrom 0 ds)
      have ea := enu_all ds
      rw [List.all_map] at ea
      have ea2 : (enuFrom 0 ds).all (fun d => match d with | .tup [.int i, x] => linkB (i == 0) x | _ => false) = linksT ds := ea
      rw [ea2] at al
      rw [decide_eq_true q1, decide_eq_true q2, Bool.true_and, Bool.true_and]
      generalize (enuFrom 0 ds).map (fun d => D.bl (match d with | .tup [.int i, x] => linkB (i == 0) x | _ => false)) = es at al lc
      simp -implicitDefEqProofs [gc_same, h1, h2, c1, c2, gm, lc, al]
    · have c2 : ¬ ((ds.length : Nat) : Int) ≤ 2000 := by omega
      rw [decide_eq_false q2]
      simp -implicitDefEqProofs [gc_same, h1, h2, c1, c2, gm]
  · have c1 : ¬ (1 : Int) ≤ (ds.length : Nat) := by omega
    rw [decide_eq_false q1]
    simp -implicitDefEqProofs [gc_same, h1, h2, c1]
theorem links_pl {ds : List D} (h : ∀ x ∈ ds, okD 5 x = true) (hlt : ds.length < 1000000) : semN T ct (k + 6) 10 [.pl ds] S = .ok (.bl (linksB ds)) S := links_D h rfl rfl rfl (fun _ => gok0) hlt
theorem links_ref {n : Nat} {ds : List D} (e : S[n]? = some (.lst ds)) (h : ∀ x ∈ ds, okD 5 x = true) (hlt : ds.length < 1000000) : semN T ct (k + 6) 10 [.ref n] S = .ok (.bl (linksB ds)) S := by
  refine links_D (g := [(n, .lst ds)]) h ?_ (len_lst e) ?_ (fun T => ?_) hlt
  · show ofB (isiD S (.ref n) (.sta (.ty "list"))) S = _
    have : isiD S (.ref n) (.sta (.ty "list")) = some true := by
      simp only [isiD, tyOf, e]
      rfl
    rw [this]; rfl
  · show lsG S (.ref n) = _
    simp only [lsG, lstG, e]
  · intro p hp
    simp only [List.mem_singleton] at hp
    subst hp
    have : n < S.length := (List.getElem?_eq_some_iff.mp e).1
    show (S ++ T)[n]? = _
    rw [List.getElem?_append_left this]; exact e
theorem links_no {d : D} (h1 : biD .isi [d, .sta (.ty "list")] S = .ok (.bl false) S) : semN T ct (k + 6) 10 [d] S = .ok (.bl false) S := by
  rw [sem_run (f := c10) rfl]
  simp -implicitDefEqProofs only [runF, c10]
  simp -implicitDefEqProofs [gc_same, h1]
end
end K71
namespace K71
open PySem L2 Mi
section
variable {k : Nat} {S : Store}
theorem one_L : Str.ofString "=" = mkS [61] := lit_eq (by decide +kernel)
theorem byin_L {l : List Nat} (h : Sn l) (hl : l.length < 16777000) : semN T ct (k + 2) 12 [.str (mkS l)] S = .ok (optD (byP l)) S := by
  have gg : ct 8 = some (.str (Str.ofString "=")) := rfl
  have e1 := eqL (S := S) h (sn1 (c := 61) (by omega))
  rw [← one_L] at e1
  have s1 := slc1 (S := S) (l := l) (by omega)
  have e2 := neL (S := S) (h.sub (m := l.take 1) fun c hc => List.mem_of_mem_take hc) sn45
  rw [← minus_L] at e2
  have nk := numin_ok (k := k) (S := S) h hl
  rw [sem_run (f := c12) rfl]
  simp -implicitDefEqProofs only [runF, c12]
  unfold byP
  by_cases h1 : l = [61]
  · rw [decide_eq_true h1] at e1
    rw [if_pos h1]
    simp -implicitDefEqProofs [gc_same, gg, e1, optD]
  · rw [decide_eq_false h1] at e1
    rw [if_neg h1]
    by_cases h2 : l.take 1 = [45]
    · rw [decide_eq_true h2] at e2
      rw [if_pos h2]
      simp -implicitDefEqProofs [gc_same, gg, e1, s1, e2, optD]
    · rw [decide_eq_false h2] at e2
      rw [if_neg h2]
      simp -implicitDefEqProofs [gc_same, gg, e1, s1, e2, nk]
theorem progL_succ (W : List (List Nat)) (m : Nat) : progL W (m + 1) = progL W m ++ [linkP (wd W (2 * m + 2)) (byE (wd W (2 * m + 1)))] := by
  unfold progL
  rw [List.range_succ, List.map_append]; rfl
theorem progL_len (W : List (List Nat)) (m : Nat) : (progL W m).length = m + 1 := by simp [progL]
/-- the links that words write -/
theorem linksin_L {W : List (List Nat)} {m : Nat} (h : Ws W) (hm : W.length = 2 * m + 1) : semN T ct (k + 4) 14 [.pl (W.map fun w => .str (mkS w))] S = .ok (.ref S.length) (S ++ [.lst (progL W m)]) := by
  have hmany := h.many
  have at_ := fun (S : Store) (n : Nat) (hn : n < W.length) => idx_W (S := S) (W := W) hn
  have lw : biD .len [.pl (W.map fun w => D.str (mkS w))] (S ++ [.lst (progL W 0)]) = .ok (.int (W.length : Nat)) (S ++ [.lst (progL W 0)]) := by
    show R.ok (D.int ((W.map fun w => D.str (mkS w)).length : Nat)) _ = _
    rw [List.length_map]
  generalize hw : (W.map fun w => D.str (mkS w)) = ws at at_ lw ⊢
  have sy := fun (S : Store) (n : Nat) => sayin_L (k := k + 1) (S := S) (h.at n).1 (h.at n).2
  have by_ := fun (S : Store) (n : Nat) => byin_L (k := k + 1) (S := S) (h.at n).1 (h.at n).2
  have w0 := at_ S 0 (by omega)
  rw [sem_run (f := c14) rfl, runF_fin rfl]
  have rg : rngD [.int 1, .int ((W.length : Nat) - 1 : Int), .int 2] = some ((List.range m).map fun (k : Nat) => D.int (1 + (k : Int) * 2)) := by
    by_cases h0 : m = 0
    · subst h0
      rw [show (((W.length : Nat) - 1 : Int)) = 0 by omega]
      exact rng_none (by omega) (by omega) (by omega) (by omega)
    · exact rng_step (by omega) (by omega) (by omega) (by omega) (by omega) (by omega)
  obtain ⟨L', S', e, y2, y3, rfl, rfl⟩ := for_inv0 (g := []) (items := (List.range m).map fun (k : Nat) => D.int (1 + (k : Int) * 2)) (L := [some (.pl ws), some (.ref S.length), none, none]) (S := S ++ [.lst (progL W 0)]) (f := body2 ⟨semN T ct (k + 3), ct⟩ (.nm 2) ((.asg (.nm 3) (.call 12 (.cons (.idx (.loc 0) (.loc 2)) .nil)) (.exp (.mth .append (.loc 1) (.cons (.tup (.cons (.call 7 (.cons (.idx (.loc 0) (.bin .Add (.loc 2) (.cst (.int 1)))) .nil)) (.cons (.ite (.cmp .Is (.loc 3) (.cst .non)) (.cst (.str "")) (.loc 3)) .nil))) .nil)) .nil))))
    (fun i L S' => ∃ y2 y3, L = [some (.pl ws), some (.ref S.length), y2, y3] ∧ S' = S ++ [.lst (progL W i)]) ⟨none, none, rfl, rfl⟩ (fun _ _ _ _ => gok0) (by
      rintro i d L S' hd ⟨y2, y3, rfl, rfl⟩
      have hi : i < m := by
        have := (List.getElem?_eq_some_iff.mp hd).1
        simpa using this
      rw [List.getElem?_map, List.getElem?_range hi] at hd
      cases hd
      have a1 := at_ (S ++ [.lst (progL W i)]) (2 * i + 1) (by omega)
      have a2 := at_ (S ++ [.lst (progL W i)]) (2 * i + 2) (by omega)
      rw [show ((2 * i + 1 : Nat) : Int) = 1 + (i : Int) * 2 by omega] at a1
      rw [show ((2 * i + 2 : Nat) : Int) = 1 + (i : Int) * 2 + 1 by omega] at a2
      have b1 := by_ (S ++ [.lst (progL W i)]) (2 * i + 1)
      have s1 := sy (S ++ [.lst (progL W i)]) (2 * i + 2)
      have ap := app_end (S := S) (xs := progL W i) (d := linkP (wd W (2 * i + 2)) (byE (wd W (2 * i + 1)))) (by rw [progL_len]; omega)
      have ty := ty_end (S := S) (xs := progL W i)
      rw [← progL_succ] at ap
      unfold linkP byE at ap
      generalize progL W i = acc at a1 a2 b1 s1 ap ty ⊢
      generalize progL W (i + 1) = acc2 at ap ⊢
      generalize syP (wd W (2 * i + 2)) = o at s1 ap
      cases hb : byP (wd W (2 * i + 1)) with
      | none =>
        rw [hb] at b1 ap
        exact ⟨_, _, by simp -implicitDefEqProofs [body2, gc_same, gc_end2, a1, a2, b1, s1, ap, ty, optD]; (repeat' first | exact rfl | apply And.intro), _, _, rfl, rfl⟩
      | some v =>
        rw [hb] at b1 ap
        exact ⟨_, _, by simp -implicitDefEqProofs [body2, gc_same, gc_end2, a1, a2, b1, s1, ap, ty, optD]; (repeat' first | exact rfl | apply And.intro), _, _, rfl, rfl⟩)
  rw [List.length_map, List.length_range] at e
  have s0 := sy S 0
  have nw : ∀ d, newC (.lst [d]) S = .ok (.ref S.length) (S ++ [.lst [d]]) := fun _ => rfl
  have p0 : progL W 0 = [.tup [optS (syP (wd W 0)), .non]] := rfl
  rw [p0] at e lw
  have ge := gc_end (S := S) (lt_progL W m)
  simp -implicitDefEqProofs only [c14]
  have w0' : idxD (.pl ws) (.int 0) S = .ok (.str (mkS (wd W 0))) S := w0
  have hwl : ((ws.length : Nat) : Int) = (W.length : Nat) := by rw [← hw, List.length_map]
  simp -implicitDefEqProofs [gc_same, w0', s0, nw, hwl, rg]
  rw [e, then_nx]
  simp -implicitDefEqProofs [ge]
theorem okD_optS {n : Nat} {w : List Nat} (hn : 2 ≤ n) : okD n (optS (syP w)) = true := by
  obtain ⟨m, rfl⟩ : ∃ m, n = m + 2 := ⟨n - 2, by omega⟩
  cases e : syP w with
  | none => rfl
  | some s =>
    have nm := syP_nam e
    show ([D.str s.nm, .str (srt s.ls), .int s.i].all (okD (m + 1))) = true
    have l1 := nm.len
    have l2 : (srt s.ls).length < 16777000 := by cases s.ls <;> decide +kernel
    simp [okD, nm.ok, ok_srt, l2]
    omega
theorem okD_byE {n : Nat} {w : List Nat} (hn : 1 ≤ n) : okD n (byE w) = true := by
  obtain ⟨m, rfl⟩ : ∃ m, n = m + 1 := ⟨n - 1, by omega⟩
  unfold byE
  cases byP w with
  | none => show (PyData.strOk _ && decide _) = true; decide +kernel
  | some i => rfl
theorem okD_progL {W : List (List Nat)} {m : Nat} : ∀ x ∈ progL W m, okD 5 x = true := by
  intro x hx
  unfold progL at hx
  have go : ∀ w b, okD 4 b = true → okD 5 (linkP w b) = true := fun w b hb => by
    show ([optS (syP w), b].all (okD 4)) = true
    simp [okD_optS (n := 4) (w := w) (by omega), hb]
  rcases List.mem_cons.mp hx with rfl | hx
  · exact go _ _ rfl
  · obtain ⟨j, _, rfl⟩ := List.mem_map.mp hx
    exact go _ _ (okD_byE (by omega))
abbrev rowX : Exn := ⟨Str.ofString "NoText", some (Str.ofString "row", .int 0)⟩
abbrev spL (l : List Nat) : List (List Nat) := TL.spl [32] 0 [] l
/-- a chain's text, read: a new list -/
theorem readc_L {l : List Nat} (h : Sn l) (hl : l.length < 16776000) : match readV (spL l) with
    | some ds => semN T ct (k + 7) 16 [.str (mkS l)] S = .ok (.ref S.length) (S ++ [.lst ds])
    | none => ∃ T', semN T ct (k + 7) 16 [.str (mkS l)] S = .exc rowX (S ++ T') := by
  have ws := ws_spl (T := [32]) (by simp) h (by omega)
  have sp := split_fz' (S := S) (y := Str.ofString " ") (l := l) (by decide +kernel) (by decide +kernel) (by omega)
  rw [show (Str.ofString " ").cps.toList = [32] by decide +kernel] at sp
  have i1 := isiL (S := S) (l := l)
  have gm : ct 6 = some (.int 2000) := rfl
  have ml : ∀ S : Store, binD .Mult (.int 2) (.int 2000) S = .ok (.int 4000) S := fun S => bin_mul (.inl (by omega))
  have md : ∀ (i : Int) (S : Store), binD .Mod (.int i) (.int 2) S = .ok (.int (i % 2)) S := fun i S => bin_mod (by omega)
  show match readV (TL.spl [32] 0 [] l) with
    | some ds => semN T ct (k + 6 + 1) 16 [.str (mkS l)] S = .ok (.ref S.length) (S ++ [.lst ds])
    | none => ∃ T', semN T ct (k + 6 + 1) 16 [.str (mkS l)] S = .exc rowX (S ++ T')
  rw [sem_run (f := c16) rfl, runF_fin rfl]
  simp -implicitDefEqProofs only [c16]
  generalize hW : TL.spl [32] 0 [] l = W at ws sp ⊢
  have lw : biD .len [.pl (W.map fun w => D.str (mkS w))] S = .ok (.int (W.length : Nat)) S := by
    show R.ok (D.int ((W.map fun w => D.str (mkS w)).length : Nat)) _ = _
    rw [List.length_map]
  have li := fun m hm => linksin_L (k := k + 2) (S := S) (m := m) ws hm
  have hwl : (((W.map fun w => D.str (mkS w)).length : Nat) : Int) = (W.length : Nat) := by rw [List.length_map]
  generalize hw : (W.map fun w => D.str (mkS w)) = wl at sp lw li hwl
  unfold readV
  by_cases q1 : W.length % 2 = 0
  · rw [if_pos (.inl q1)]
    have e1 : ((((W.length : Nat) : Int) % 2) == 0) = true := by rw [beq_iff_eq]; omega
    exact ⟨[], by simp -implicitDefEqProofs [gc_same, i1, sp, hwl, md, e1]⟩
  · have e1 : ((((W.length : Nat) : Int) % 2) == 0) = false := by rw [beq_eq_false_iff_ne]; omega
    by_cases q2 : 3999 < W.length
    · rw [if_pos (.inr q2)]
      have e2 : (3999 : Int) < ((W.length : Nat) : Int) := by omega
      exact ⟨[], by simp -implicitDefEqProofs [gc_same, i1, sp, hwl, md, e1, gm, ml, e2]⟩
    · have e2 : ¬ (3999 : Int) < ((W.length : Nat) : Int) := by omega
      rw [if_neg (by simp [q1]; omega)]
      have l2 := li (W.length / 2) (by omega)
      have hl := links_ref (k := k) (S := S ++ [.lst (progL W (W.length / 2))]) (n := S.length) (ds := progL W (W.length / 2)) (by simp) okD_progL (by rw [progL_len]; omega)
      have lv : linksB (progL W (W.length / 2)) = goodV W (W.length / 2) := by
        unfold linksB
        rw [progL_len, decide_eq_true (by omega), decide_eq_true (by omega), goodV_eq]; rfl
      rw [lv] at hl
      have ge := gc_end (S := S) (lt_progL W (W.length / 2))
      cases hg : goodV W (W.length / 2) with
      | true =>
        rw [hg] at hl
        rw [prog_law hg] at l2 hl ge
        rw [if_pos rfl]
        simp -implicitDefEqProofs [gc_same, i1, sp, hwl, md, e1, gm, ml, e2, l2, ge, hl]
      | false =>
        rw [hg] at hl
        rw [if_neg (by simp)]
        generalize progL W (W.length / 2) = ds at l2 hl ge
        exact ⟨[.lst ds], by simp -implicitDefEqProofs [gc_same, i1, sp, hwl, md, e1, gm, ml, e2, l2, ge, hl]⟩
theorem readc_no {d : D} (h1 : biD .isi [d, .sta (.ty "str")] S = .ok (.bl false) S) : semN T ct (k + 1) 16 [d] S = .exc rowX S := by
  rw [sem_run (f := c16) rfl, runF_fin rfl]
  simp -implicitDefEqProofs only [c16]
  simp -implicitDefEqProofs [gc_same, h1]
/-- what the law hears -/
def rowD : D := .tup [.str (Str.ofString "row"), .int 0]
theorem told_row {d : D} {T' : Store} (h : semN T ct k 16 [d] S = .exc rowX (S ++ T')) : semN T ct (k + 1) 26 [d] S = .ok rowD S := by
  rw [sem_run (f := c26) rfl, runF_fin rfl]
  simp -implicitDefEqProofs only [c26]
  have g1 : Mi.gc S rowD (S ++ T') = .ok rowD S := gc_drop (by simp [rowD])
  have hd : hdS rowX [⟨["NoText"], (some 2), (.asg 1 (.tupf "row" ["NoText"] "row"))⟩, ⟨["NoChain", "NoText"], none, (.asg 1 (.cst (.str "other")))⟩] [some d, some .non, none] (S ++ T') = .ok (.nx, [some d, some rowD, none]) (S ++ T') := rfl
  have hc : (["NoChain", "NoText"] : List Str).contains rowX.cls = true := by decide +kernel
  simp -implicitDefEqProofs [ex_tryM, ex_xasg, h]
  rw [hd, then_nx]
  simp -implicitDefEqProofs [g1]
theorem told_list {d : D} {ds : List D} (h : semN T ct k 16 [d] S = .ok (.ref S.length) (S ++ [.lst ds])) (hlt : D.ltAll S.length ds = true) : semN T ct (k + 1) 26 [d] S = .ok (.ref S.length) (S ++ [.lst ds]) := by
  rw [sem_run (f := c26) rfl, runF_fin rfl]
  simp -implicitDefEqProofs only [c26]
  have ge := gc_end (S := S) hlt
  simp -implicitDefEqProofs [ex_tryM, ex_xasg, h, ge]
end
end K71
namespace K71
open PySem L2 Mi
section
variable {k : Nat} {S : Store}
def optL (o : Option (List D)) : D := match o with
  | some ds => .pl ds
  | none => .non
theorem lawE_succ (W : List (List Nat)) (m : Nat) : (List.range (m + 1)).map (lawE W) = (List.range m).map (lawE W) ++ [lawE W m] := by
  rw [List.range_succ, List.map_append]; rfl
/-- the chain that a text writes, as the law reads -/
theorem due_L {l : List Nat} (h : Sn l) (hl : l.length < 16776000) : semN T ct (k + 4) 25 [.str (mkS l)] S = .ok (optL (readV (spL l))) S := by
  have ws := ws_spl (T := [32]) (by simp) h (by omega)
  have sp := split_fz' (S := S) (y := Str.ofString " ") (l := l) (by decide +kernel) (by decide +kernel) (by omega)
  rw [show (Str.ofString " ").cps.toList = [32] by decide +kernel] at sp
  have md : ∀ (i : Int) (S : Store), binD .Mod (.int i) (.int 2) S = .ok (.int (i % 2)) S := fun i S => bin_mod (by omega)
  show semN T ct (k + 3 + 1) 25 [.str (mkS l)] S = .ok (optL (readV (TL.spl [32] 0 [] l))) S
  rw [sem_run (f := c25) rfl, runF_fin rfl]
  simp -implicitDefEqProofs only [c25]
  generalize hW : TL.spl [32] 0 [] l = W at ws sp ⊢
  have hmany := ws.many
  have at_ := fun (S : Store) (n : Nat) (hn : n < W.length) => idx_W (S := S) (W := W) hn
  have hwl : (((W.map fun w => D.str (mkS w)).length : Nat) : Int) = (W.length : Nat) := by rw [List.length_map]
  have lte : D.ltAll S.length (W.map fun w => D.str (mkS w)) = true := ltAll_mk W
  generalize hw : (W.map fun w => D.str (mkS w)) = wl at sp at_ hwl lte
  have nw : newC (.lst []) S = .ok (.ref S.length) (S ++ [.lst []]) := rfl
  have gd : ∀ (d : D) (T' : Store), d.lt S.length = true → Mi.gc S d (S ++ T') = .ok d S := fun d T' hd => gc_drop hd
  have g0 := gd .non [.lst []] rfl
  unfold readV
  by_cases q1 : W.length % 2 = 0
  · rw [if_pos (.inl q1)]
    have e1 : ((((W.length : Nat) : Int) % 2) == 0) = true := by rw [beq_iff_eq]; omega
    simp -implicitDefEqProofs [gc_same, sp, nw, hwl, md, e1, g0, optL]
  · have e1 : ((((W.length : Nat) : Int) % 2) == 0) = false := by rw [beq_eq_false_iff_ne]; omega
    by_cases q2 : 3999 < W.length
    · rw [if_pos (.inr q2)]
      have e2 : (3999 : Int) < ((W.length : Nat) : Int) := by omega
      simp -implicitDefEqProofs [gc_same, sp, nw, hwl, md, e1, e2, g0, optL]
    · have e2 : ¬ (3999 : Int) < ((W.length : Nat) : Int) := by omega
      rw [if_neg (by simp [q1]; omega)]
      obtain ⟨m, hm⟩ : ∃ m, W.length / 2 = m := ⟨_, rfl⟩
      have hm2 : W.length = 2 * m + 1 := by omega
      rw [hm]
      have rg : rngD [.int 0, .int ((W.length : Nat) : Int), .int 2] = some ((List.range (m + 1)).map fun (k : Nat) => D.int (0 + (k : Int) * 2)) := rng_step (by omega) (by omega) (by omega) (by omega) (by omega) (by omega)
      have sy := fun (S : Store) (n : Nat) => lsay_L (k := k + 1) (S := S) (ws.at n).1 (ws.at n).2
      have nk := fun (S : Store) (n : Nat) => lnum_ok (k := k + 2) (S := S) (ws.at n).1 (ws.at n).2
      have eq1 := fun (S : Store) (n : Nat) => eqL (S := S) (ws.at n).1 (sn1 (c := 61) (by omega))
      have ne1 := fun (S : Store) (n : Nat) => neL (S := S) (ws.at n).1 (sn1 (c := 61) (by omega))
      rw [← one_L] at eq1 ne1
      have loop := for_or (f := body2 ⟨semN T ct (k + 3), ct⟩ (.nm 3) ((.asg (.nm 4) (.cst .non) (.ifs (.cmp .Gt (.loc 3) (.cst (.int 0))) (.asg (.nm 4) (.ite (.cmp .Eq (.idx (.loc 1) (.bin .Sub (.loc 3) (.cst (.int 1)))) (.cst (.str "="))) (.bin .Sub (.cst (.int 0)) (.cst (.int 1))) (.call 23 (.cons (.idx (.loc 1) (.bin .Sub (.loc 3) (.cst (.int 1)))) .nil))) (.ifs (.or (.cmp .Is (.loc 4) (.cst .non)) (.or (.cmp .Gt (.loc 4) (.cst (.int 39))) (.and (.cmp .Lt (.loc 4) (.cst (.int 0))) (.cmp .NotEq (.idx (.loc 1) (.bin .Sub (.loc 3) (.cst (.int 1)))) (.cst (.str "=")))))) (.ret (.cst .non)) .nil .nil)) .nil (.exp (.mth .append (.loc 2) (.cons (.tup (.cons (.call 24 (.cons (.idx (.loc 1) (.loc 3)) .nil)) (.cons (.loc 4) .nil))) .nil)) .nil))))) (fun i L S' => ∃ y3 y4 y5, L = [some (.str (mkS l)), some (.pl wl), some (.ref S.length), y3, y4, y5] ∧ S' = S ++ [.lst ((List.range i).map (lawE W))] ∧ ∀ j < i, (decide (j = 0) || (byV (wd W (2 * j - 1))).isSome) = true)
        (fun i v S' => v = .non ∧ (∃ T', S' = S ++ T') ∧ (decide (i = 0) || (byV (wd W (2 * i - 1))).isSome) = false) ((List.range (m + 1)).map fun (k : Nat) => D.int (0 + (k : Int) * 2)) 0 [some (.str (mkS l)), some (.pl wl), some (.ref S.length), none, none, none] (S ++ [.lst []])
        ⟨none, none, none, rfl, rfl, fun j hj => absurd hj (by omega)⟩ (by
          rintro i d L S' _ hd ⟨y3, y4, y5, rfl, rfl, hgood⟩
          have hi : i < m + 1 := by
            have := (List.getElem?_eq_some_iff.mp hd).1
            simpa using this
          rw [Nat.sub_zero, List.getElem?_map, List.getElem?_range hi] at hd
          cases hd
          have accl : ((List.range i).map (lawE W)).length < 16777216 := by simp; omega
          have ap := app_end (S := S) (xs := (List.range i).map (lawE W)) (d := lawE W i) accl
          have ty := ty_end (S := S) (xs := (List.range i).map (lawE W))
          rw [← lawE_succ] at ap
          by_cases hi0 : i = 0
          · subst hi0
            left
            have s1 := sy (S ++ [.lst ((List.range 0).map (lawE W))]) 0
            have a1 := at_ (S ++ [.lst ((List.range 0).map (lawE W))]) 0 (by omega)
            rw [show lawE W 0 = .tup [optS (syW (wd W 0)), .non] from rfl] at ap
            have a1' : idxD (.pl wl) (.int 0) (S ++ [.lst ((List.range 0).map (lawE W))]) = .ok (.str (mkS (wd W 0))) (S ++ [.lst ((List.range 0).map (lawE W))]) := a1
            generalize (List.range 0).map (lawE W) = acc at ap s1 a1' ty ⊢
            generalize hacc2 : (List.range (0 + 1)).map (lawE W) = acc2 at ap
            refine ⟨[some (.str (mkS l)), some (.pl wl), some (.ref S.length), some (.int 0), some .non, y5], S ++ [.lst acc2], ?_, some (.int 0), some .non, y5, rfl, by rw [← hacc2], fun j hj => by
              have : j = 0 := by omega
              subst this; rfl⟩
            simp -implicitDefEqProofs [body2, gc_same, gc_end2, s1, a1', ap, ty]
          · have s1 := sy (S ++ [.lst ((List.range i).map (lawE W))]) (2 * i)
            have a1 := at_ (S ++ [.lst ((List.range i).map (lawE W))]) (2 * i) (by omega)
            have a2 := at_ (S ++ [.lst ((List.range i).map (lawE W))]) (2 * i - 1) (by omega)
            have n2 := nk (S ++ [.lst ((List.range i).map (lawE W))]) (2 * i - 1)
            have q3 := eq1 (S ++ [.lst ((List.range i).map (lawE W))]) (2 * i - 1)
            have q4 := ne1 (S ++ [.lst ((List.range i).map (lawE W))]) (2 * i - 1)
            rw [show ((2 * i : Nat) : Int) = 0 + (i : Int) * 2 by omega] at a1
            rw [show ((2 * i - 1 : Nat) : Int) = 0 + (i : Int) * 2 - 1 by omega] at a2
            rw [Int.zero_add] at a1 a2
            have eE : lawE W i = .tup [optS (syW (wd W (2 * i))), optD (byV (wd W (2 * i - 1)))] := by
              unfold lawE
              rw [if_neg hi0]
            rw [eE] at ap
            have bv := byL_ok (wd W (2 * i - 1))
            have lte2 : (decide (i = 0) || (byV (wd W (2 * i - 1))).isSome) = (byV (wd W (2 * i - 1))).isSome := by rw [decide_eq_false hi0, Bool.false_or]
            rw [lte2]
            have gt0 : (0 : Int) < (i : Int) * 2 := by omega
            have hgd : ∀ j < i + 1, (byV (wd W (2 * i - 1))).isSome = true → (decide (j = 0) || (byV (wd W (2 * j - 1))).isSome) = true := fun j hj hb => by
              by_cases hji : j = i
              · subst hji; rw [lte2]; exact hb
              · exact hgood j (by omega)
            generalize (List.range i).map (lawE W) = acc at ap ty s1 a1 a2 n2 q3 q4 ⊢
            generalize (List.range (i + 1)).map (lawE W) = acc2 at ap ⊢
            generalize syW (wd W (2 * i)) = o at s1 ap
            generalize wd W (2 * i - 1) = w at a2 n2 q3 q4 bv hgd ap
            by_cases h61 : w = [61]
            · left
              have bv1 : byV w = some (-1) := by rw [← bv]; simp [byL, h61]
              rw [bv1] at ap
              simp only [optD] at ap
              rw [decide_eq_true h61] at q3 q4
              refine ⟨[some (.str (mkS l)), some (.pl wl), some (.ref S.length), some (.int (0 + (i : Int) * 2)), some (.int (-1)), y5], S ++ [.lst acc2], ?_, _, _, _, rfl, rfl, fun j hj => hgd j hj (by rw [bv1]; rfl)⟩
              simp -implicitDefEqProofs [body2, gc_same, gc_end2, s1, a1, a2, q3, q4, ap, ty, gt0, optD]
            · have bl : byL w = numV w := if_neg h61
              rw [bl] at bv
              rw [decide_eq_false h61] at q3 q4
              cases hn : numV w with
              | none =>
                rw [hn] at bv n2
                right
                refine ⟨.non, [some (.str (mkS l)), some (.pl wl), some (.ref S.length), some (.int (0 + (i : Int) * 2)), some .non, y5], S ++ [.lst acc], ?_, rfl, ⟨_, rfl⟩, by rw [← bv]; rfl⟩
                simp -implicitDefEqProofs [body2, gc_same, a1, a2, n2, q3, gt0, optD]
              | some v =>
                rw [hn] at bv n2
                by_cases h39 : 39 < v
                · right
                  refine ⟨.non, [some (.str (mkS l)), some (.pl wl), some (.ref S.length), some (.int (0 + (i : Int) * 2)), some (.int v), y5], S ++ [.lst acc], ?_, rfl, ⟨_, rfl⟩, by rw [← bv]; simp [h39]⟩
                  simp -implicitDefEqProofs [body2, gc_same, a1, a2, n2, q3, gt0, optD, h39]
                · by_cases h0 : v < 0
                  · right
                    refine ⟨.non, [some (.str (mkS l)), some (.pl wl), some (.ref S.length), some (.int (0 + (i : Int) * 2)), some (.int v), y5], S ++ [.lst acc], ?_, rfl, ⟨_, rfl⟩, by rw [← bv]; simp [h0, h61]⟩
                    simp -implicitDefEqProofs [body2, gc_same, a1, a2, n2, q3, q4, gt0, optD, h39, h0]
                  · left
                    have bv1 : byV w = some v := by rw [← bv]; simp [h39, h0]
                    rw [bv1] at ap
                    simp only [optD] at ap
                    refine ⟨[some (.str (mkS l)), some (.pl wl), some (.ref S.length), some (.int (0 + (i : Int) * 2)), some (.int v), y5], S ++ [.lst acc2], ?_, _, _, _, rfl, rfl, fun j hj => hgd j hj (by rw [bv1]; rfl)⟩
                    simp -implicitDefEqProofs [body2, gc_same, gc_end2, s1, a1, a2, n2, q3, gt0, optD, h39, h0, ap, ty])
      simp -implicitDefEqProofs [gc_same, sp, nw, hwl, md, e1, e2]
      rw [rg]
      simp -implicitDefEqProofs only [Option.map_some, ofO_some, R.bind_ok]
      rcases loop with ⟨L', S', e, y3, y4, y5, rfl, rfl, hgood⟩ | ⟨i, v, L', S', _, hi, e, rfl, ⟨T', rfl⟩, hbad⟩
      · rw [List.length_map, List.length_range, Nat.zero_add] at e hgood
        rw [e, then_nx, fzv_end rfl]
        have lc := ev_fzlcS (G := ⟨semN T ct (k + 3), ct⟩) (S := S ++ [.ded]) (L := [some (.str (mkS l)), some (.pl wl), some (.pl (lawL W m)), y3, y4, y5]) (vs := [5, 4]) (t := .tp [(.nm 5), (.nm 4)]) (it := .val (.loc 2)) (c := .cst (.bl true)) (e := .loc 5) (items := lawL W m) (g := []) (fun _ => true)
          (fun d => match d with | .tup [o, b] => o | _ => .non) (fun d => match d with | .tup [o, b] => [some (.str (mkS l)), some (.pl wl), some (.pl (lawL W m)), y3, some b, some o] | _ => []) (by simp -implicitDefEqProofs []) (by simp [lawL]; omega) (fun _ => gok0) (by
            intro d hd T'
            obtain ⟨j, _, rfl⟩ := List.mem_map.mp hd
            exact ⟨rfl, rfl, fun _ => ⟨rfl, by simp [lawE]⟩⟩)
        rw [List.filter_eq_self.mpr (fun _ _ => rfl)] at lc
        have e5 : (lawL W m).map (fun d => match d with | .tup [o, b] => o | _ => .non) = (((List.range (m + 1)).map fun j => syW (wd W (2 * j))).map optS) := by
          unfold lawL
          rw [List.map_map, List.map_map]; rfl
        rw [e5] at lc
        have ni := none_in (S := S ++ [.ded]) (os := (List.range (m + 1)).map fun j => syW (wd W (2 * j))) (by
          intro o ho s hs
          obtain ⟨j, _, rfl⟩ := List.mem_map.mp ho
          rw [syW_eq] at hs
          cases hp : syP (wd W (2 * j)) with
          | none => rw [hp] at hs; cases hs
          | some s2 =>
            rw [hp] at hs
            have : s2 = s := by
              simp only [Option.filter] at hs
              split at hs
              · cases hs; rfl
              · cases hs
            rw [← this]
            exact (syP_nam hp).ok)
        have gv : goodV W m = !(((List.range (m + 1)).map fun j => syW (wd W (2 * j))).any fun o => o.isNone) := by
          unfold goodV
          rw [List.any_map, Bool.eq_iff_iff]
          simp only [List.all_eq_true, Bool.not_eq_true', List.any_eq_false, List.mem_range, Bool.and_eq_true, Function.comp]
          constructor
          · intro z j hj
            have := (z j hj).1
            intro q
            rw [Option.isNone_iff_eq_none] at q
            rw [q] at this; cases this
          · intro z j hj
            refine ⟨?_, hgood j hj⟩
            have := z j hj
            cases q : syW (wd W (2 * j)) with
            | none => rw [q] at this; exact absurd rfl this
            | some _ => rfl
        rw [gv]
        have gL := gd (.pl (lawL W m)) [.ded] (lt_lawL W m)
        have gN := gd .non [.ded] rfl
        have eL : ((List.range (m + 1)).map (lawE W)) = lawL W m := rfl
        rw [eL]
        generalize (((List.range (m + 1)).map fun j => syW (wd W (2 * j))).map optS) = os at lc ni
        cases hq : (((List.range (m + 1)).map fun j => syW (wd W (2 * j))).any fun o => o.isNone) <;> rw [hq] at ni <;> simp -implicitDefEqProofs [gc_same, lc, ni, gL, gN, optL]
      · rw [List.length_map, List.length_range, Nat.zero_add] at hi
        rw [e, then_ret]
        have : goodV W m = false := by
          unfold goodV
          rw [List.all_eq_false]
          refine ⟨i, by simpa using hi, ?_⟩
          rw [hbad]; simp
        rw [this]
        have gN := gd .non T' rfl
        simp -implicitDefEqProofs [gN, optL]
end
end K71
namespace K71
open PySem L2 Mi
section
variable {k : Nat} {S : Store}
theorem sayt_L {s : Sy} (h : LkOk s) : semN T ct (k + 1) 6 [syD s] S = .ok (.str (syS s)) S := by
  have as : asgT (.tp [.nm 1, .nm 2, .nm 3]) (syD s) S [some (syD s), none, none, none] = some [some (syD s), some (.str s.nm), some (.str (srt s.ls)), some (.int s.i)] := rfl
  have lk := lk_mk s.ls
  have f3 := fst_three (x := s.nm) (m := mk s.ls) h.lo h.hi (by have := h.nm.len; omega) (by rw [mk_len]; omega)
  rw [syS_app] at f3
  rw [sem_run (f := c6) rfl]
  simp -implicitDefEqProofs only [runF, c6]
  simp -implicitDefEqProofs [as, gc_same, lk, f3]
theorem lshow_L {s : Sy} (h : LkOk s) : semN T ct (k + 1) 20 [syD s] S = .ok (.str (syS s)) S := by
  have st := bi_str_int (i := s.i) (S := S) h.lo h.hi
  have w := wd_iS h.lo h.hi
  have wl := w.len
  have nl := h.nm.len
  have d := ev_fzdct (G := ⟨semN T ct k, ct⟩) (L := [some (syD s)]) (S := S) (as := .cons (.cst (.str (Str.ofString "least"))) (.cons (.cst (.str (Str.ofString ">="))) (.cons (.cst (.str (Str.ofString "most"))) (.cons (.cst (.str (Str.ofString "<="))) .nil)))) (kvs := [(.inr (Str.ofString "least"), D.str (Str.ofString ">=")), (.inr (Str.ofString "most"), D.str (Str.ofString "<="))]) rfl rfl (by simp) (by decide +kernel) (by simp)
  have ix : idxD (.pd [.inr (Str.ofString "least"), .inr (Str.ofString "most")] [.str (Str.ofString ">="), .str (Str.ofString "<=")]) (.str (srt s.ls)) S = .ok (.str (mk s.ls)) S := by
    cases s.ls <;> rfl
  have a1 : binD .Add (.str s.nm) (.str (mk s.ls)) S = .ok (.str (s.nm ++ mk s.ls)) S := by
    rw [bin_addS, sizeOk_le (by rw [mk_len]; omega)]; rfl
  have l2 : (s.nm ++ mk s.ls).length = s.nm.length + 2 := by rw [str_len, app_l, List.length_append, ← str_len, ← str_len, mk_len]
  have a2 : binD .Add (.str (s.nm ++ mk s.ls)) (.str (iS s.i)) S = .ok (.str (syS s)) S := by
    rw [bin_addS, sizeOk_le (by rw [l2]; omega), syS_app]; rfl
  have i0 : idxD (syD s) (.int 0) S = .ok (.str s.nm) S := ixT (i := 0) rfl
  have i1 : idxD (syD s) (.int 1) S = .ok (.str (srt s.ls)) S := ixT (i := 1) rfl
  have i2 : idxD (syD s) (.int 2) S = .ok (.int s.i) S := ixT (i := 2) rfl
  rw [sem_run (f := c20) rfl]
  simp -implicitDefEqProofs only [runF, c20]
  simp -implicitDefEqProofs [-bin_addS, gc_same, st, d, ix, a1, a2, i0, i1, i2]
theorem bytext_L {i : Int} (h0 : -1 ≤ i) (h1 : i ≤ 39) : semN T ct (k + 1) 11 [.int i] S = .ok (.str (byS i)) S := by
  have st := bi_str_int (i := i) (S := S) (by omega) (by omega)
  have gg : ct 8 = some (.str (Str.ofString "=")) := rfl
  rw [sem_run (f := c11) rfl]
  simp -implicitDefEqProofs only [runF, c11]
  unfold byS
  by_cases h : i = -1
  · subst h
    simp -implicitDefEqProofs [gc_same, gg]
  · rw [if_neg h]
    have e : (i == -1) = false := by rw [beq_eq_false_iff_ne]; exact h
    simp -implicitDefEqProofs [gc_same, e, st]
theorem chW_app (s : Sy) (r : List (Sy × Int)) (p : Sy × Int) : (chW s (r ++ [p])).map D.str = (chW s r).map D.str ++ [.str (byS p.2), .str (syS p.1)] := by
  unfold chW
  rw [List.flatMap_append]
  simp
theorem tail_chD {s : Sy} {r : List (Sy × Int)} : ((slcD (.pl (chD s r)) (some 1) none S).gc S).fz S = .ok (.pl (r.map fun p => lkD p.1 (.int p.2))) S := by
  have e : slcD (.pl (chD s r)) (some 1) none S = newC (.lst (r.map fun p => lkD p.1 (.int p.2))) S := by
    show newC (.lst (cutD (chD s r) (some 1) none)) S = _
    rw [cut_from _ (by omega)]; rfl
  rw [e]
  refine newG_same (ltAll_iff.mpr fun d hd => ?_)
  obtain ⟨p, _, rfl⟩ := List.mem_map.mp hd
  simp [lkD]
theorem head_chD {s : Sy} {r : List (Sy × Int)} : idxD (.pl (chD s r)) (.int 0) S = .ok (lkD s .non) S := by
  show optR (L2.atI (chD s r) ((0 : Nat) : Int)) S = _
  rw [Mi.atI_nat (x := lkD s .non) rfl]; rfl
/-- a loop that puts two words on for each link -/
theorem words_loop {G : Gv} {b : CSs} {s : Sy} {r : List (Sy × Int)} {a : D} (h : ChOk s r) (turn : ∀ (p : Sy × Int) (ws : List D) (y2 y3 : Option D), LkOk p.1 → -1 ≤ p.2 → p.2 ≤ 39 → ws.length < 16000000 →
    body2 G (.tp [.nm 2, .nm 3]) b (lkD p.1 (.int p.2)) [some a, some (.ref S.length), y2, y3] (S ++ [.lst ws]) = .ok (.nx, [some a, some (.ref S.length), some (syD p.1), some (.int p.2)]) (S ++ [.lst (ws ++ [.str (byS p.2), .str (syS p.1)])])) :
    ∃ y2 y3, forLoop (body2 G (.tp [.nm 2, .nm 3]) b) [] (r.map fun p => lkD p.1 (.int p.2)) [some a, some (.ref S.length), none, none] (S ++ [.lst [.str (syS s)]]) = .ok (.nx, [some a, some (.ref S.length), y2, y3]) (S ++ [.lst ((chW s r).map D.str)]) := by
  obtain ⟨L', S', e, y2, y3, rfl, rfl⟩ := for_inv0 (g := []) (items := r.map fun p => lkD p.1 (.int p.2)) (L := [some a, some (.ref S.length), none, none]) (S := S ++ [.lst [.str (syS s)]]) (f := body2 G (.tp [.nm 2, .nm 3]) b)
    (fun i L S' => ∃ y2 y3, L = [some a, some (.ref S.length), y2, y3] ∧ S' = S ++ [.lst ((chW s (r.take i)).map D.str)]) ⟨none, none, rfl, rfl⟩ (fun _ _ _ _ => gok0) (by
      rintro i d L S' hd ⟨y2, y3, rfl, rfl⟩
      rw [List.getElem?_map] at hd
      obtain ⟨p, hp, rfl⟩ := Option.map_eq_some_iff.mp hd
      obtain ⟨q1, q2, q3⟩ := h.rs p (List.mem_of_getElem? hp)
      have hl := h.len
      have t := turn p ((chW s (r.take i)).map D.str) y2 y3 q1 q2 q3 (by rw [List.length_map, chW_len, List.length_take]; omega)
      rw [← chW_app] at t
      have ht : r.take (i + 1) = r.take i ++ [p] := by rw [List.take_succ]; rw [show r[i]? = some p from hp]; rfl
      exact ⟨_, _, t, _, _, rfl, by rw [ht]⟩)
  rw [List.length_map, List.take_length] at e
  exact ⟨y2, y3, e⟩
theorem lt_strs {n : Nat} (ys : List Str) : D.ltAll n (ys.map D.str) = true := ltAll_strs ys
theorem linkst_L {s : Sy} {r : List (Sy × Int)} (h : ChOk s r) : semN T ct (k + 2) 13 [.pl (chD s r)] S = .ok (.pl ((chW s r).map D.str)) S := by
  have h0 := head_chD (S := S) (s := s) (r := r)
  have hs := sayt_L (k := k) (S := S) h.s0
  have tl := tail_chD (S := S ++ [.lst [.str (syS s)]]) (s := s) (r := r)
  have j0 : idxD (lkD s .non) (.int 0) S = .ok (syD s) S := ixT (i := 0) rfl
  have nw : newC (.lst [.str (syS s)]) S = .ok (.ref S.length) (S ++ [.lst [.str (syS s)]]) := rfl
  obtain ⟨y2, y3, e⟩ := words_loop (S := S) (G := ⟨semN T ct (k + 1), ct⟩) (b := (.exp (.mth .extend (.loc 1) (.cons (.fz (.lst (.cons (.call 11 (.cons (.loc 3) .nil)) (.cons (.call 6 (.cons (.loc 2) .nil)) .nil)))) .nil)) .nil)) (a := .pl (chD s r)) h (by
    intro p ws y2 y3 q1 q2 q3 q4
    have b1 := bytext_L (k := k) (S := S ++ [.lst ws]) q2 q3
    have s1 := sayt_L (k := k) (S := S ++ [.lst ws]) q1
    have ex := ext_end (S := S) (xs := ws) (ys := [.str (byS p.2), .str (syS p.1)]) (by simp; omega)
    have ty := ty_extend (S := S) (xs := ws)
    have as : asgT (.tp [.nm 2, .nm 3]) (lkD p.1 (.int p.2)) (S ++ [.lst ws]) [some (.pl (chD s r)), some (.ref S.length), y2, y3] = some [some (.pl (chD s r)), some (.ref S.length), some (syD p.1), some (.int p.2)] := rfl
    unfold body2
    rw [as]
    simp -implicitDefEqProofs [gc_same, gc_end2, b1, s1, ex, ty])
  rw [sem_run (f := c13) rfl, runF_fin rfl]
  simp -implicitDefEqProofs only [c13]
  simp -implicitDefEqProofs [gc_same, h0, hs, j0, nw, tl]
  rw [e, then_nx, fzv_end rfl]
  have g1 := gc_drop (S := S) (T := [.ded]) (d := .pl ((chW s r).map D.str)) (lt_strs _)
  generalize (chW s r).map D.str = ws at g1 ⊢
  simp -implicitDefEqProofs [g1]
theorem join_chW {s : Sy} {r : List (Sy × Int)} (h : ChOk s r) : mtD .join (.str (Str.ofString " ")) [.pl ((chW s r).map D.str)] S = .ok (.str (chT s r)) S := by
  have s1 := sum_le (b := 64) (ys := chW s r) fun y hy => (chW_wd h y hy).len
  have l1 := chW_len s r
  have l2 := h.len
  have l3 : (Str.ofString " ").length = 1 := by decide +kernel
  exact join_pl (by rw [l3]; omega)
theorem showc_L {s : Sy} {r : List (Sy × Int)} (h : ChOk s r) : semN T ct (k + 7) 15 [.pl (chD s r)] S = if r.length ≤ 1999 then .ok (.str (chT s r)) S else .exc ⟨Str.ofString "NoChain", none⟩ S := by
  have hl := h.len
  have lk := links_pl (k := k) (S := S) (ds := chD s r) (okD_chD h) (by rw [chD_len]; omega)
  rw [links_ok h] at lk
  have lt := linkst_L (k := k + 4) (S := S) h
  have jn := join_chW (S := S) h
  show semN T ct (k + 6 + 1) 15 [.pl (chD s r)] S = _
  rw [sem_run (f := c15) rfl, runF_fin rfl]
  simp -implicitDefEqProofs only [c15]
  generalize (chW s r).map D.str = ws at lt jn
  generalize chD s r = ch at lk lt
  by_cases q : r.length ≤ 1999
  · rw [decide_eq_true q] at lk
    rw [if_pos q]
    simp -implicitDefEqProofs [gc_same, lk, lt, jn]
  · rw [decide_eq_false q] at lk
    rw [if_neg q]
    simp -implicitDefEqProofs [gc_same, lk]
theorem lshowc_L {s : Sy} {r : List (Sy × Int)} (h : ChOk s r) : semN T ct (k + 2) 21 [.pl (chD s r)] S = .ok (.str (chT s r)) S := by
  have h0 := head_chD (S := S) (s := s) (r := r)
  have hs := lshow_L (k := k) (S := S) h.s0
  have tl := tail_chD (S := S ++ [.lst [.str (syS s)]]) (s := s) (r := r)
  have j0 : idxD (lkD s .non) (.int 0) S = .ok (syD s) S := ixT (i := 0) rfl
  have nw : newC (.lst [.str (syS s)]) S = .ok (.ref S.length) (S ++ [.lst [.str (syS s)]]) := rfl
  obtain ⟨y2, y3, e⟩ := words_loop (S := S) (G := ⟨semN T ct (k + 1), ct⟩) (b := (.exp (.mth .extend (.loc 1) (.cons (.fz (.lst (.cons (.ite (.cmp .Eq (.loc 3) (.bin .Sub (.cst (.int 0)) (.cst (.int 1)))) (.cst (.str "=")) (.bi .str (.cons (.loc 3) .nil))) (.cons (.call 20 (.cons (.loc 2) .nil)) .nil)))) .nil)) .nil)) (a := .pl (chD s r)) h (by
    intro p ws y2 y3 q1 q2 q3 q4
    have s1 := lshow_L (k := k) (S := S ++ [.lst ws]) q1
    have ex := ext_end (S := S) (xs := ws) (ys := [.str (byS p.2), .str (syS p.1)]) (by simp; omega)
    have ty := ty_extend (S := S) (xs := ws)
    have st := bi_str_int (i := p.2) (S := S ++ [.lst ws]) (by omega) (by omega)
    have as : asgT (.tp [.nm 2, .nm 3]) (lkD p.1 (.int p.2)) (S ++ [.lst ws]) [some (.pl (chD s r)), some (.ref S.length), y2, y3] = some [some (.pl (chD s r)), some (.ref S.length), some (syD p.1), some (.int p.2)] := rfl
    unfold body2
    rw [as]
    unfold byS at ex ⊢
    by_cases hp : p.2 = -1
    · rw [if_pos hp] at ex ⊢
      have e1 : (p.2 == -1) = true := by rw [hp]; rfl
      simp -implicitDefEqProofs [gc_same, gc_end2, s1, ex, ty, e1]
    · rw [if_neg hp] at ex ⊢
      have e1 : (p.2 == -1) = false := by rw [beq_eq_false_iff_ne]; exact hp
      simp -implicitDefEqProofs [gc_same, gc_end2, s1, ex, ty, e1, st])
  rw [sem_run (f := c21) rfl, runF_fin rfl]
  simp -implicitDefEqProofs only [c21]
  simp -implicitDefEqProofs [gc_same, h0, hs, j0, nw, tl]
  rw [e, then_nx, fzv_end rfl]
  have g1 := gc_drop (S := S) (T := [.ded]) (d := .str (chT s r)) rfl
  have jn := join_chW (S := S ++ [.ded]) h
  generalize (chW s r).map D.str = ws at jn ⊢
  simp -implicitDefEqProofs [gc_same, jn, g1]
/-- whether show_chain tells -/
theorem word_told {d : D} {z : Str} (h : semN T ct k 15 [d] S = .ok (.str z) S) : semN T ct (k + 1) 28 [d] S = .ok (.str (Str.ofString "told")) S := by
  rw [sem_run (f := c28) rfl, runF_fin rfl]
  simp -implicitDefEqProofs only [c28]
  simp -implicitDefEqProofs [ex_tryM, ex_xexp', h, gc_same]
theorem word_no {d : D} (h : semN T ct k 15 [d] S = .exc ⟨Str.ofString "NoChain", none⟩ S) : semN T ct (k + 1) 28 [d] S = .ok (.str (Str.ofString "chain")) S := by
  rw [sem_run (f := c28) rfl, runF_fin rfl]
  simp -implicitDefEqProofs only [c28]
  have hd : hdS ⟨Str.ofString "NoChain", none⟩ [⟨["NoChain"], none, (.asg 1 (.cst (.str "chain")))⟩, ⟨["NoChain", "NoText"], none, (.asg 1 (.cst (.str "other")))⟩] [some d, some (.str "told")] S = .ok (.nx, [some d, some (.str (Str.ofString "chain"))]) S := rfl
  simp -implicitDefEqProofs [ex_tryM, ex_xexp', h]
  rw [hd, then_nx]
  simp -implicitDefEqProofs [gc_same]
theorem showc_no {d : D} (h : semN T ct (k + 6) 10 [d] S = .ok (.bl false) S) : semN T ct (k + 7) 15 [d] S = .exc ⟨Str.ofString "NoChain", none⟩ S := by
  show semN T ct (k + 6 + 1) 15 [d] S = _
  rw [sem_run (f := c15) rfl, runF_fin rfl]
  simp -implicitDefEqProofs only [c15]
  simp -implicitDefEqProofs [gc_same, h]
end
end K71
namespace K71
open PySem L2 Mi
section
variable {p : Nat} {cs : List Int} {t r : Int} {S : Store}
theorem ones_sum' : ∀ xs : List Nat, ((xs.map fun c => (⟨#[c]⟩ : Str)).map (·.length)).sum = xs.length
  | [] => rfl
  | x :: xs => by
    have := ones_sum' xs
    simp only [List.map_cons, List.sum_cons, this, List.length_cons]
    show 1 + _ = _
    omega
/-- some signs of a constant text, joined -/
theorem signs_of {k : Nat} {tz rz : Int} {n : Nat} {v : Nat} {L : Lcs} {it : CI} {z : Str} {a : Nat} (hp : Pn p cs tz rz S) (hz0 : 0 < z.length) (hz1 : z.length ≤ 16777216) (h0 : 0 ≤ t) (h1 : t + n < 2 ^ 60) (hn : n < 1000)
    (hI : evI ⟨semN T ct (k + 2), ct⟩ it L S = .ok ((List.range n).map fun (k : Nat) => D.int (k : Int), []) (setP S p cs t r)) (hv : v < L.length) (ha : L[a]? = some (some (.ref p))) (ea : a ≠ v) :
    ∃ (l : List Nat) (t' r' : Int), evE ⟨semN T ct (k + 2), ct⟩ (.fz (.lc [v] (.nm v) it (.cst (.bl true)) (.call 19 (.cons (.loc a) (.cons (.cst (.str z)) .nil))))) L S = .ok (.pl ((l.map fun c => (⟨#[c]⟩ : Str)).map .str)) (setP S p cs t' r') ∧
      (∀ S' : Store, mtD .join (.str "") [.pl ((l.map fun c => (⟨#[c]⟩ : Str)).map .str)] S' = .ok (.str ⟨l.toArray⟩) S') ∧ l.length = n ∧ (∀ c ∈ l, c ∈ z.cps.toList) ∧ t ≤ t' ∧ t' ≤ t + n := by
  obtain ⟨acc, A, e1, k1, _, l, t', r', rfl, rfl, hl, hc, ht, ht'⟩ := ev_fzlc (G := ⟨semN T ct (k + 2), ct⟩) (vs := [v]) (t := .nm v) (c := .cst (.bl true)) (e := .call 19 (.cons (.loc a) (.cons (.cst (.str z)) .nil)))
    (fun i acc A => ∃ (l : List Nat) (t' r' : Int), A = setP S p cs t' r' ∧ acc = (l.map fun c => (⟨#[c]⟩ : Str)).map .str ∧ l.length = i ∧ (∀ c ∈ l, c ∈ z.cps.toList) ∧ t ≤ t' ∧ t' ≤ t + i) hI kp_pen (by simp; omega) (fun _ _ _ => gok0)
    ⟨[], t, r, rfl, rfl, rfl, by simp, by omega, by omega⟩ (by
      rintro i d acc A hd kp ⟨l, t', r', rfl, rfl, hl, hc, q1, q2⟩
      have hi : i < n := by
        have := (List.getElem?_eq_some_iff.mp hd).1
        simpa using this
      obtain ⟨x, t2, r2, e2, hx, q3, q4⟩ := pickC_ok (k := k) (z := z) ((hp.set t' r').app [.lst ((l.map fun c => (⟨#[c]⟩ : Str)).map .str)]) hz0 hz1 (by omega) (by omega)
      refine ⟨_, _, show (if v < (wipeL L [v]).length then some ((wipeL L [v]).set v (some d)) else none) = _ from if_pos (by simpa [wipeL] using hv), kp_pen (t := t') (r := r'), .inr ⟨setP S p cs t2 r2, .str ⟨#[x]⟩, rfl, ?_, rfl, kp_pen, l ++ [x], t2, r2, rfl, by simp, by simp [hl], fun c hc' => ?_, by omega, by omega⟩⟩
      · have ga : ((wipeL L [v]).set v (some d))[a]? = some (some (.ref p)) := by
          simp only [wipeL, List.foldr_cons, List.foldr_nil, List.set_set]
          rw [List.getElem?_set_ne (Ne.symm ea)]; exact ha
        have e3 : (setP (setP S p cs t' r' ++ [.lst ((l.map fun c => (⟨#[c]⟩ : Str)).map .str)]) p cs t2 r2) = setP S p cs t2 r2 ++ [.lst ((l.map fun c => (⟨#[c]⟩ : Str)).map .str)] := by
          rw [setP_app (by rw [setP_len]; exact hp.lt), setP_set]
        rw [e3] at e2
        rw [ev_call, ev_acons, ev_loc, ga, R.bind_ok, ev_acons, ev_cst, R.bind_ok, ev_anil, R.bind_ok, R.bind_ok, R.bind_ok]
        simp only [e2, R.gc_ok]
        exact gc_len (by simp)
      · rcases List.mem_append.mp hc' with h | h
        · exact hc c h
        · have : c = x := by simpa using h
          rw [this]; exact hx)
  have hn' : ((List.range n).map fun (k : Nat) => D.int (k : Int)).length = n := by simp
  rw [hn'] at hl ht'
  refine ⟨l, t', r', e1, ?_, hl, hc, ht, ht'⟩
  have j1 : ∀ S' : Store, mtD .join (.str "") [.pl ((l.map fun c => (⟨#[c]⟩ : Str)).map .str)] S' = .ok (.str ⟨l.toArray⟩) S' := fun S' => by
    have h2 : (((l.map fun c => (⟨#[c]⟩ : Str))).map (·.length)).sum + (l.map fun c => (⟨#[c]⟩ : Str)).length * ("" : Str).length ≤ 16777216 := by
      rw [ones_sum', hl, List.length_map]
      have : ("" : Str).length = 0 := rfl
      rw [this]; omega
    have h3 : Txt.join ("" : Str) (l.map fun c => (⟨#[c]⟩ : Str)) = ⟨l.toArray⟩ := by
      have := join_ones (xs := l)
      have e : (Txt.join ("" : Str) (l.map fun c => (⟨#[c]⟩ : Str))) = ⟨(Txt.join ("" : Str) (l.map fun c => (⟨#[c]⟩ : Str))).cps⟩ := rfl
      rw [e]
      congr 1
      apply Array.toList_inj.mp
      rw [this]
    simp only [mtD, strs_of]
    rw [if_pos h2, h3]
  exact j1
abbrev zS : Str := Str.ofString "abcxyz"
theorem zS_sub : ∀ c ∈ zS.cps.toList, c ∈ abc := by decide +kernel
theorem zS_len : zS.length = 6 := by decide +kernel
/-- a drawn saying -/
theorem saying_P {k : Nat} (hp : Pn p cs t r S) (h0 : 0 ≤ t) (h1 : t < 2 ^ 50) : ∃ s t' r', semN T ct (k + 3) 22 [.ref p] S = .ok (syD s) (setP S p cs t' r') ∧ LkOk s ∧ t ≤ t' ∧ t' ≤ t + 20 := by
  obtain ⟨v1, t1, r1, e1, a1, b1, c1, d1⟩ := draw_ok (k := k + 1) (m := 8) hp (by omega) (by omega) h0 (by omega)
  obtain ⟨m, hm⟩ : ∃ m : Nat, 1 + v1 = (m : Int) := ⟨(1 + v1).toNat, by omega⟩
  have hr1 : rngD [.int (1 + v1)] = some ((List.range m).map fun (k : Nat) => D.int (k : Int)) := by
    rw [rng_one (by omega) (by omega), hm]; rfl
  have hI : evI ⟨semN T ct (k + 2), ct⟩ (.rng (.cons (.bin .Add (.cst (.int 1)) (.call 18 (.cons (.loc 0) (.cons (.cst (.int 8)) .nil)))) .nil)) [some (.ref p), none, none, none] S = .ok ((List.range m).map fun (k : Nat) => D.int (k : Int), []) (setP S p cs t1 r1) := by
    simp [e1, gc_pen, hr1]
  obtain ⟨l, t2, r2, e2, j2, hl2, hc2, a2, b2⟩ := signs_of (k := k) (v := 2) (a := 0) (z := zS) hp (by rw [zS_len]; omega) (by rw [zS_len]; omega) (by omega) (by omega) (by omega) hI (by simp) rfl (by omega)
  obtain ⟨v3, t3, r3, e3, a3, b3, c3, d3⟩ := draw_ok (k := k + 1) (m := 1000000000000000000) (hp.set t2 r2) (by omega) (by omega) (by omega) (by omega)
  rw [setP_set] at e3
  obtain ⟨d4, t4, r4, e4, m4, c4, dd4⟩ := pick_ok (k := k) (ds := [.int 0, .int 7, .int 100000000000000000000, .int v3]) (hp.set t3 r3) (by simp) (by simp) (by omega) (by omega)
  rw [setP_set] at e4
  obtain ⟨i4, rfl, l4, u4⟩ : ∃ i : Int, d4 = .int i ∧ 0 ≤ i ∧ i ≤ 10 ^ 20 := by
    simp only [List.mem_cons, List.not_mem_nil, or_false] at m4
    rcases m4 with rfl | rfl | rfl | rfl
    · exact ⟨_, rfl, by omega, by omega⟩
    · exact ⟨_, rfl, by omega, by omega⟩
    · exact ⟨_, rfl, by omega, by omega⟩
    · exact ⟨_, rfl, by omega, by omega⟩
  obtain ⟨d5, t5, r5, e5, m5, c5, dd5⟩ := pick_ok (k := k) (ds := [.int 1, .int (-1)]) (hp.set t4 r4) (by simp) (by simp) (by omega) (by omega)
  rw [setP_set] at e5
  obtain ⟨j5, rfl, hj⟩ : ∃ j : Int, d5 = .int j ∧ (j = 1 ∨ j = -1) := by
    simp only [List.mem_cons, List.not_mem_nil, or_false] at m5
    rcases m5 with rfl | rfl
    · exact ⟨_, rfl, .inl rfl⟩
    · exact ⟨_, rfl, .inr rfl⟩
  have mu : CMul i4 j5 := .inr (by omega)
  obtain ⟨d6, t6, r6, e6, m6, c6, dd6⟩ := pick_ok (k := k) (ds := [.str (Str.ofString "least"), .str (Str.ofString "most")]) (hp.set t5 r5) (by simp) (by simp) (by omega) (by omega)
  rw [setP_set] at e6
  obtain ⟨w, rfl⟩ : ∃ w : Bool, d6 = .str (srt w) := by
    simp only [List.mem_cons, List.not_mem_nil, or_false] at m6
    rcases m6 with rfl | rfl
    · exact ⟨true, rfl⟩
    · exact ⟨false, rfl⟩
  have nm : Nam (⟨l.toArray⟩ : Str) := ⟨by show 1 ≤ l.length; omega, by show l.length ≤ 8; omega, fun c hc => zS_sub c (hc2 c hc)⟩
  refine ⟨⟨⟨l.toArray⟩, w, i4 * j5⟩, t6, r6, ?_, ⟨nm, ?_, ?_⟩, by omega, by omega⟩
  · rw [sem_run (f := c22) rfl, runF_fin rfl]
    simp -implicitDefEqProofs only [c22]
    show (fin (exS _ _ [some (.ref p), none, none, none] S)).gc S = _
    simp -implicitDefEqProofs [-List.map_map, e2, j2, gc_pen, gc_pen2, e3, e4, e5, e6, bin_mul mu, syD]
  · show _ ≤ i4 * j5
    rcases hj with rfl | rfl <;> omega
  · show i4 * j5 ≤ _
    rcases hj with rfl | rfl <;> omega
theorem slc_plT {ds : List D} {v : Int} {S : Store} (h : 0 ≤ v) (lt : D.ltAll S.length ds = true) : ((slcD (.pl ds) none (some v) S).gc S).fz S = .ok (.pl (ds.take v.toNat)) S := by
  have e : slcD (.pl ds) none (some v) S = newC (.lst (ds.take v.toNat)) S := by
    show newC (.lst (cutD ds none (some v))) S = _
    rw [cut_to _ h]
  rw [e]
  exact newG_same (ltAll_iff.mpr fun d hd => ltAll_iff.mp lt d (List.mem_of_mem_take hd))
theorem slc_plF {ds : List D} {v : Int} {S : Store} (h : 0 ≤ v) (lt : D.ltAll S.length ds = true) : ((slcD (.pl ds) (some v) none S).gc S).fz S = .ok (.pl (ds.drop v.toNat)) S := by
  have e : slcD (.pl ds) (some v) none S = newC (.lst (ds.drop v.toNat)) S := by
    show newC (.lst (cutD ds (some v) none)) S = _
    rw [cut_from _ h]
  rw [e]
  exact newG_same (ltAll_iff.mpr fun d hd => ltAll_iff.mp lt d (List.mem_of_mem_drop hd))
/-- words joined again -/
theorem join_ws {W : List (List Nat)} {S : Store} {n b : Nat} (hs : ∀ w ∈ W, Sn w) (hb : ∀ w ∈ W, w.length ≤ b) (hn : W.length ≤ n) (hz : n * (b + 1) ≤ 16000000) : ∃ l, mtD .join (.str (Str.ofString " ")) [.pl (W.map fun w => .str (mkS w))] S = .ok (.str (mkS l)) S ∧ Sn l ∧ l.length ≤ n * (b + 1) := by
  have e : (W.map fun w => D.str (mkS w)) = (W.map mkS).map D.str := by rw [List.map_map]; rfl
  have hy : ∀ y ∈ W.map mkS, y.length ≤ b := fun y hy => by
    obtain ⟨w, hw, rfl⟩ := List.mem_map.mp hy
    rw [mkS_len]; exact hb w hw
  have s1 := sum_le hy
  have l3 : (Str.ofString " ").length = 1 := by decide +kernel
  have jl := join_len (a := Str.ofString " ") hy
  rw [List.length_map, l3, Nat.mul_one] at jl
  have nb : W.length * b + W.length ≤ n * (b + 1) := by
    rw [Nat.mul_succ]
    have := Nat.mul_le_mul_right b hn
    omega
  refine ⟨(Txt.join (Str.ofString " ") (W.map mkS)).cps.toList, ?_, fun c hc => ?_, by rw [← str_len]; omega⟩
  · rw [e, join_pl (by rw [l3, List.length_map] at *; omega), mkS_tl]
  · rcases Nat.lt_or_ge c 0x110000 with q | q
    · exact q
    · exfalso
      refine mem_join (a := Str.ofString " ") (ys := W.map mkS) (c := c) (by rw [show (Str.ofString " ").cps.toList = [32] by decide +kernel]; simp; omega) (fun y hy hm => ?_) hc
      obtain ⟨w, hw, rfl⟩ := List.mem_map.mp hy
      have := hs w hw c hm
      omega
theorem bent_P {k : Nat} {l : List Nat} (hp : Pn p cs t r S) (h0 : 0 ≤ t) (h1 : t < 2 ^ 50) (h : Sn l) (hl : l.length ≤ 1600) : ∃ l' t' r', semN T ct (k + 3) 27 [.ref p, .str (mkS l)] S = .ok (.str (mkS l')) (setP S p cs t' r') ∧ Sn l' ∧ l'.length < 16000001 ∧ t ≤ t' ∧ t' ≤ t + 10 := by
  have ws := ws_spl (T := [32]) (by simp) h (by omega)
  have sb := spl_sub (T := [32]) (by simp) _ l (Nat.le_refl _)
  have sl := spl_len (T := [32]) (by simp) _ l (Nat.le_refl _)
  have sn := spl_ne (T := [32]) (by simp) l
  have sp := split_fz' (S := S) (y := Str.ofString " ") (l := l) (by decide +kernel) (by decide +kernel) (by omega)
  rw [show (Str.ofString " ").cps.toList = [32] by decide +kernel] at sp
  obtain ⟨v1, t1, r1, e1, a1, b1, c1, d1⟩ := draw_ok (k := k + 1) (m := 4) hp (by omega) (by omega) h0 (by omega)
  generalize hW : TL.spl [32] 0 [] l = W at ws sb sl sn sp
  have wl : 0 < W.length := List.length_pos_iff.mpr sn
  have hwl : (((W.map fun w => D.str (mkS w)).length : Nat) : Int) = (W.length : Nat) := by rw [List.length_map]
  obtain ⟨v2, t2, r2, e2, a2, b2, c2, d2⟩ := draw_ok (k := k + 1) (m := (W.length : Nat)) (hp.set t1 r1) (by omega) (by omega) (by omega) (by omega)
  rw [setP_set] at e2
  have ltw : ∀ S : Store, D.ltAll S.length (W.map fun w => D.str (mkS w)) = true := fun S => ltAll_mk W
  have tk : ∀ (v : Int) (S : Store), 0 ≤ v → ((slcD (.pl (W.map fun w => D.str (mkS w))) none (some v) S).gc S).fz S = .ok (.pl ((W.take v.toNat).map fun w => D.str (mkS w))) S := fun v S hv => by
    rw [slc_plT hv (ltw S), List.map_take]
  have dr : ∀ (v : Int) (S : Store), 0 ≤ v → ((slcD (.pl (W.map fun w => D.str (mkS w))) (some v) none S).gc S).fz S = .ok (.pl ((W.drop v.toNat).map fun w => D.str (mkS w))) S := fun v S hv => by
    rw [slc_plF hv (ltw S), List.map_drop]
  have ad : ∀ (A B : List (List Nat)) (S : Store), A.length + B.length ≤ 10000 → (binD .Add (.pl (A.map fun w => D.str (mkS w))) (.pl (B.map fun w => D.str (mkS w))) S).fz S = .ok (.pl ((A ++ B).map fun w => D.str (mkS w))) S := fun A B S hAB => by
    rw [add_pl (by simp; omega) (ltAll_mk A) (ltAll_mk B), List.map_append]
  have jn : ∀ (A : List (List Nat)) (S : Store), (∀ w ∈ A, w ∈ W ∨ (Sn w ∧ w.length ≤ 1600)) → A.length ≤ 5000 → ∃ l', mtD .join (.str (Str.ofString " ")) [.pl (A.map fun w => D.str (mkS w))] S = .ok (.str (mkS l')) S ∧ Sn l' ∧ l'.length < 16000001 := by
    intro A S hA hn
    obtain ⟨l', q1, q2, q3⟩ := join_ws (W := A) (S := S) (n := 5000) (b := 1600) (fun w hw => by
      rcases hA w hw with z | z
      · exact ws.sn w z
      · exact z.1) (fun w hw => by
      rcases hA w hw with z | z
      · have := (sb w z).2; omega
      · exact z.2) hn (by omega)
    exact ⟨l', q1, q2, by omega⟩
  have memt : ∀ (n : Nat) (w : List Nat), w ∈ W.take n → w ∈ W := fun n w hw => List.mem_of_mem_take hw
  have memd : ∀ (n : Nat) (w : List Nat), w ∈ W.drop n → w ∈ W := fun n w hw => List.mem_of_mem_drop hw
  have ltk : ∀ n, (W.take n).length ≤ 1601 := fun n => by rw [List.length_take]; omega
  have ldr : ∀ n, (W.drop n).length ≤ 1601 := fun n => by rw [List.length_drop]; omega
  have g1 : ∀ (d : D) (t r : Int), Mi.gc S d (setP S p cs t r) = .ok d (setP S p cs t r) := fun d t r => gc_pen
  have g2 : ∀ (d : D) (t r t' r' : Int), Mi.gc (setP S p cs t' r') d (setP S p cs t r) = .ok d (setP S p cs t r) := fun d t r t' r' => gc_pen2
  have sp2 : ∀ d : D, d.lt S.length = true → True := fun _ _ => trivial
  obtain ⟨v, rfl⟩ : ∃ v : Nat, v2 = (v : Int) := ⟨v2.toNat, by omega⟩
  have ftk0 := fun S => tk (v : Int) S (by omega)
  have ftk1 := fun S => tk ((v : Int) + 1) S (by omega)
  have fdr0 := fun S => dr (v : Int) S (by omega)
  have fdr1 := fun S => dr ((v : Int) + 1) S (by omega)
  rw [sem_run (f := c27) rfl, runF_fin rfl]
  simp -implicitDefEqProofs only [c27]
  by_cases w0 : v1 = 0
  · subst w0
    obtain ⟨l', q1, q2, q3⟩ := jn (W.take (v : Int).toNat ++ W.drop ((v : Int) + 1).toNat) (setP S p cs t2 r2) (fun w hw => .inl (by
      rcases List.mem_append.mp hw with z | z
      · exact memt _ w z
      · exact memd _ w z)) (by rw [List.length_append]; have := ltk (v : Int).toNat; have := ldr ((v : Int) + 1).toNat; omega)
    have a0 := ad (W.take (v : Int).toNat) (W.drop ((v : Int) + 1).toNat) (setP S p cs t2 r2) (by have := ltk (v : Int).toNat; have := ldr ((v : Int) + 1).toNat; omega)
    refine ⟨l', t2, r2, ?_, q2, q3, by omega, by omega⟩
    generalize ((W.take (v : Int).toNat ++ W.drop ((v : Int) + 1).toNat).map fun w => D.str (mkS w)) = X at q1 a0
    generalize ((W.take (v : Int).toNat).map fun w => D.str (mkS w)) = X1 at a0 ftk0
    generalize ((W.drop ((v : Int) + 1).toNat).map fun w => D.str (mkS w)) = X2 at a0 fdr1
    generalize (W.map fun w => D.str (mkS w)) = wl at sp hwl ftk0 fdr1
    simp -implicitDefEqProofs [gc_same, sp, e1, e2, g1, g2, hwl, ftk0, fdr1, a0, q1]
  by_cases w1 : v1 = 1
  · subst w1
    obtain ⟨l', q1, q2, q3⟩ := jn (W.take ((v : Int) + 1).toNat ++ W.drop (v : Int).toNat) (setP S p cs t2 r2) (fun w hw => .inl (by
      rcases List.mem_append.mp hw with z | z
      · exact memt _ w z
      · exact memd _ w z)) (by rw [List.length_append]; have := ltk ((v : Int) + 1).toNat; have := ldr (v : Int).toNat; omega)
    have a0 := ad (W.take ((v : Int) + 1).toNat) (W.drop (v : Int).toNat) (setP S p cs t2 r2) (by have := ltk ((v : Int) + 1).toNat; have := ldr (v : Int).toNat; omega)
    refine ⟨l', t2, r2, ?_, q2, q3, by omega, by omega⟩
    generalize ((W.take ((v : Int) + 1).toNat ++ W.drop (v : Int).toNat).map fun w => D.str (mkS w)) = X at q1 a0
    generalize ((W.take ((v : Int) + 1).toNat).map fun w => D.str (mkS w)) = X1 at a0 ftk1
    generalize ((W.drop (v : Int).toNat).map fun w => D.str (mkS w)) = X2 at a0 fdr0
    generalize (W.map fun w => D.str (mkS w)) = wl at sp hwl ftk1 fdr0
    simp -implicitDefEqProofs [gc_same, sp, e1, e2, g1, g2, hwl, ftk1, fdr0, a0, q1]
  by_cases w2 : v1 = 2
  · subst w2
    obtain ⟨d3, t3, r3, e3, m3, c3, dd3⟩ := pick_ok (k := k) (ds := [.str "=", .str "0", .str "39", .str "40", .str "-1", .str "-0", .str "01", .str "a>=5", .str "a<=-5", .str "a>5", .str "", .str "A<=1", .str "a>=1<=2", .str "b<=+1"]) (hp.set t2 r2) (by simp) (by simp) (by omega) (by omega)
    rw [setP_set] at e3
    obtain ⟨f, rfl, fs, fl⟩ : ∃ f : List Nat, d3 = .str (mkS f) ∧ Sn f ∧ f.length ≤ 1600 := by
      have go : ∀ x : Str, (decide (x.length ≤ 1600) && PyData.strOk x) = true → ∃ f : List Nat, D.str x = .str (mkS f) ∧ Sn f ∧ f.length ≤ 1600 := fun x hx => by
        rw [Bool.and_eq_true] at hx
        exact ⟨x.cps.toList, by rw [mkS_tl], strOk_iff.mp hx.2, by rw [← str_len]; exact of_decide_eq_true hx.1⟩
      simp only [List.mem_cons, List.not_mem_nil, or_false] at m3
      rcases m3 with rfl | rfl | rfl | rfl | rfl | rfl | rfl | rfl | rfl | rfl | rfl | rfl | rfl | rfl <;> exact go _ (by decide +kernel)
    have lenA : (W.take (v : Int).toNat ++ [f]).length ≤ 1602 := by rw [List.length_append]; have := ltk (v : Int).toNat; simp only [List.length_singleton]; omega
    obtain ⟨l', q1, q2, q3⟩ := jn ((W.take (v : Int).toNat ++ [f]) ++ W.drop ((v : Int) + 1).toNat) (setP S p cs t3 r3) (fun w hw => by
      rcases List.mem_append.mp hw with z | z
      · rcases List.mem_append.mp z with z | z
        · exact .inl (memt _ w z)
        · have : w = f := by simpa using z
          rw [this]; exact .inr ⟨fs, fl⟩
      · exact .inl (memd _ w z)) (by rw [List.length_append]; have := ldr ((v : Int) + 1).toNat; omega)
    have a0 := ad (W.take (v : Int).toNat) [f] (setP S p cs t3 r3) (by have := ltk (v : Int).toNat; simp only [List.length_singleton]; omega)
    have a1' := ad (W.take (v : Int).toNat ++ [f]) (W.drop ((v : Int) + 1).toNat) (setP S p cs t3 r3) (by have := ldr ((v : Int) + 1).toNat; omega)
    rw [List.map_singleton] at a0
    refine ⟨l', t3, r3, ?_, q2, q3, by omega, by omega⟩
    generalize (((W.take (v : Int).toNat ++ [f]) ++ W.drop ((v : Int) + 1).toNat).map fun w => D.str (mkS w)) = X at q1 a1'
    generalize ((W.take (v : Int).toNat ++ [f]).map fun w => D.str (mkS w)) = X0 at a0 a1'
    generalize ((W.take (v : Int).toNat).map fun w => D.str (mkS w)) = X1 at a0 ftk0
    generalize ((W.drop ((v : Int) + 1).toNat).map fun w => D.str (mkS w)) = X2 at a1' fdr1
    generalize (W.map fun w => D.str (mkS w)) = wl at sp hwl ftk0 fdr1
    simp -implicitDefEqProofs [gc_same, sp, e1, e2, e3, g1, g2, hwl, ftk0, fdr1, a0, a1', q1]
  · obtain ⟨v4, t4, r4, e4, a4, b4, c4, d4⟩ := draw_ok (k := k + 1) (m := (l.length : Nat) + 1) (hp.set t2 r2) (by omega) (by omega) (by omega) (by omega)
    rw [setP_set] at e4
    obtain ⟨d5, t5, r5, e5, m5, c5, dd5⟩ := pick_ok (k := k) (ds := [.str "", .str " ", .str "0", .str "-", .str "=", .str "<", .str "a", .str "\n"]) (hp.set t4 r4) (by simp) (by simp) (by omega) (by omega)
    rw [setP_set] at e5
    obtain ⟨f, rfl, fs, fl⟩ : ∃ f : List Nat, d5 = .str (mkS f) ∧ Sn f ∧ f.length ≤ 1600 := by
      have go : ∀ x : Str, (decide (x.length ≤ 1600) && PyData.strOk x) = true → ∃ f : List Nat, D.str x = .str (mkS f) ∧ Sn f ∧ f.length ≤ 1600 := fun x hx => by
        rw [Bool.and_eq_true] at hx
        exact ⟨x.cps.toList, by rw [mkS_tl], strOk_iff.mp hx.2, by rw [← str_len]; exact of_decide_eq_true hx.1⟩
      simp only [List.mem_cons, List.not_mem_nil, or_false] at m5
      rcases m5 with rfl | rfl | rfl | rfl | rfl | rfl | rfl | rfl <;> exact go _ (by decide +kernel)
    obtain ⟨v6, t6, r6, e6, a6, b6, c6, d6⟩ := draw_ok (k := k + 1) (m := 2) (hp.set t5 r5) (by omega) (by omega) (by omega) (by omega)
    rw [setP_set] at e6
    have ln := fun S => len_L (S := S) (l := l) (by omega)
    have s1 : ∀ S, slcD (.str (mkS l)) none (some v4) S = .ok (.str (mkS (l.take v4.toNat))) S := fun S => by
      rw [slc_str (by rw [mkS_len]; omega), cut_to _ a4]
    have s2 : ∀ S, slcD (.str (mkS l)) (some (v4 + v6)) none S = .ok (.str (mkS (l.drop (v4 + v6).toNat))) S := fun S => by
      rw [slc_str (by rw [mkS_len]; omega), cut_from _ (by omega)]
    have l1 : (l.take v4.toNat).length ≤ 1600 := by rw [List.length_take]; omega
    have l2 : (l.drop (v4 + v6).toNat).length ≤ 1600 := by rw [List.length_drop]; omega
    have ap : ∀ (A B : List Nat), mkS A ++ mkS B = mkS (A ++ B) := fun A B => str_ext (by rw [app_l])
    have b1' : ∀ S, binD .Add (.str (mkS (l.take v4.toNat))) (.str (mkS f)) S = .ok (.str (mkS (l.take v4.toNat ++ f))) S := fun S => by
      rw [bin_addS, sizeOk_le (by rw [mkS_len, mkS_len]; omega), ap]; rfl
    have b2' : ∀ S, binD .Add (.str (mkS (l.take v4.toNat ++ f))) (.str (mkS (l.drop (v4 + v6).toNat))) S = .ok (.str (mkS (l.take v4.toNat ++ f ++ l.drop (v4 + v6).toNat))) S := fun S => by
      rw [bin_addS, sizeOk_le (by rw [mkS_len, mkS_len, List.length_append]; omega), ap]; rfl
    have w0' : (v1 == 0) = false := by rw [beq_eq_false_iff_ne]; exact w0
    have w1' : (v1 == 1) = false := by rw [beq_eq_false_iff_ne]; exact w1
    have w2' : (v1 == 2) = false := by rw [beq_eq_false_iff_ne]; exact w2
    refine ⟨l.take v4.toNat ++ f ++ l.drop (v4 + v6).toNat, t6, r6, ?_, ?_, by rw [List.length_append, List.length_append]; omega, by omega, by omega⟩
    · generalize mkS (l.take v4.toNat ++ f ++ l.drop (v4 + v6).toNat) = Z at b2'
      generalize mkS (l.take v4.toNat ++ f) = Z1 at b1' b2'
      generalize mkS (l.take v4.toNat) = Z2 at b1' s1
      generalize mkS (l.drop (v4 + v6).toNat) = Z3 at b2' s2
      generalize (W.map fun w => D.str (mkS w)) = wl at sp hwl
      simp -implicitDefEqProofs [-bin_addS, gc_same, sp, e1, e2, e4, e5, e6, g1, g2, hwl, ln, s1, s2, b1', b2', w0', w1', w2']
    · exact ((h.sub fun c hc => List.mem_of_mem_take hc).app fs).app (h.sub fun c hc => List.mem_of_mem_drop hc)
end
end K71
namespace K71
open PySem L2 Mi
section
variable {p : Nat} {cs : List Int} {t r : Int} {S : Store}
/-- what has no links, by form -/
def NoLk (d : D) : Prop := ∀ (k : Nat) (S : Store), semN T ct (k + 6) 10 [d] S = .ok (.bl false) S
theorem nolk_pl {ds : List D} (h : ∀ x ∈ ds, okD 5 x = true) (hl : ds.length < 1000000) (hb : linksB ds = false) : NoLk (.pl ds) := fun k S => by
  rw [links_pl h hl, hb]
theorem nolk_end {s : Sy} {r : List (Sy × Int)} {x : D} (h : ChOk s r) (hx : okD 5 x = true) (hb : linkB false x = false) : NoLk (.pl (chD s r ++ [x])) := by
  have hl := h.len
  refine nolk_pl (fun y hy => ?_) (by rw [List.length_append, chD_len]; simp; omega) ?_
  · rcases List.mem_append.mp hy with z | z
    · exact okD_chD h y z
    · have : y = x := by simpa using z
      rw [this]; exact hx
  · unfold linksB
    have : linksT (chD s r ++ [x]) = false := by
      show (linkB true (lkD s .non) && ((r.map fun p => lkD p.1 (.int p.2)) ++ [x]).all (linkB false)) = false
      rw [List.all_append]
      simp [hb]
    rw [this, Bool.and_false]
theorem nolk_one {x : D} (hx : okD 5 x = true) (hb : linkB true x = false) : NoLk (.pl [x]) := by
  refine nolk_pl (fun y hy => by
    have : y = x := by simpa using hy
    rw [this]; exact hx) (by simp) ?_
  unfold linksB
  have : linksT [x] = false := by
    show (linkB true x && _) = false
    rw [hb]; rfl
  rw [this, Bool.and_false]
theorem nolk_kind {d : D} (h : ∀ S, biD .isi [d, .sta (.ty "list")] S = .ok (.bl false) S) : NoLk d := fun k S => links_no (h S)
theorem okD_in {s : Sy} (h : Nam s.nm) {b : D} (hb : okD 4 b = true) : okD 5 (lkD s b) = true := by
  show ([syD s, b].all (okD 4)) = true
  simp [okD_sy h, hb]
abbrev qS : Str := Str.ofString "qqqqqqqq"
theorem ten20 {S : Store} : binD .Add (.int 100000000000000000000) (.int 1) S = .ok (.int 100000000000000000001) S := rfl
theorem say_no {s : Sy} {r' : List (Sy × Int)} (h : ChOk s r') {o : D} (ho : okD 4 o = true) (hs : sayB o = false) : NoLk (.pl (chD s r' ++ [.tup [o, .int 0]])) :=
  nolk_end h (by show ([o, .int 0].all (okD 4)) = true; simp [ho, okD]) (by show (sayB o && _) = false; rw [hs]; rfl)
theorem by_no {s : Sy} {r' : List (Sy × Int)} (h : ChOk s r') {b : D} (hb : okD 4 b = true) (hs : fromB (-1) 39 b = false) : NoLk (.pl (chD s r' ++ [.tup [syD s, b]])) :=
  nolk_end h (okD_in h.s0.nm hb) (by show (sayB (syD s) && fromB (-1) 39 b) = false; rw [hs, Bool.and_false])
theorem okD_nm {s : Sy} {r' : List (Sy × Int)} (h : ChOk s r') : okD 4 (.tup [.str s.nm, .str (srt s.ls)]) = true := by
  have := okD_sy h.s0.nm
  obtain ⟨m, e, hm⟩ := okD_tup (show okD 4 (.tup [.str s.nm, .str (srt s.ls), .int s.i]) = true from this)
  cases e
  show ([D.str s.nm, .str (srt s.ls)].all (okD 3)) = true
  simp [hm (.str s.nm) (by simp), hm (.str (srt s.ls)) (by simp)]
theorem okD_q {s : Sy} (h : Nam s.nm) : okD 4 (.tup [.str (s.nm ++ qS), .str (Str.ofString "least"), .int 1]) = true := by
  have l1 := h.len
  have l2 : qS.length = 8 := by decide +kernel
  have e : (s.nm ++ qS).length = s.nm.length + 8 := by rw [str_len, app_l, List.length_append, ← str_len, ← str_len, l2]
  have o1 : PyData.strOk (s.nm ++ qS) = true := strOk_app h.ok (ofStr_ok _)
  have o2 : okD 3 (.str (Str.ofString "least")) = true := by decide +kernel
  have o3 : okD 3 (.str (s.nm ++ qS)) = true := by
    show (PyData.strOk (s.nm ++ qS) && decide ((s.nm ++ qS).length < 16777000)) = true
    rw [o1, decide_eq_true (by omega)]; rfl
  show ([D.str (s.nm ++ qS), .str (Str.ofString "least"), .int 1].all (okD 3)) = true
  rw [List.all_cons, List.all_cons, List.all_cons, o3, o2]; rfl
theorem odd_P {k : Nat} {s : Sy} {r' : List (Sy × Int)} (hp : Pn p cs t r S) (h0 : 0 ≤ t) (h1 : t < 2 ^ 50) (h : ChOk s r') : ∃ d t' r2, semN T ct (k + 3) 29 [.ref p, .pl (chD s r')] S = .ok d (setP S p cs t' r2) ∧ NoLk d ∧ t ≤ t' ∧ t' ≤ t + 1 := by
  have hl := h.len
  have nm := h.s0.nm
  have nl := nm.len
  have cl := chD_len s r'
  have hc0 := fun S => head_chD (S := S) (s := s) (r := r')
  have ltc : ∀ n, D.ltAll n (chD s r') = true := fun n => lt_chD s r'
  -- all of them
  have all : ∀ d ∈ [D.pl [], .tup (chD s r'), .non, .str (Str.ofString "x"), .pd [] [], .pl [syD s], .pl (chD s r' ++ [.tup [syD s, .int 40]]), .pl (chD s r' ++ [.tup [syD s, .non]]), .pl (chD s r' ++ [.tup [syD s, .bl true]]),
      .pl (chD s r' ++ [.tup [syD s, .int (-2)]]), .pl [.tup [syD s, .int (-1)]], .pl (chD s r' ++ [.tup [.tup [.str s.nm, .str (srt s.ls)], .int 0]]), .pl (chD s r' ++ [.pl [syD s, .int 0]]),
      .pl (chD s r' ++ [.tup [.tup [.str (s.nm ++ qS), .str (Str.ofString "least"), .int 1], .int 0]]), .pl (chD s r' ++ [.tup [.tup [.str (Str.ofString "A"), .str (Str.ofString "least"), .int 1], .int 0]]),
      .pl (chD s r' ++ [.tup [.tup [.str (Str.ofString "a"), .str (Str.ofString "more"), .int 1], .int 0]]), .pl (chD s r' ++ [.tup [.tup [.pl [.str (Str.ofString "a")], .str (Str.ofString "least"), .int 1], .int 0]]),
      .pl (chD s r' ++ [.tup [.tup [.str (Str.ofString "a"), .str (Str.ofString "least"), .int 100000000000000000001], .int 0]]),
      .pl (chD s r' ++ [.tup [.tup [.str (Str.ofString "a"), .str (Str.ofString "least"), .bl true], .int 0]]), .pl (chD s r' ++ [.tup [.tup [.str (Str.ofString "a"), .str (Str.ofString "most"), .str (Str.ofString "1")], .int 0]])], NoLk d ∧ ∀ n, d.lt n = true := by
    intro d hd
    simp only [List.mem_cons, List.not_mem_nil, or_false] at hd
    rcases hd with rfl | rfl | rfl | rfl | rfl | rfl | rfl | rfl | rfl | rfl | rfl | rfl | rfl | rfl | rfl | rfl | rfl | rfl | rfl | rfl
    · exact ⟨nolk_pl (by simp) (by simp) rfl, fun n => rfl⟩
    · exact ⟨nolk_kind fun S => rfl, fun n => ltc n⟩
    · exact ⟨nolk_kind fun S => rfl, fun n => rfl⟩
    · exact ⟨nolk_kind fun S => rfl, fun n => rfl⟩
    · exact ⟨nolk_kind fun S => rfl, fun n => rfl⟩
    · refine ⟨nolk_one ?_ rfl, fun n => by simp⟩
      have := okD_sy nm
      obtain ⟨m, e, hm⟩ := okD_tup (show okD 4 (.tup [.str s.nm, .str (srt s.ls), .int s.i]) = true from this)
      cases e
      have l2 : (srt s.ls).length < 16777000 := by cases s.ls <;> decide +kernel
      show ([D.str s.nm, .str (srt s.ls), .int s.i].all (okD 4)) = true
      simp [okD, nm.ok, ok_srt, l2]
      omega
    · exact ⟨by_no h rfl (by decide +kernel), fun n => by simp [ltc]⟩
    · exact ⟨by_no h rfl rfl, fun n => by simp [ltc]⟩
    · exact ⟨by_no h rfl rfl, fun n => by simp [ltc]⟩
    · exact ⟨by_no h rfl (by decide +kernel), fun n => by simp [ltc]⟩
    · exact ⟨nolk_one (okD_in nm rfl) (by show (sayB (syD s) && false) = false; rw [Bool.and_false]), fun n => by simp⟩
    · exact ⟨say_no h (okD_nm h) rfl, fun n => by simp [ltc]⟩
    · refine ⟨nolk_end h ?_ rfl, fun n => by simp [ltc]⟩
      show ([syD s, .int 0].all (okD 4)) = true
      simp [okD_sy nm, okD]
    · refine ⟨say_no h (okD_q nm) ?_, fun n => by simp [ltc]⟩
      have l1 := nm.l1
      have : nameB (s.nm ++ qS).cps.toList = false := by
        unfold nameB
        have e : ¬ (s.nm ++ qS).cps.toList.length ≤ 8 := by
          rw [app_l, List.length_append]
          have : qS.cps.toList.length = 8 := by decide +kernel
          omega
        rw [decide_eq_false e]; simp
      show (nameB (s.nm ++ qS).cps.toList && _ && _) = false
      rw [this]; rfl
    · exact ⟨say_no h (by decide +kernel) (by decide +kernel), fun n => by simp [ltc]⟩
    · exact ⟨say_no h (by decide +kernel) (by decide +kernel), fun n => by simp [ltc]⟩
    · exact ⟨say_no h (by decide +kernel) (by decide +kernel), fun n => by simp [ltc]⟩
    · exact ⟨say_no h (by decide +kernel) (by decide +kernel), fun n => by simp [ltc]⟩
    · exact ⟨say_no h (by decide +kernel) (by decide +kernel), fun n => by simp [ltc]⟩
    · exact ⟨say_no h (by decide +kernel) (by decide +kernel), fun n => by simp [ltc]⟩
  clear hl
  generalize hC : chD s r' = C at hc0 cl ltc all
  have i00 : ∀ S, idxD (lkD s .non) (.int 0) S = .ok (syD s) S := fun S => ixT (i := 0) rfl
  have i0 : ∀ S, idxD (syD s) (.int 0) S = .ok (.str s.nm) S := fun S => ixT (i := 0) rfl
  have s2 : ∀ S, slcD (syD s) none (some 2) S = .ok (.tup [.str s.nm, .str (srt s.ls)]) S := fun S => rfl
  have hcl : C.length ≤ 2002 := by have := h.len; omega
  have ad : ∀ (x : D) (S : Store), x.lt S.length = true → (binD .Add (.pl C) (.pl [x]) S).fz S = .ok (.pl (C ++ [x])) S := fun x S hx => add_pl (by simp; omega) (ltc _) (by simp [hx])
  have nq : ∀ S, binD .Add (.str s.nm) (.str qS) S = .ok (.str (s.nm ++ qS)) S := fun S => by
    have : qS.length = 8 := by decide +kernel
    rw [bin_addS, sizeOk_le (by omega)]; rfl
  have dc := fun L S => ev_fzdct (G := ⟨semN T ct (k + 2), ct⟩) (L := L) (S := S) (as := .nil) (ds := []) (kvs := []) rfl rfl (by simp) (by simp) rfl
  obtain ⟨X1, hX1⟩ : ∃ X1, X1 = [D.pl [], .tup C, .non, .str (Str.ofString "x"), .pd [] [], .pl [syD s], .pl (C ++ [.tup [syD s, .int 40]]), .pl (C ++ [.tup [syD s, .non]])] := ⟨_, rfl⟩
  obtain ⟨X2, hX2⟩ : ∃ X2, X2 = X1 ++ [D.pl (C ++ [.tup [syD s, .bl true]])] := ⟨_, rfl⟩
  obtain ⟨Y, hY⟩ : ∃ Y, Y = [D.pl (C ++ [.tup [syD s, .int (-2)]]), .pl [.tup [syD s, .int (-1)]], .pl (C ++ [.tup [.tup [.str s.nm, .str (srt s.ls)], .int 0]]), .pl (C ++ [.pl [syD s, .int 0]])] := ⟨_, rfl⟩
  obtain ⟨os, hos⟩ : ∃ os : List D, os = [.tup [.str (s.nm ++ qS), .str (Str.ofString "least"), .int 1], .tup [.str (Str.ofString "A"), .str (Str.ofString "least"), .int 1], .tup [.str (Str.ofString "a"), .str (Str.ofString "more"), .int 1], .tup [.pl [.str (Str.ofString "a")], .str (Str.ofString "least"), .int 1]] := ⟨_, rfl⟩
  obtain ⟨o5, ho5⟩ : ∃ o5 : D, o5 = .tup [.str (Str.ofString "a"), .str (Str.ofString "least"), .int 100000000000000000001] := ⟨_, rfl⟩
  obtain ⟨Z, hZ⟩ : ∃ Z, Z = (os ++ [o5]).map fun o => D.pl (C ++ [.tup [o, .int 0]]) := ⟨_, rfl⟩
  obtain ⟨U, hU⟩ : ∃ U, U = [D.pl (C ++ [.tup [.tup [.str (Str.ofString "a"), .str (Str.ofString "least"), .bl true], .int 0]]), .pl (C ++ [.tup [.tup [.str (Str.ofString "a"), .str (Str.ofString "most"), .str (Str.ofString "1")], .int 0]])] := ⟨_, rfl⟩
  have all2 : ∀ d ∈ X2 ++ Y ++ Z ++ U, NoLk d ∧ ∀ n, d.lt n = true := by
    intro d hd
    refine all d ?_
    rw [hX2, hX1, hY, hZ, hos, ho5, hU] at hd
    simpa using hd
  have lt2 : ∀ (A : List D), (∀ d ∈ A, d ∈ X2 ++ Y ++ Z ++ U) → ∀ n, D.ltAll n A = true := fun A hA n => ltAll_iff.mpr fun d hd => (all2 d (hA d hd)).2 n
  have l1 : X2.length = 9 := by rw [hX2, hX1]; rfl
  have l2 : Y.length = 4 := by rw [hY]; rfl
  have l3 : Z.length = 5 := by rw [hZ, hos]; rfl
  have l4 : U.length = 2 := by rw [hU]; rfl
  -- stores
  have hpY := hp.app [.lst X2, .ded]
  obtain ⟨d, t2, r2, e2, m2, c2, d2⟩ := pick_ok (k := k) (ds := X2 ++ Y ++ Z ++ U) hpY (by simp; omega) (by simp; omega) h0 (by omega)
  refine ⟨d, t2, r2, ?_, (all2 d m2).1, c2, d2⟩
  have nw1 : newC (.lst X1) S = .ok (.ref S.length) (S ++ [.lst X1]) := rfl
  have ap := app_end (S := S) (xs := X1) (d := D.pl (C ++ [.tup [syD s, .bl true]])) (by rw [hX1]; simp)
  rw [← hX2] at ap
  have ty1 := ty_end (S := S) (xs := X1)
  have ad2 : binD .Add (.ref S.length) (.pl Y) (S ++ [.lst X2]) = .ok (.ref (S ++ [Cell.lst X2]).length) ((S ++ [.lst X2]) ++ [.lst (X2 ++ Y)]) := by
    have e : (S ++ [Cell.lst X2])[S.length]? = some (.lst X2) := by simp
    simp only [binD, e]
    rw [if_pos (sizeOk_le (by omega))]; rfl
  have ex := ext_end (S := S ++ [.lst X2]) (xs := X2 ++ Y) (ys := Z) (by simp; omega)
  have ty2 := ty_extend (S := S ++ [.lst X2]) (xs := X2 ++ Y)
  have lc := ev_fzlcS (G := ⟨semN T ct (k + 2), ct⟩) (S := (S ++ [.lst X2]) ++ [.lst (X2 ++ Y)]) (L := [some (.ref p), some (.pl C), some (syD s), some (.ref (S ++ [Cell.lst X2]).length), some (.pl os), none]) (vs := [5]) (t := .nm 5) (c := .cst (.bl true)) (e := .fz (.bin .Add (.loc 1) (.fz (.lst (.cons (.tup (.cons (.loc 5) (.cons (.cst (.int 0)) .nil))) .nil)))))
    (it := .val (.fz (.bin .Add (.loc 4) (.fz (.lst (.cons (.tup (.cons (.cst (.str (Str.ofString "a"))) (.cons (.cst (.str (Str.ofString "least"))) (.cons (.bin .Add (.bin .Pow (.cst (.int 10)) (.cst (.int 20))) (.cst (.int 1))) .nil)))) .nil))))))
    (items := os ++ [o5]) (g := []) (fun _ => true) (fun o => D.pl (C ++ [.tup [o, .int 0]])) (fun o => [some (.ref p), some (.pl C), some (syD s), some (.ref (S ++ [Cell.lst X2]).length), some (.pl os), some o])
    (by
      have ao : ∀ S : Store, (binD .Add (.pl os) (.pl [o5]) S).fz S = .ok (.pl (os ++ [o5])) S := fun S => add_pl (by rw [hos]; simp) (by rw [hos]; simp) (by rw [ho5]; simp)
      rw [ho5] at ao ⊢
      simp -implicitDefEqProofs [ten20, ao]) (by rw [hos]; simp) (fun _ => gok0) (by
      intro o ho T'
      have lo : ∀ n, o.lt n = true := fun n => by
        rw [hos, ho5] at ho
        simp only [List.mem_append, List.mem_cons, List.not_mem_nil, or_false] at ho
        rcases ho with (rfl | rfl | rfl | rfl) | rfl <;> simp
      refine ⟨rfl, rfl, fun _ => ⟨?_, by simp [ltc, lo]⟩⟩
      have a := ad (.tup [o, .int 0]) ((S ++ [.lst X2]) ++ [.lst (X2 ++ Y)] ++ T') (by simp [lo])
      generalize (S ++ [.lst X2]) ++ [.lst (X2 ++ Y)] ++ T' = Q at a ⊢
      simp -implicitDefEqProofs [lo, a])
  rw [List.filter_eq_self.mpr (fun _ _ => rfl), ← hZ] at lc
  have gp : Mi.gc ((S ++ [.lst X2]) ++ [Cell.ded]) d (setP ((S ++ [.lst X2]) ++ [Cell.ded]) p cs t2 r2) = .ok d (setP ((S ++ [.lst X2]) ++ [Cell.ded]) p cs t2 r2) := gc_pen
  have gS : Mi.gc S d (setP (S ++ [.lst X2, .ded]) p cs t2 r2) = .ok d (setP S p cs t2 r2) := kp_tail hp.lt ((all2 d m2).2 _)
  have es : (S ++ [Cell.lst X2]) ++ [Cell.ded] = S ++ [Cell.lst X2, .ded] := by simp
  have e2' : semN T ct (k + 2) 19 [.ref p, .pl (X2 ++ Y ++ Z ++ U)] ((S ++ [.lst X2]) ++ [Cell.ded]) = .ok d (setP ((S ++ [.lst X2]) ++ [Cell.ded]) p cs t2 r2) := by
    rw [es]; exact e2
  have gS' : Mi.gc S d (setP ((S ++ [.lst X2]) ++ [Cell.ded]) p cs t2 r2) = .ok d (setP S p cs t2 r2) := by
    rw [es]; exact gS
  have adU : ∀ S : Store, (binD .Add (.pl (X2 ++ Y ++ Z)) (.pl U) S).fz S = .ok (.pl (X2 ++ Y ++ Z ++ U)) S := fun S => add_pl (by simp; omega) (lt2 _ (fun d hd => by simp at hd ⊢; rcases hd with z | z | z <;> simp [z]) _) (lt2 _ (fun d hd => by simp [hd]) _)
  rw [sem_run (f := c29) rfl, runF_fin rfl]
  simp -implicitDefEqProofs only [c29]
  show (fin (exS _ _ [some (.ref p), some (.pl C), none, none, none, none] S)).gc S = _
  -- first names
  have hst0 : evE ⟨semN T ct (k + 2), ct⟩ (.idx (.idx (.loc 1) (.cst (.int 0))) (.cst (.int 0))) [some (.ref p), some (.pl C), none, none, none, none] S = .ok (syD s) S := by simp -implicitDefEqProofs [gc_same, hc0, i00]
  rw [ex_asg, hst0, R.bind_ok]
  show (fin (exS _ _ [some (.ref p), some (.pl C), some (syD s), none, none, none] S)).gc S = _
  rw [ex_asg]
  have st3 : evE ⟨semN T ct (k + 2), ct⟩ (.lst (.cons (.fz (.lst .nil)) (.cons (.bi .tuple (.cons (.loc 1) .nil)) (.cons (.cst .non) (.cons (.cst (.str (Str.ofString "x"))) (.cons (.fz (.dct .nil)) (.cons (.fz (.lst (.cons (.loc 2) .nil))) (.cons (.fz (.bin .Add (.loc 1) (.fz (.lst (.cons (.tup (.cons (.loc 2) (.cons (.cst (.int 40)) .nil))) .nil))))) (.cons (.fz (.bin .Add (.loc 1) (.fz (.lst (.cons (.tup (.cons (.loc 2) (.cons (.cst .non) .nil))) .nil))))) .nil))))))))) [some (.ref p), some (.pl C), some (syD s), none, none, none] S = .ok (.ref S.length) (S ++ [.lst X1]) := by
    rw [hX1] at nw1 ⊢
    simp -implicitDefEqProofs [gc_same, ad, dc, nw1]
  rw [st3, R.bind_ok]
  show (fin (exS _ _ [some (.ref p), some (.pl C), some (syD s), some (.ref S.length), none, none] (S ++ [.lst X1]))).gc S = _
  have hst1 : evE ⟨semN T ct (k + 2), ct⟩ (.mth .append (.loc 3) (.cons (.fz (.bin .Add (.loc 1) (.fz (.lst (.cons (.tup (.cons (.loc 2) (.cons (.cst (.bl true)) .nil))) .nil))))) .nil)) [some (.ref p), some (.pl C), some (syD s), some (.ref S.length), none, none] (S ++ [.lst X1]) = .ok .non (S ++ [.lst X2]) := by simp -implicitDefEqProofs [gc_same, gc_end2, ad, ty1, ap]
  rw [ex_exp, hst1, R.bind_ok]
  have hst2 : evE ⟨semN T ct (k + 2), ct⟩ (.bin .Add (.loc 3) (.fz (.lst (.cons (.fz (.bin .Add (.loc 1) (.fz (.lst (.cons (.tup (.cons (.loc 2) (.cons (.bin .Sub (.cst (.int 0)) (.cst (.int 2))) .nil))) .nil))))) (.cons (.fz (.lst (.cons (.tup (.cons (.loc 2) (.cons (.bin .Sub (.cst (.int 0)) (.cst (.int 1))) .nil))) .nil))) (.cons (.fz (.bin .Add (.loc 1) (.fz (.lst (.cons (.tup (.cons (.slc (.loc 2) false (.cst .non) true (.cst (.int 2))) (.cons (.cst (.int 0)) .nil))) .nil))))) (.cons (.fz (.bin .Add (.loc 1) (.fz (.lst (.cons (.fz (.lst (.cons (.loc 2) (.cons (.cst (.int 0)) .nil)))) .nil))))) .nil))))))) [some (.ref p), some (.pl C), some (syD s), some (.ref S.length), none, none] (S ++ [.lst X2]) = .ok (.ref (S ++ [Cell.lst X2]).length) ((S ++ [.lst X2]) ++ [.lst (X2 ++ Y)]) := by
      rw [hY] at ad2 ⊢
      simp -implicitDefEqProofs only [List.length_append] at ad2 ⊢
      simp -implicitDefEqProofs [gc_same, ad, s2, ltc, ad2]
  rw [ex_asg, hst2, R.bind_ok]
  show (fin (exS _ _ [some (.ref p), some (.pl C), some (syD s), some (.ref (S ++ [Cell.lst X2]).length), none, none] ((S ++ [.lst X2]) ++ [.lst (X2 ++ Y)]))).gc S = _
  generalize hS2 : S ++ [Cell.lst X2] = S2 at lc ex ty2 gp e2' gS' ⊢
  have hst3 : ∀ L4, evE ⟨semN T ct (k + 2), ct⟩ (.fz (.lst (.cons (.tup (.cons (.bin .Add (.idx (.loc 2) (.cst (.int 0))) (.cst (.str (Str.ofString "qqqqqqqq")))) (.cons (.cst (.str (Str.ofString "least"))) (.cons (.cst (.int 1)) .nil)))) (.cons (.tup (.cons (.cst (.str (Str.ofString "A"))) (.cons (.cst (.str (Str.ofString "least"))) (.cons (.cst (.int 1)) .nil)))) (.cons (.tup (.cons (.cst (.str (Str.ofString "a"))) (.cons (.cst (.str (Str.ofString "more"))) (.cons (.cst (.int 1)) .nil)))) (.cons (.tup (.cons (.fz (.lst (.cons (.cst (.str (Str.ofString "a"))) .nil))) (.cons (.cst (.str (Str.ofString "least"))) (.cons (.cst (.int 1)) .nil)))) .nil)))))) [some (.ref p), some (.pl C), some (syD s), L4, none, none] (S2 ++ [.lst (X2 ++ Y)]) = .ok (.pl os) (S2 ++ [.lst (X2 ++ Y)]) := fun L4 => by
      rw [hos]
      simp -implicitDefEqProofs [-bin_addS, gc_same, i0, nq]
  rw [ex_asg, hst3, R.bind_ok]
  show (fin (exS _ _ [some (.ref p), some (.pl C), some (syD s), some (.ref S2.length), some (.pl os), none] (S2 ++ [.lst (X2 ++ Y)]))).gc S = _
  rw [ex_exp, ev_mth, ev_loc]
  simp -implicitDefEqProofs only [List.getElem?_cons_succ, List.getElem?_cons_zero, R.bind_ok, ty2, if_true, ev_acons, ev_anil, lc, ex, R.gc_ok, gc_end2]
  rw [fzv_end rfl]
  simp -implicitDefEqProofs only [List.set_cons_succ, List.set_cons_zero]
  rw [ex_ret, ev_call, ev_acons, ev_loc]
  simp -implicitDefEqProofs only [List.getElem?_cons_zero, R.bind_ok, ev_acons, ev_anil]
  have hst4 : evE ⟨semN T ct (k + 2), ct⟩ (.fz (.bin .Add (.loc 3) (.fz (.lst (.cons (.fz (.bin .Add (.loc 1) (.fz (.lst (.cons (.tup (.cons (.tup (.cons (.cst (.str (Str.ofString "a"))) (.cons (.cst (.str (Str.ofString "least"))) (.cons (.cst (.bl true)) .nil)))) (.cons (.cst (.int 0)) .nil))) .nil))))) (.cons (.fz (.bin .Add (.loc 1) (.fz (.lst (.cons (.tup (.cons (.tup (.cons (.cst (.str (Str.ofString "a"))) (.cons (.cst (.str (Str.ofString "most"))) (.cons (.cst (.str (Str.ofString "1"))) .nil)))) (.cons (.cst (.int 0)) .nil))) .nil))))) .nil))))))
      [some (.ref p), some (.pl C), some (syD s), some (.pl (X2 ++ Y ++ Z)), some (.pl os), none] (S2 ++ [.ded]) = .ok (.pl (X2 ++ Y ++ Z ++ U)) (S2 ++ [.ded]) := by
      have a := adU (S2 ++ [.ded])
      rw [hU] at a ⊢
      generalize X2 ++ Y ++ Z = V at a ⊢
      simp -implicitDefEqProofs [ad, ltc, a]
  rw [hst4, R.bind_ok, R.bind_ok, R.bind_ok]
  simp -implicitDefEqProofs only [e2', R.gc_ok, gp, R.bind_ok, fin_ret, gS']
end
end K71
namespace K71
open PySem L2 Mi
section
variable {p : Nat} {cs : List Int} {t r : Int}
theorem chD_snoc (s : Sy) (rs : List (Sy × Int)) (q : Sy × Int) : chD s (rs ++ [q]) = chD s rs ++ [lkD q.1 (.int q.2)] := by simp [chD]
theorem chok_snoc {s : Sy} {rs : List (Sy × Int)} (h : ChOk s rs) {q : Sy × Int} (a : LkOk q.1) (b : -1 ≤ q.2) (c : q.2 ≤ 39) (hl : rs.length ≤ 2000) : ChOk s (rs ++ [q]) := ⟨h.s0, fun z hz => by
  rcases List.mem_append.mp hz with y | y
  · exact h.rs z y
  · have : z = q := by simpa using y
    rw [this]; exact ⟨a, b, c⟩, by simp; omega⟩
set_option maxHeartbeats 2000000 in
/-- a drawn chain -/
theorem chain_P {k : Nat} {i : Int} {X : Store} (hp : Pn p cs t r X) (h0 : 0 ≤ t) (h1 : t < 2 ^ 40) {x0 x3 x4 x5 x6 x7 x8 x9 : Option D} :
    ∃ s r' x4' t' r2 Y, exS ⟨semN T ct (k + 8), ct⟩ ((.asg (.nm 3) (.lst (.cons (.tup (.cons (.call 22 (.cons (.loc 1) .nil)) (.cons (.cst .non) .nil))) .nil)) (.for_ (.nm 4) (.rng (.cons (.call 18 (.cons (.loc 1) (.cons (.cst (.int 12)) .nil))) .nil)) (.exp (.mth .append (.loc 3) (.cons (.tup (.cons (.call 22 (.cons (.loc 1) .nil)) (.cons (.bin .Sub (.call 18 (.cons (.loc 1) (.cons (.cst (.int 41)) .nil))) (.cst (.int 1))) .nil))) .nil)) .nil) (.ifs (.cmp .Eq (.loc 2) (.cst (.int 7))) (.asg (.nm 3) (.bin .Add (.fz (.slc (.loc 3) false (.cst .non) true (.cst (.int 1)))) (.fz (.bin .Mult (.fz (.lst (.cons (.tup (.cons (.idx (.idx (.loc 3) (.cst (.int 0))) (.cst (.int 0))) (.cons (.bin .Sub (.cst (.int 0)) (.cst (.int 1))) .nil))) .nil))) (.bin .Add (.cst (.int 1998)) (.call 18 (.cons (.loc 1) (.cons (.cst (.int 3)) .nil))))))) .nil) .nil (.fzv 3 (.asg (.tp [(.nm 5), (.nm 6)]) (.tup (.cons (.ite (.cmp .Gt (.bi .len (.cons (.loc 3) .nil)) (.cst (.int 2000))) (.cst (.str "chain")) (.cst (.str "told"))) (.cons (.call 21 (.cons (.loc 3) .nil)) .nil))) (.ifs (.or (.cmp .NotEq (.call 28 (.cons (.loc 3) .nil)) (.loc 5)) (.and (.cmp .Eq (.loc 5) (.cst (.str "told"))) (.cmp .NotEq (.call 15 (.cons (.loc 3) .nil)) (.loc 6)))) (.ret (.cst (.bl false))) .nil (.asg (.nm 7) (.call 26 (.cons (.loc 6) .nil)) (.ifs (.cmp .NotEq (.bi .repr (.cons (.loc 7) .nil)) (.bi .repr (.cons (.ite (.cmp .Eq (.loc 5) (.cst (.str "told"))) (.loc 3) (.tup (.cons (.cst (.str "row")) (.cons (.cst (.int 0)) .nil)))) .nil))) (.ret (.cst (.bl false))) .nil (.ifs (.cmp .Eq (.loc 5) (.cst (.str "told"))) (.exp (.mth .clear (.loc 7) .nil) (.ifs (.cmp .NotEq (.bi .repr (.cons (.call 16 (.cons (.loc 6) .nil)) .nil)) (.bi .repr (.cons (.loc 3) .nil))) (.ret (.cst (.bl false))) .nil .nil)) .nil (.ifs (.cmp .NotEq (.call 28 (.cons (.call 29 (.cons (.loc 1) (.cons (.loc 3) .nil))) .nil)) (.cst (.str "chain"))) (.ret (.cst (.bl false))) .nil (.for_ (.nm 8) (.rng (.cons (.ite (.cmp .Lt (.loc 2) (.cst (.int 7))) (.cst (.int 4)) (.cst (.int 0))) .nil)) (.asg (.nm 9) (.call 27 (.cons (.loc 1) (.cons (.loc 6) .nil))) (.asg (.nm 7) (.call 25 (.cons (.loc 9) .nil)) (.ifs (.cmp .NotEq (.bi .repr (.cons (.call 26 (.cons (.loc 9) .nil)) .nil)) (.bi .repr (.cons (.ite (.cmp .Is (.loc 7) (.cst .non)) (.tup (.cons (.cst (.str "row")) (.cons (.cst (.int 0)) .nil))) (.loc 7)) .nil))) (.ret (.cst (.bl false))) .nil .nil))) (.ifs (.cmp .NotEq (.call 26 (.cons (.call 19 (.cons (.loc 1) (.cons (.fz (.lst (.cons (.cst .non) (.cons (.cst (.int 7)) (.cons (.fz (.lst .nil)) (.cons (.loc 3) (.cons (.tup (.cons (.cst (.str "a>=1")) .nil)) (.cons (.cst (.str "")) .nil)))))))) .nil))) .nil)) (.tup (.cons (.cst (.str "row")) (.cons (.cst (.int 0)) .nil)))) (.ret (.cst (.bl false))) .nil .nil))))))))))))) [x0, some (.ref p), some (.int i), x3, x4, x5, x6, x7, x8, x9] X = exS ⟨semN T ct (k + 8), ct⟩ (nxt (nxt (nxt (nxt ((.asg (.nm 3) (.lst (.cons (.tup (.cons (.call 22 (.cons (.loc 1) .nil)) (.cons (.cst .non) .nil))) .nil)) (.for_ (.nm 4) (.rng (.cons (.call 18 (.cons (.loc 1) (.cons (.cst (.int 12)) .nil))) .nil)) (.exp (.mth .append (.loc 3) (.cons (.tup (.cons (.call 22 (.cons (.loc 1) .nil)) (.cons (.bin .Sub (.call 18 (.cons (.loc 1) (.cons (.cst (.int 41)) .nil))) (.cst (.int 1))) .nil))) .nil)) .nil) (.ifs (.cmp .Eq (.loc 2) (.cst (.int 7))) (.asg (.nm 3) (.bin .Add (.fz (.slc (.loc 3) false (.cst .non) true (.cst (.int 1)))) (.fz (.bin .Mult (.fz (.lst (.cons (.tup (.cons (.idx (.idx (.loc 3) (.cst (.int 0))) (.cst (.int 0))) (.cons (.bin .Sub (.cst (.int 0)) (.cst (.int 1))) .nil))) .nil))) (.bin .Add (.cst (.int 1998)) (.call 18 (.cons (.loc 1) (.cons (.cst (.int 3)) .nil))))))) .nil) .nil (.fzv 3 (.asg (.tp [(.nm 5), (.nm 6)]) (.tup (.cons (.ite (.cmp .Gt (.bi .len (.cons (.loc 3) .nil)) (.cst (.int 2000))) (.cst (.str "chain")) (.cst (.str "told"))) (.cons (.call 21 (.cons (.loc 3) .nil)) .nil))) (.ifs (.or (.cmp .NotEq (.call 28 (.cons (.loc 3) .nil)) (.loc 5)) (.and (.cmp .Eq (.loc 5) (.cst (.str "told"))) (.cmp .NotEq (.call 15 (.cons (.loc 3) .nil)) (.loc 6)))) (.ret (.cst (.bl false))) .nil (.asg (.nm 7) (.call 26 (.cons (.loc 6) .nil)) (.ifs (.cmp .NotEq (.bi .repr (.cons (.loc 7) .nil)) (.bi .repr (.cons (.ite (.cmp .Eq (.loc 5) (.cst (.str "told"))) (.loc 3) (.tup (.cons (.cst (.str "row")) (.cons (.cst (.int 0)) .nil)))) .nil))) (.ret (.cst (.bl false))) .nil (.ifs (.cmp .Eq (.loc 5) (.cst (.str "told"))) (.exp (.mth .clear (.loc 7) .nil) (.ifs (.cmp .NotEq (.bi .repr (.cons (.call 16 (.cons (.loc 6) .nil)) .nil)) (.bi .repr (.cons (.loc 3) .nil))) (.ret (.cst (.bl false))) .nil .nil)) .nil (.ifs (.cmp .NotEq (.call 28 (.cons (.call 29 (.cons (.loc 1) (.cons (.loc 3) .nil))) .nil)) (.cst (.str "chain"))) (.ret (.cst (.bl false))) .nil (.for_ (.nm 8) (.rng (.cons (.ite (.cmp .Lt (.loc 2) (.cst (.int 7))) (.cst (.int 4)) (.cst (.int 0))) .nil)) (.asg (.nm 9) (.call 27 (.cons (.loc 1) (.cons (.loc 6) .nil))) (.asg (.nm 7) (.call 25 (.cons (.loc 9) .nil)) (.ifs (.cmp .NotEq (.bi .repr (.cons (.call 26 (.cons (.loc 9) .nil)) .nil)) (.bi .repr (.cons (.ite (.cmp .Is (.loc 7) (.cst .non)) (.tup (.cons (.cst (.str "row")) (.cons (.cst (.int 0)) .nil))) (.loc 7)) .nil))) (.ret (.cst (.bl false))) .nil .nil))) (.ifs (.cmp .NotEq (.call 26 (.cons (.call 19 (.cons (.loc 1) (.cons (.fz (.lst (.cons (.cst .non) (.cons (.cst (.int 7)) (.cons (.fz (.lst .nil)) (.cons (.loc 3) (.cons (.tup (.cons (.cst (.str "a>=1")) .nil)) (.cons (.cst (.str "")) .nil)))))))) .nil))) .nil)) (.tup (.cons (.cst (.str "row")) (.cons (.cst (.int 0)) .nil)))) (.ret (.cst (.bl false))) .nil .nil))))))))))))))))) [x0, some (.ref p), some (.int i), some (.pl (chD s r')), x4', x5, x6, x7, x8, x9] Y ∧
      ChOk s r' ∧ (i ≠ 7 → r'.length ≤ 11) ∧ Pn p cs t' r2 Y ∧ t ≤ t' ∧ t' ≤ t + 400 := by
  have hlt := hp.lt
  obtain ⟨s, t1, r1, e1, ok1, a1, b1⟩ := saying_P (k := k + 5) hp h0 (by omega)
  have st1 : evE ⟨semN T ct (k + 8), ct⟩ (.lst (.cons (.tup (.cons (.call 22 (.cons (.loc 1) .nil)) (.cons (.cst .non) .nil))) .nil)) [x0, some (.ref p), some (.int i), x3, x4, x5, x6, x7, x8, x9] X = .ok (.ref X.length) (setP (X ++ [.lst (chD s [])]) p cs t1 r1) := by
    have nw : newC (.lst [.tup [syD s, .non]]) (setP X p cs t1 r1) = .ok (.ref X.length) (setP (X ++ [.lst (chD s [])]) p cs t1 r1) := by
      rw [setP_app hlt]
      show R.ok (D.ref (setP X p cs t1 r1).length) _ = _
      rw [setP_len]; rfl
    simp -implicitDefEqProofs [e1, gc_pen, nw]
  have p1 := (hp.app [.lst (chD s [])]).set t1 r1
  obtain ⟨v, t2, r2, e2, a2, b2, c2, d2⟩ := draw_ok (k := k + 7) (m := 12) p1 (by omega) (by omega) (by omega) (by omega)
  rw [setP_set] at e2
  obtain ⟨m, rfl⟩ : ∃ m : Nat, v = (m : Int) := ⟨v.toNat, by omega⟩
  have rg : rngD [.int (m : Int)] = some ((List.range m).map fun (k : Nat) => D.int (k : Int)) := by
    rw [rng_one (by omega) (by omega)]; rfl
  obtain ⟨L', S', e3, rs, y4, t3, r3, rfl, rfl, hlen, hok, a3, b3⟩ := for_inv0 (g := []) (items := (List.range m).map fun (k : Nat) => D.int (k : Int)) (L := [x0, some (.ref p), some (.int i), some (.ref X.length), x4, x5, x6, x7, x8, x9]) (S := setP (X ++ [.lst (chD s [])]) p cs t2 r2) (f := body2 ⟨semN T ct (k + 8), ct⟩ (.nm 4) ((.exp (.mth .append (.loc 3) (.cons (.tup (.cons (.call 22 (.cons (.loc 1) .nil)) (.cons (.bin .Sub (.call 18 (.cons (.loc 1) (.cons (.cst (.int 41)) .nil))) (.cst (.int 1))) .nil))) .nil)) .nil)))
    (fun j L S' => ∃ rs y4 t3 r3, L = [x0, some (.ref p), some (.int i), some (.ref X.length), y4, x5, x6, x7, x8, x9] ∧ S' = setP (X ++ [.lst (chD s rs)]) p cs t3 r3 ∧ rs.length = j ∧ ChOk s rs ∧ t2 ≤ t3 ∧ t3 ≤ t2 + 21 * (j : Int))
    ⟨[], x4, t2, r2, rfl, rfl, rfl, ⟨ok1, by simp, by simp⟩, by omega, by omega⟩ (fun _ _ _ _ => gok0) (by
      rintro j d L S' hd ⟨rs, y4, t3, r3, rfl, rfl, hlen, hok, q1, q2⟩
      obtain ⟨rfl, hj⟩ := rng_get hd
      have p3 := (hp.app [.lst (chD s rs)]).set t3 r3
      obtain ⟨s4, t4, r4, e4, ok4, a4, b4⟩ := saying_P (k := k + 5) p3 (by omega) (by omega)
      rw [setP_set] at e4
      obtain ⟨v5, t5, r5, e5, a5, b5, c5, d5⟩ := draw_ok (k := k + 7) (m := 41) ((hp.app [.lst (chD s rs)]).set t4 r4) (by omega) (by omega) (by omega) (by omega)
      rw [setP_set] at e5
      have ty := ty_tail (S := X) (p := p) (cs := cs) (t := t3) (r := r3) (xs := chD s rs) hlt
      have ap := app_tail (S := X) (p := p) (cs := cs) (t := t5) (r := r5) (xs := chD s rs) (d := lkD s4 (.int (v5 - 1))) hlt (by rw [chD_len]; omega)
      rw [← chD_snoc s rs (s4, v5 - 1)] at ap
      have gl : ∀ (d : D) (c c' : Cell) (t r t' r' : Int), Mi.gc (setP (X ++ [c]) p cs t r) d (setP (X ++ [c']) p cs t' r') = .ok d (setP (X ++ [c']) p cs t' r') := fun d c c' t r t' r' => gc_len (by simp)
      refine ⟨_, _, ?_, rs ++ [(s4, v5 - 1)], some (.int (j : Int)), t5, r5, rfl, rfl, by simp [hlen], chok_snoc hok ok4 (by show -1 ≤ v5 - 1; omega) (by show v5 - 1 ≤ 39; omega) (by omega), by omega, by omega⟩
      unfold lkD at ap
      simp -implicitDefEqProofs [body2, ty, e4, gc_pen, gc_pen2, e5, ap, gl])
  rw [List.length_map, List.length_range] at hlen b3
  -- turn 7
  have p3 := (hp.app [.lst (chD s rs)]).set t3 r3
  have key : ∃ r' n ds t' r2 S3, thenS ⟨semN T ct (k + 8), ct⟩ (nxt (nxt (nxt ((.asg (.nm 3) (.lst (.cons (.tup (.cons (.call 22 (.cons (.loc 1) .nil)) (.cons (.cst .non) .nil))) .nil)) (.for_ (.nm 4) (.rng (.cons (.call 18 (.cons (.loc 1) (.cons (.cst (.int 12)) .nil))) .nil)) (.exp (.mth .append (.loc 3) (.cons (.tup (.cons (.call 22 (.cons (.loc 1) .nil)) (.cons (.bin .Sub (.call 18 (.cons (.loc 1) (.cons (.cst (.int 41)) .nil))) (.cst (.int 1))) .nil))) .nil)) .nil) (.ifs (.cmp .Eq (.loc 2) (.cst (.int 7))) (.asg (.nm 3) (.bin .Add (.fz (.slc (.loc 3) false (.cst .non) true (.cst (.int 1)))) (.fz (.bin .Mult (.fz (.lst (.cons (.tup (.cons (.idx (.idx (.loc 3) (.cst (.int 0))) (.cst (.int 0))) (.cons (.bin .Sub (.cst (.int 0)) (.cst (.int 1))) .nil))) .nil))) (.bin .Add (.cst (.int 1998)) (.call 18 (.cons (.loc 1) (.cons (.cst (.int 3)) .nil))))))) .nil) .nil (.fzv 3 (.asg (.tp [(.nm 5), (.nm 6)]) (.tup (.cons (.ite (.cmp .Gt (.bi .len (.cons (.loc 3) .nil)) (.cst (.int 2000))) (.cst (.str "chain")) (.cst (.str "told"))) (.cons (.call 21 (.cons (.loc 3) .nil)) .nil))) (.ifs (.or (.cmp .NotEq (.call 28 (.cons (.loc 3) .nil)) (.loc 5)) (.and (.cmp .Eq (.loc 5) (.cst (.str "told"))) (.cmp .NotEq (.call 15 (.cons (.loc 3) .nil)) (.loc 6)))) (.ret (.cst (.bl false))) .nil (.asg (.nm 7) (.call 26 (.cons (.loc 6) .nil)) (.ifs (.cmp .NotEq (.bi .repr (.cons (.loc 7) .nil)) (.bi .repr (.cons (.ite (.cmp .Eq (.loc 5) (.cst (.str "told"))) (.loc 3) (.tup (.cons (.cst (.str "row")) (.cons (.cst (.int 0)) .nil)))) .nil))) (.ret (.cst (.bl false))) .nil (.ifs (.cmp .Eq (.loc 5) (.cst (.str "told"))) (.exp (.mth .clear (.loc 7) .nil) (.ifs (.cmp .NotEq (.bi .repr (.cons (.call 16 (.cons (.loc 6) .nil)) .nil)) (.bi .repr (.cons (.loc 3) .nil))) (.ret (.cst (.bl false))) .nil .nil)) .nil (.ifs (.cmp .NotEq (.call 28 (.cons (.call 29 (.cons (.loc 1) (.cons (.loc 3) .nil))) .nil)) (.cst (.str "chain"))) (.ret (.cst (.bl false))) .nil (.for_ (.nm 8) (.rng (.cons (.ite (.cmp .Lt (.loc 2) (.cst (.int 7))) (.cst (.int 4)) (.cst (.int 0))) .nil)) (.asg (.nm 9) (.call 27 (.cons (.loc 1) (.cons (.loc 6) .nil))) (.asg (.nm 7) (.call 25 (.cons (.loc 9) .nil)) (.ifs (.cmp .NotEq (.bi .repr (.cons (.call 26 (.cons (.loc 9) .nil)) .nil)) (.bi .repr (.cons (.ite (.cmp .Is (.loc 7) (.cst .non)) (.tup (.cons (.cst (.str "row")) (.cons (.cst (.int 0)) .nil))) (.loc 7)) .nil))) (.ret (.cst (.bl false))) .nil .nil))) (.ifs (.cmp .NotEq (.call 26 (.cons (.call 19 (.cons (.loc 1) (.cons (.fz (.lst (.cons (.cst .non) (.cons (.cst (.int 7)) (.cons (.fz (.lst .nil)) (.cons (.loc 3) (.cons (.tup (.cons (.cst (.str "a>=1")) .nil)) (.cons (.cst (.str "")) .nil)))))))) .nil))) .nil)) (.tup (.cons (.cst (.str "row")) (.cons (.cst (.int 0)) .nil)))) (.ret (.cst (.bl false))) .nil .nil)))))))))))))))) (ifB (.bl (i == 7)) (exS ⟨semN T ct (k + 8), ct⟩ (.asg (.nm 3) (.bin .Add (.fz (.slc (.loc 3) false (.cst .non) true (.cst (.int 1)))) (.fz (.bin .Mult (.fz (.lst (.cons (.tup (.cons (.idx (.idx (.loc 3) (.cst (.int 0))) (.cst (.int 0))) (.cons (.bin .Sub (.cst (.int 0)) (.cst (.int 1))) .nil))) .nil))) (.bin .Add (.cst (.int 1998)) (.call 18 (.cons (.loc 1) (.cons (.cst (.int 3)) .nil))))))) .nil) [x0, some (.ref p), some (.int i), some (.ref X.length), y4, x5, x6, x7, x8, x9] (setP (X ++ [.lst (chD s rs)]) p cs t3 r3)) (exS ⟨semN T ct (k + 8), ct⟩ .nil [x0, some (.ref p), some (.int i), some (.ref X.length), y4, x5, x6, x7, x8, x9] (setP (X ++ [.lst (chD s rs)]) p cs t3 r3))) =
      exS ⟨semN T ct (k + 8), ct⟩ (nxt (nxt (nxt ((.asg (.nm 3) (.lst (.cons (.tup (.cons (.call 22 (.cons (.loc 1) .nil)) (.cons (.cst .non) .nil))) .nil)) (.for_ (.nm 4) (.rng (.cons (.call 18 (.cons (.loc 1) (.cons (.cst (.int 12)) .nil))) .nil)) (.exp (.mth .append (.loc 3) (.cons (.tup (.cons (.call 22 (.cons (.loc 1) .nil)) (.cons (.bin .Sub (.call 18 (.cons (.loc 1) (.cons (.cst (.int 41)) .nil))) (.cst (.int 1))) .nil))) .nil)) .nil) (.ifs (.cmp .Eq (.loc 2) (.cst (.int 7))) (.asg (.nm 3) (.bin .Add (.fz (.slc (.loc 3) false (.cst .non) true (.cst (.int 1)))) (.fz (.bin .Mult (.fz (.lst (.cons (.tup (.cons (.idx (.idx (.loc 3) (.cst (.int 0))) (.cst (.int 0))) (.cons (.bin .Sub (.cst (.int 0)) (.cst (.int 1))) .nil))) .nil))) (.bin .Add (.cst (.int 1998)) (.call 18 (.cons (.loc 1) (.cons (.cst (.int 3)) .nil))))))) .nil) .nil (.fzv 3 (.asg (.tp [(.nm 5), (.nm 6)]) (.tup (.cons (.ite (.cmp .Gt (.bi .len (.cons (.loc 3) .nil)) (.cst (.int 2000))) (.cst (.str "chain")) (.cst (.str "told"))) (.cons (.call 21 (.cons (.loc 3) .nil)) .nil))) (.ifs (.or (.cmp .NotEq (.call 28 (.cons (.loc 3) .nil)) (.loc 5)) (.and (.cmp .Eq (.loc 5) (.cst (.str "told"))) (.cmp .NotEq (.call 15 (.cons (.loc 3) .nil)) (.loc 6)))) (.ret (.cst (.bl false))) .nil (.asg (.nm 7) (.call 26 (.cons (.loc 6) .nil)) (.ifs (.cmp .NotEq (.bi .repr (.cons (.loc 7) .nil)) (.bi .repr (.cons (.ite (.cmp .Eq (.loc 5) (.cst (.str "told"))) (.loc 3) (.tup (.cons (.cst (.str "row")) (.cons (.cst (.int 0)) .nil)))) .nil))) (.ret (.cst (.bl false))) .nil (.ifs (.cmp .Eq (.loc 5) (.cst (.str "told"))) (.exp (.mth .clear (.loc 7) .nil) (.ifs (.cmp .NotEq (.bi .repr (.cons (.call 16 (.cons (.loc 6) .nil)) .nil)) (.bi .repr (.cons (.loc 3) .nil))) (.ret (.cst (.bl false))) .nil .nil)) .nil (.ifs (.cmp .NotEq (.call 28 (.cons (.call 29 (.cons (.loc 1) (.cons (.loc 3) .nil))) .nil)) (.cst (.str "chain"))) (.ret (.cst (.bl false))) .nil (.for_ (.nm 8) (.rng (.cons (.ite (.cmp .Lt (.loc 2) (.cst (.int 7))) (.cst (.int 4)) (.cst (.int 0))) .nil)) (.asg (.nm 9) (.call 27 (.cons (.loc 1) (.cons (.loc 6) .nil))) (.asg (.nm 7) (.call 25 (.cons (.loc 9) .nil)) (.ifs (.cmp .NotEq (.bi .repr (.cons (.call 26 (.cons (.loc 9) .nil)) .nil)) (.bi .repr (.cons (.ite (.cmp .Is (.loc 7) (.cst .non)) (.tup (.cons (.cst (.str "row")) (.cons (.cst (.int 0)) .nil))) (.loc 7)) .nil))) (.ret (.cst (.bl false))) .nil .nil))) (.ifs (.cmp .NotEq (.call 26 (.cons (.call 19 (.cons (.loc 1) (.cons (.fz (.lst (.cons (.cst .non) (.cons (.cst (.int 7)) (.cons (.fz (.lst .nil)) (.cons (.loc 3) (.cons (.tup (.cons (.cst (.str "a>=1")) .nil)) (.cons (.cst (.str "")) .nil)))))))) .nil))) .nil)) (.tup (.cons (.cst (.str "row")) (.cons (.cst (.int 0)) .nil)))) (.ret (.cst (.bl false))) .nil .nil)))))))))))))))) [x0, some (.ref p), some (.int i), some (.ref n), y4, x5, x6, x7, x8, x9] S3 ∧ ds = chD s r' ∧ S3[n]? = some (.lst ds) ∧ n ≠ p ∧ Pn p cs t' r2 S3 ∧ ChOk s r' ∧ (i ≠ 7 → r'.length ≤ 11) ∧ t3 ≤ t' ∧ t' ≤ t3 + 1 := by
    by_cases h7 : i = 7
    · have e7 : (i == 7) = true := by rw [h7]; rfl
      rw [e7, ifB_t]
      obtain ⟨v6, t6, r6, e6, a6, b6, c6, d6⟩ := draw_ok (k := k + 7) (m := 3) p3 (by omega) (by omega) (by omega) (by omega)
      rw [setP_set] at e6
      have at3 : (setP (X ++ [.lst (chD s rs)]) p cs t3 r3)[X.length]? = some (.lst (chD s rs)) := at_tail (T := []) hlt
      have sl : ((slcD (.ref X.length) none (some 1) (setP (X ++ [.lst (chD s rs)]) p cs t3 r3)).gc (setP (X ++ [.lst (chD s rs)]) p cs t3 r3)).fz (setP (X ++ [.lst (chD s rs)]) p cs t3 r3) = .ok (.pl [lkD s .non]) (setP (X ++ [.lst (chD s rs)]) p cs t3 r3) := by
        rw [slc_lst at3, cut_to _ (by omega)]
        show ((newC (.lst ((chD s rs).take 1)) _).gc _).fz _ = _
        exact newG_same (by show D.ltAll _ [lkD s .non] = true; simp [lkD])
      have ix : idxD (.ref X.length) (.int 0) (setP (X ++ [.lst (chD s rs)]) p cs t3 r3) = .ok (lkD s .non) (setP (X ++ [.lst (chD s rs)]) p cs t3 r3) := idx_lst at3 (Mi.atI_nat (i := 0) rfl)
      have i0 : ∀ S, idxD (lkD s .non) (.int 0) S = .ok (syD s) S := fun S => ixT (i := 0) rfl
      obtain ⟨j, hj⟩ : ∃ j : Nat, 1998 + v6 = (j : Int) := ⟨(1998 + v6).toNat, by omega⟩
      have j2000 : j ≤ 2000 := by omega
      have ml : (binD .Mult (.pl [.tup [syD s, .int (-1)]]) (.int (1998 + v6)) (setP (X ++ [.lst (chD s rs)]) p cs t6 r6)).fz (setP (X ++ [.lst (chD s rs)]) p cs t3 r3) = .ok (.pl (List.replicate j (.tup [syD s, .int (-1)]))) (setP (X ++ [.lst (chD s rs)]) p cs t6 r6) := by
        have e : binD .Mult (.pl [.tup [syD s, .int (-1)]]) (.int (1998 + v6)) (setP (X ++ [.lst (chD s rs)]) p cs t6 r6) = newC (.lst (List.replicate j (.tup [syD s, .int (-1)]))) (setP (X ++ [.lst (chD s rs)]) p cs t6 r6) := by
          have fl : ∀ (n : Nat) (x : D), (List.replicate n [x]).flatten = List.replicate n x := fun n x => by
            induction n with
            | zero => rfl
            | succ n ih => rw [List.replicate_succ, List.flatten_cons, ih]; rfl
          show (if decide (0 ≤ (1998 + v6)) && decide ((1998 + v6) < 2 ^ 63) && sizeOk (1 * (1998 + v6).toNat) then newC (.lst (List.flatten (List.replicate (1998 + v6).toNat [D.tup [syD s, .int (-1)]]))) _ else .bad) = _
          rw [fl, hj, decide_eq_true (by omega), decide_eq_true (by omega), sizeOk_le (by rw [Int.toNat_natCast]; omega), Int.toNat_natCast]; rfl
        rw [e]
        exact newL_pen2 (ltAll_iff.mpr fun d hd => by rw [List.eq_of_mem_replicate hd]; simp)
      have chl : chD s (List.replicate j (s, -1)) = lkD s .non :: List.replicate j (.tup [syD s, .int (-1)]) := by
        unfold chD
        rw [List.map_replicate]; rfl
      have adr : binD .Add (.pl [lkD s .non]) (.pl (List.replicate j (.tup [syD s, .int (-1)]))) (setP (X ++ [.lst (chD s rs)]) p cs t6 r6) = newC (.lst (chD s (List.replicate j (s, -1)))) (setP (X ++ [.lst (chD s rs)]) p cs t6 r6) := by
        show (if Mi.sizeOk _ then _ else _) = _
        rw [if_pos (sizeOk_le (by simp; omega)), chl]; rfl
      refine ⟨List.replicate j (s, -1), X.length + 1, _, t6, r6, setP (X ++ [.lst (chD s rs)]) p cs t6 r6 ++ [.lst (chD s (List.replicate j (s, -1)))], ?_, rfl, ?_, by omega, ?_, ⟨ok1, fun q hq => by rw [List.eq_of_mem_replicate hq]; exact ⟨ok1, by show (-1 : Int) ≤ -1; omega, by show (-1 : Int) ≤ 39; omega⟩, by simp; omega⟩, fun z => absurd h7 z, by omega, by omega⟩
      · have nw : newC (.lst (chD s (List.replicate j (s, -1)))) (setP (X ++ [.lst (chD s rs)]) p cs t6 r6) = .ok (.ref (X.length + 1)) (setP (X ++ [.lst (chD s rs)]) p cs t6 r6 ++ [.lst (chD s (List.replicate j (s, -1)))]) := by
          show R.ok (D.ref (setP (X ++ [.lst (chD s rs)]) p cs t6 r6).length) _ = _
          rw [setP_len, List.length_append]; rfl
        rw [nw] at adr
        generalize List.replicate j (D.tup [syD s, .int (-1)]) = rp at ml adr
        generalize chD s (List.replicate j (s, -1)) = ch at adr ⊢
        generalize hA : setP (X ++ [.lst (chD s rs)]) p cs t3 r3 = A at e6 sl ix ml ⊢
        generalize hB : setP (X ++ [.lst (chD s rs)]) p cs t6 r6 = B at e6 ml adr ⊢
        have gAB : ∀ d, Mi.gc A d B = .ok d B := fun d => by rw [← hA, ← hB]; exact gc_pen2
        have e6' : semN T ct (k + 8) 18 [.ref p, .int 3] A = .ok (.int v6) B := e6
        simp -implicitDefEqProofs [gc_same, sl, ix, i0, e6', gAB, ml, adr]
      · have : (setP (X ++ [.lst (chD s rs)]) p cs t6 r6).length = X.length + 1 := by simp
        rw [← this]; simp
      · exact ((hp.app [.lst (chD s rs)]).set t6 r6).app _
    · have e7 : (i == 7) = false := by rw [beq_eq_false_iff_ne]; exact h7
      rw [e7, ifB_f]
      exact ⟨rs, X.length, _, t3, r3, setP (X ++ [.lst (chD s rs)]) p cs t3 r3, rfl, rfl, at_tail (T := []) hlt, by omega, p3, hok, fun _ => by omega, by omega, by omega⟩
  obtain ⟨r', n, ds, t', r7, S3, e7, rfl, hat, hn, hp7, hok7, hl7, a7, b7⟩ := key
  refine ⟨s, r', y4, t', r7, S3.set n .ded, ?_, hok7, hl7, hp7.put hn, by omega, by omega⟩
  simp only [nxt] at e7 ⊢
  rw [ex_asgN (by simp), st1, R.bind_ok]
  simp only [List.set_cons_succ, List.set_cons_zero]
  have stI : evI ⟨semN T ct (k + 8), ct⟩ (.rng (.cons (.call 18 (.cons (.loc 1) (.cons (.cst (.int 12)) .nil))) .nil)) [x0, some (.ref p), some (.int i), some (.ref X.length), x4, x5, x6, x7, x8, x9] (setP (X ++ [.lst (chD s [])]) p cs t1 r1) = .ok ((List.range m).map fun (k : Nat) => D.int (k : Int), []) (setP (X ++ [.lst (chD s [])]) p cs t2 r2) := by
    have e2' : semN T ct (k + 8) 18 [.ref p, .int 12] (setP (X ++ [.lst (chD s [])]) p cs t1 r1) = .ok (.int (m : Int)) (setP (X ++ [.lst (chD s [])]) p cs t2 r2) := e2
    simp -implicitDefEqProofs [e2', gc_pen2, rg]
  rw [ex_for, stI, R.bind_ok]
  simp only
  rw [e3, then_nx]
  rw [ex_ifs, show evE ⟨semN T ct (k + 8), ct⟩ (.cmp .Eq (.loc 2) (.cst (.int 7))) [x0, some (.ref p), some (.int i), some (.ref X.length), y4, x5, x6, x7, x8, x9] (setP (X ++ [.lst (chD s rs)]) p cs t3 r3) = .ok (.bl (i == 7)) (setP (X ++ [.lst (chD s rs)]) p cs t3 r3) by simp -implicitDefEqProofs [gc_same], R.bind_ok]
  rw [e7]
  rw [ex_fzvL (n := n) rfl hat]
  simp only [List.set_cons_succ, List.set_cons_zero]
end
end K71
namespace K71
open PySem L2 Mi
section
variable {p : Nat} {cs : List Int} {t r : Int}
abbrev toldS : Str := Str.ofString "told"
abbrev chainS : Str := Str.ofString "chain"
theorem ok_told : PyData.strOk toldS = true := by decide +kernel
theorem ok_chain : PyData.strOk chainS = true := by decide +kernel
theorem eq_told {S : Store} : cmpD .Eq (.str toldS) (.str (Str.ofString "told")) S = .ok (.bl true) S := by
  rw [eqS ok_told ok_told, beq_self_eq_true]
theorem eq_chain {S : Store} : cmpD .Eq (.str chainS) (.str (Str.ofString "told")) S = .ok (.bl false) S := by
  rw [eqS ok_chain ok_told, show (chainS == Str.ofString "told") = false from beqS _ (by decide +kernel)]
theorem vw_row : VwR 2 (.tup [.str (Str.ofString "row"), .int 0]) 700 := vw_tup (k := 1) (v := 250) (by
  intro d hd
  simp only [List.mem_cons, List.not_mem_nil, or_false] at hd
  rcases hd with rfl | rfl
  · exact vw_str (by decide +kernel) (by decide +kernel)
  · exact vw_int (by omega) (by omega) (Nat.le_refl _)) (by simp)
/-- a chain shown and read -/
theorem rest1_P {k : Nat} {Y : Store} {s : Sy} {r' : List (Sy × Int)} (hp : Pn p cs t r Y) (h : ChOk s r') {x0 x2 x4 x5 x6 x7 x8 x9 : Option D} :
    ∃ w x7' Z, exS ⟨semN T ct (k + 8), ct⟩ (nxt (nxt (nxt (nxt ((.asg (.nm 3) (.lst (.cons (.tup (.cons (.call 22 (.cons (.loc 1) .nil)) (.cons (.cst .non) .nil))) .nil)) (.for_ (.nm 4) (.rng (.cons (.call 18 (.cons (.loc 1) (.cons (.cst (.int 12)) .nil))) .nil)) (.exp (.mth .append (.loc 3) (.cons (.tup (.cons (.call 22 (.cons (.loc 1) .nil)) (.cons (.bin .Sub (.call 18 (.cons (.loc 1) (.cons (.cst (.int 41)) .nil))) (.cst (.int 1))) .nil))) .nil)) .nil) (.ifs (.cmp .Eq (.loc 2) (.cst (.int 7))) (.asg (.nm 3) (.bin .Add (.fz (.slc (.loc 3) false (.cst .non) true (.cst (.int 1)))) (.fz (.bin .Mult (.fz (.lst (.cons (.tup (.cons (.idx (.idx (.loc 3) (.cst (.int 0))) (.cst (.int 0))) (.cons (.bin .Sub (.cst (.int 0)) (.cst (.int 1))) .nil))) .nil))) (.bin .Add (.cst (.int 1998)) (.call 18 (.cons (.loc 1) (.cons (.cst (.int 3)) .nil))))))) .nil) .nil (.fzv 3 (.asg (.tp [(.nm 5), (.nm 6)]) (.tup (.cons (.ite (.cmp .Gt (.bi .len (.cons (.loc 3) .nil)) (.cst (.int 2000))) (.cst (.str "chain")) (.cst (.str "told"))) (.cons (.call 21 (.cons (.loc 3) .nil)) .nil))) (.ifs (.or (.cmp .NotEq (.call 28 (.cons (.loc 3) .nil)) (.loc 5)) (.and (.cmp .Eq (.loc 5) (.cst (.str "told"))) (.cmp .NotEq (.call 15 (.cons (.loc 3) .nil)) (.loc 6)))) (.ret (.cst (.bl false))) .nil (.asg (.nm 7) (.call 26 (.cons (.loc 6) .nil)) (.ifs (.cmp .NotEq (.bi .repr (.cons (.loc 7) .nil)) (.bi .repr (.cons (.ite (.cmp .Eq (.loc 5) (.cst (.str "told"))) (.loc 3) (.tup (.cons (.cst (.str "row")) (.cons (.cst (.int 0)) .nil)))) .nil))) (.ret (.cst (.bl false))) .nil (.ifs (.cmp .Eq (.loc 5) (.cst (.str "told"))) (.exp (.mth .clear (.loc 7) .nil) (.ifs (.cmp .NotEq (.bi .repr (.cons (.call 16 (.cons (.loc 6) .nil)) .nil)) (.bi .repr (.cons (.loc 3) .nil))) (.ret (.cst (.bl false))) .nil .nil)) .nil (.ifs (.cmp .NotEq (.call 28 (.cons (.call 29 (.cons (.loc 1) (.cons (.loc 3) .nil))) .nil)) (.cst (.str "chain"))) (.ret (.cst (.bl false))) .nil (.for_ (.nm 8) (.rng (.cons (.ite (.cmp .Lt (.loc 2) (.cst (.int 7))) (.cst (.int 4)) (.cst (.int 0))) .nil)) (.asg (.nm 9) (.call 27 (.cons (.loc 1) (.cons (.loc 6) .nil))) (.asg (.nm 7) (.call 25 (.cons (.loc 9) .nil)) (.ifs (.cmp .NotEq (.bi .repr (.cons (.call 26 (.cons (.loc 9) .nil)) .nil)) (.bi .repr (.cons (.ite (.cmp .Is (.loc 7) (.cst .non)) (.tup (.cons (.cst (.str "row")) (.cons (.cst (.int 0)) .nil))) (.loc 7)) .nil))) (.ret (.cst (.bl false))) .nil .nil))) (.ifs (.cmp .NotEq (.call 26 (.cons (.call 19 (.cons (.loc 1) (.cons (.fz (.lst (.cons (.cst .non) (.cons (.cst (.int 7)) (.cons (.fz (.lst .nil)) (.cons (.loc 3) (.cons (.tup (.cons (.cst (.str "a>=1")) .nil)) (.cons (.cst (.str "")) .nil)))))))) .nil))) .nil)) (.tup (.cons (.cst (.str "row")) (.cons (.cst (.int 0)) .nil)))) (.ret (.cst (.bl false))) .nil .nil))))))))))))))))) [x0, some (.ref p), x2, some (.pl (chD s r')), x4, x5, x6, x7, x8, x9] Y =
      exS ⟨semN T ct (k + 8), ct⟩ (nxt (nxt (nxt (nxt (nxt (nxt (nxt (nxt (nxt ((.asg (.nm 3) (.lst (.cons (.tup (.cons (.call 22 (.cons (.loc 1) .nil)) (.cons (.cst .non) .nil))) .nil)) (.for_ (.nm 4) (.rng (.cons (.call 18 (.cons (.loc 1) (.cons (.cst (.int 12)) .nil))) .nil)) (.exp (.mth .append (.loc 3) (.cons (.tup (.cons (.call 22 (.cons (.loc 1) .nil)) (.cons (.bin .Sub (.call 18 (.cons (.loc 1) (.cons (.cst (.int 41)) .nil))) (.cst (.int 1))) .nil))) .nil)) .nil) (.ifs (.cmp .Eq (.loc 2) (.cst (.int 7))) (.asg (.nm 3) (.bin .Add (.fz (.slc (.loc 3) false (.cst .non) true (.cst (.int 1)))) (.fz (.bin .Mult (.fz (.lst (.cons (.tup (.cons (.idx (.idx (.loc 3) (.cst (.int 0))) (.cst (.int 0))) (.cons (.bin .Sub (.cst (.int 0)) (.cst (.int 1))) .nil))) .nil))) (.bin .Add (.cst (.int 1998)) (.call 18 (.cons (.loc 1) (.cons (.cst (.int 3)) .nil))))))) .nil) .nil (.fzv 3 (.asg (.tp [(.nm 5), (.nm 6)]) (.tup (.cons (.ite (.cmp .Gt (.bi .len (.cons (.loc 3) .nil)) (.cst (.int 2000))) (.cst (.str "chain")) (.cst (.str "told"))) (.cons (.call 21 (.cons (.loc 3) .nil)) .nil))) (.ifs (.or (.cmp .NotEq (.call 28 (.cons (.loc 3) .nil)) (.loc 5)) (.and (.cmp .Eq (.loc 5) (.cst (.str "told"))) (.cmp .NotEq (.call 15 (.cons (.loc 3) .nil)) (.loc 6)))) (.ret (.cst (.bl false))) .nil (.asg (.nm 7) (.call 26 (.cons (.loc 6) .nil)) (.ifs (.cmp .NotEq (.bi .repr (.cons (.loc 7) .nil)) (.bi .repr (.cons (.ite (.cmp .Eq (.loc 5) (.cst (.str "told"))) (.loc 3) (.tup (.cons (.cst (.str "row")) (.cons (.cst (.int 0)) .nil)))) .nil))) (.ret (.cst (.bl false))) .nil (.ifs (.cmp .Eq (.loc 5) (.cst (.str "told"))) (.exp (.mth .clear (.loc 7) .nil) (.ifs (.cmp .NotEq (.bi .repr (.cons (.call 16 (.cons (.loc 6) .nil)) .nil)) (.bi .repr (.cons (.loc 3) .nil))) (.ret (.cst (.bl false))) .nil .nil)) .nil (.ifs (.cmp .NotEq (.call 28 (.cons (.call 29 (.cons (.loc 1) (.cons (.loc 3) .nil))) .nil)) (.cst (.str "chain"))) (.ret (.cst (.bl false))) .nil (.for_ (.nm 8) (.rng (.cons (.ite (.cmp .Lt (.loc 2) (.cst (.int 7))) (.cst (.int 4)) (.cst (.int 0))) .nil)) (.asg (.nm 9) (.call 27 (.cons (.loc 1) (.cons (.loc 6) .nil))) (.asg (.nm 7) (.call 25 (.cons (.loc 9) .nil)) (.ifs (.cmp .NotEq (.bi .repr (.cons (.call 26 (.cons (.loc 9) .nil)) .nil)) (.bi .repr (.cons (.ite (.cmp .Is (.loc 7) (.cst .non)) (.tup (.cons (.cst (.str "row")) (.cons (.cst (.int 0)) .nil))) (.loc 7)) .nil))) (.ret (.cst (.bl false))) .nil .nil))) (.ifs (.cmp .NotEq (.call 26 (.cons (.call 19 (.cons (.loc 1) (.cons (.fz (.lst (.cons (.cst .non) (.cons (.cst (.int 7)) (.cons (.fz (.lst .nil)) (.cons (.loc 3) (.cons (.tup (.cons (.cst (.str "a>=1")) .nil)) (.cons (.cst (.str "")) .nil)))))))) .nil))) .nil)) (.tup (.cons (.cst (.str "row")) (.cons (.cst (.int 0)) .nil)))) (.ret (.cst (.bl false))) .nil .nil)))))))))))))))))))))) [x0, some (.ref p), x2, some (.pl (chD s r')), x4, some (.str w), some (.str (chT s r')), x7', x8, x9] Z ∧ Pn p cs t r Z := by
  have hl := h.len
  have sn := chT_sn h
  have tl := chT_len h
  have mk := mkS_tl (chT s r')
  have okT : PyData.strOk (chT s r') = true := by rw [← mk]; exact sn.ok
  have ls := fun S => lshowc_L (k := k + 6) (S := S) h
  have sc := fun S => showc_L (k := k) (S := S) h
  have sc1 := fun S => showc_L (k := k + 1) (S := S) h
  have rc := fun S => readc_L (k := k) (S := S) sn (by rw [← str_len]; omega)
  have rc1 := fun S => readc_L (k := k + 1) (S := S) sn (by rw [← str_len]; omega)
  obtain ⟨z, oz, z1, z2⟩ := repr_two (k := 2) (vw_chD h) (by omega) (by omega)
  obtain ⟨zr, ozr, zr1⟩ := vw_row.repr (by omega) (by omega)
  have nz := fun S => ne_self (S := S) oz
  have nzr := fun S => ne_self (S := S) ozr
  have ltc : ∀ n, D.ltAll n (chD s r') = true := fun n => lt_chD s r'
  have cl := chD_len s r'
  simp only [nxt]
  rw [mk] at rc rc1
  by_cases q : r'.length ≤ 1999
  · have rd := read_chT h q
    simp only [spL, rd] at rc rc1
    simp only [if_pos q] at sc sc1
    have wd := fun S => word_told (sc S)
    have td := fun S => told_list (rc S) (ltc _)
    have c1 : ¬ ((2000 : Int) < ((chD s r').length : Nat)) := by rw [cl]; omega
    generalize chD s r' = C at ls sc sc1 rc rc1 z1 z2 ltc wd td c1 ⊢
    generalize chT s r' = X at ls sc sc1 rc rc1 wd td okT ⊢
    refine ⟨toldS, some (.ref Y.length), Y ++ [.lst []], ?_, hp.app _⟩
    have nX := ne_self (S := Y) okT
    have nT := ne_self (S := Y) ok_told
    rw [ex_asgT (d := .tup [.str toldS, .str X]) (S1 := Y) (by simp -implicitDefEqProofs [gc_same, c1, ls]) (L1 := [x0, some (.ref p), x2, some (.pl C), x4, some (.str toldS), some (.str X), x7, x8, x9]) rfl]
    rw [ex_ifF (S1 := Y) (by simp -implicitDefEqProofs [gc_same, wd, nT, eq_told, sc1, nX])]
    have ge := gc_end (S := Y) (xs := C) (ltc _)
    rw [ex_asgT (d := .ref Y.length) (S1 := Y ++ [.lst C]) (by simp -implicitDefEqProofs [td, ge]) (L1 := [x0, some (.ref p), x2, some (.pl C), x4, some (.str toldS), some (.str X), some (.ref Y.length), x8, x9]) rfl]
    have zz := z2 (Y ++ [.lst C]) Y.length (by simp)
    rw [ex_ifF (S1 := Y ++ [.lst C]) (by simp -implicitDefEqProofs [gc_same, zz, eq_told, z1, nz])]
    rw [ex_ifT (S1 := Y ++ [.lst C]) (by simp -implicitDefEqProofs [gc_same, eq_told])]
    have cl2 := clr_end (S := Y) (xs := C)
    have tc := ty_clr (S := Y) (xs := C)
    have e1 : evE ⟨semN T ct (k + 8), ct⟩ (.mth .clear (.loc 7) .nil) [x0, some (.ref p), x2, some (.pl C), x4, some (.str toldS), some (.str X), some (.ref Y.length), x8, x9] (Y ++ [.lst C]) = .ok .non (Y ++ [.lst []]) := by
      simp -implicitDefEqProofs [gc_same, gc_end2, tc, cl2]
    rw [ex_exp, e1, R.bind_ok]
    generalize Y ++ [Cell.lst []] = Y2
    have rc2 := rc1 Y2
    have rc3 : semN T ct (k + 8) 16 [.str X] Y2 = .ok (.ref Y2.length) (Y2 ++ [.lst C]) := rc2
    have ge2 := gc_end (S := Y2) (xs := C) (ltc _)
    have zz2 := z2 (Y2 ++ [.lst C]) Y2.length (by simp)
    have gd : ∀ (d : D), d.lt Y2.length = true → Mi.gc Y2 d (Y2 ++ [.lst C]) = .ok d Y2 := fun d hd => gc_drop hd
    have gs := gd (.str z) rfl
    rw [ex_ifF (S1 := Y2) (by simp -implicitDefEqProofs [gc_same, rc3, ge2, zz2, gs, z1, nz]), ex_nil, then_nx]
  · have rd := read_many h q
    simp only [spL, rd] at rc rc1
    simp only [if_neg q] at sc sc1
    have wd := fun S => word_no (sc S)
    obtain ⟨T', rcY⟩ := rc Y
    have td := told_row rcY
    have c1 : ((2000 : Int) < ((chD s r').length : Nat)) := by rw [cl]; omega
    generalize chD s r' = C at ls sc sc1 rc rc1 z1 z2 ltc wd td c1 ⊢
    generalize chT s r' = X at ls sc sc1 rc rc1 wd td okT ⊢
    refine ⟨chainS, some rowD, Y, ?_, hp⟩
    have nT := ne_self (S := Y) ok_chain
    rw [ex_asgT (d := .tup [.str chainS, .str X]) (S1 := Y) (by simp -implicitDefEqProofs [gc_same, c1, ls]) (L1 := [x0, some (.ref p), x2, some (.pl C), x4, some (.str chainS), some (.str X), x7, x8, x9]) rfl]
    rw [ex_ifF (S1 := Y) (by simp -implicitDefEqProofs [gc_same, wd, nT, eq_chain])]
    rw [ex_asgT (d := rowD) (S1 := Y) (by simp -implicitDefEqProofs [gc_same, td]) (L1 := [x0, some (.ref p), x2, some (.pl C), x4, some (.str chainS), some (.str X), some rowD, x8, x9]) rfl]
    rw [ex_ifF (S1 := Y) (by unfold rowD; simp -implicitDefEqProofs [gc_same, eq_chain, zr1, nzr])]
    rw [ex_ifs, show evE ⟨semN T ct (k + 8), ct⟩ (.cmp .Eq (.loc 5) (.cst (.str "told"))) [x0, some (.ref p), x2, some (.pl C), x4, some (.str chainS), some (.str X), some rowD, x8, x9] Y = .ok (.bl false) Y by simp -implicitDefEqProofs [gc_same, eq_chain], R.bind_ok, ifB_f, ex_nil, then_nx]
end
end K71
namespace K71
open PySem L2 Mi
section
variable {p : Nat} {cs : List Int} {t r : Int}
/-- a text read by both -/
theorem both_P {k : Nat} {S : Store} {l : List Nat} (h : Sn l) (hl : l.length < 16776000) {x0 x1 x2 x3 x4 x5 x6 x8 : Option D} :
    ∃ d, semN T ct (k + 8) 25 [.str (mkS l)] S = .ok d S ∧ evE ⟨semN T ct (k + 8), ct⟩ (.cmp .NotEq (.bi .repr (.cons (.call 26 (.cons (.loc 9) .nil)) .nil)) (.bi .repr (.cons (.ite (.cmp .Is (.loc 7) (.cst .non)) (.tup (.cons (.cst (.str (Str.ofString "row"))) (.cons (.cst (.int 0)) .nil))) (.loc 7)) .nil))) [x0, x1, x2, x3, x4, x5, x6, some d, x8, some (.str (mkS l))] S = .ok (.bl false) S := by
  have du := due_L (k := k + 4) (S := S) h hl
  have rc := readc_L (k := k) (S := S) h hl
  refine ⟨_, du, ?_⟩
  cases hr : readV (spL l) with
  | none =>
    rw [hr] at rc
    obtain ⟨T', rc⟩ := rc
    have td := told_row rc
    obtain ⟨zr, ozr, zr1⟩ := vw_row.repr (by omega) (by omega)
    have nzr := ne_self (S := S) ozr
    unfold rowD at td
    unfold optL
    simp -implicitDefEqProofs [gc_same, td, zr1, nzr]
  | some ds =>
    rw [hr] at rc
    obtain ⟨vw, lt⟩ := vw_read hr
    have td := told_list rc (lt _)
    obtain ⟨z, oz, z1, z2⟩ := repr_two (k := 2) vw (by omega) (by omega)
    have nz := ne_self (S := S) oz
    have ge := gc_end (S := S) (xs := ds) (lt _)
    have zz := z2 (S ++ [.lst ds]) S.length (by simp)
    have gs := gc_drop (S := S) (T := [.lst ds]) (d := .str z) rfl
    unfold optL
    simp -implicitDefEqProofs [gc_same, td, ge, zz, gs, z1, nz]
/-- odd things, bent texts, things that are no texts -/
theorem rest2_P {k : Nat} {Z : Store} {s : Sy} {r' : List (Sy × Int)} {i : Int} (hp : Pn p cs t r Z) (h0 : 0 ≤ t) (h1 : t < 2 ^ 40) (h : ChOk s r') (hi : i ≤ 7) (hl7 : i ≠ 7 → r'.length ≤ 11) {x0 x4 x5 x7 x8 x9 : Option D} :
    ∃ x7' x8' x9' Z' t' r2, exS ⟨semN T ct (k + 8), ct⟩ (nxt (nxt (nxt (nxt (nxt (nxt (nxt (nxt (nxt ((.asg (.nm 3) (.lst (.cons (.tup (.cons (.call 22 (.cons (.loc 1) .nil)) (.cons (.cst .non) .nil))) .nil)) (.for_ (.nm 4) (.rng (.cons (.call 18 (.cons (.loc 1) (.cons (.cst (.int 12)) .nil))) .nil)) (.exp (.mth .append (.loc 3) (.cons (.tup (.cons (.call 22 (.cons (.loc 1) .nil)) (.cons (.bin .Sub (.call 18 (.cons (.loc 1) (.cons (.cst (.int 41)) .nil))) (.cst (.int 1))) .nil))) .nil)) .nil) (.ifs (.cmp .Eq (.loc 2) (.cst (.int 7))) (.asg (.nm 3) (.bin .Add (.fz (.slc (.loc 3) false (.cst .non) true (.cst (.int 1)))) (.fz (.bin .Mult (.fz (.lst (.cons (.tup (.cons (.idx (.idx (.loc 3) (.cst (.int 0))) (.cst (.int 0))) (.cons (.bin .Sub (.cst (.int 0)) (.cst (.int 1))) .nil))) .nil))) (.bin .Add (.cst (.int 1998)) (.call 18 (.cons (.loc 1) (.cons (.cst (.int 3)) .nil))))))) .nil) .nil (.fzv 3 (.asg (.tp [(.nm 5), (.nm 6)]) (.tup (.cons (.ite (.cmp .Gt (.bi .len (.cons (.loc 3) .nil)) (.cst (.int 2000))) (.cst (.str "chain")) (.cst (.str "told"))) (.cons (.call 21 (.cons (.loc 3) .nil)) .nil))) (.ifs (.or (.cmp .NotEq (.call 28 (.cons (.loc 3) .nil)) (.loc 5)) (.and (.cmp .Eq (.loc 5) (.cst (.str "told"))) (.cmp .NotEq (.call 15 (.cons (.loc 3) .nil)) (.loc 6)))) (.ret (.cst (.bl false))) .nil (.asg (.nm 7) (.call 26 (.cons (.loc 6) .nil)) (.ifs (.cmp .NotEq (.bi .repr (.cons (.loc 7) .nil)) (.bi .repr (.cons (.ite (.cmp .Eq (.loc 5) (.cst (.str "told"))) (.loc 3) (.tup (.cons (.cst (.str "row")) (.cons (.cst (.int 0)) .nil)))) .nil))) (.ret (.cst (.bl false))) .nil (.ifs (.cmp .Eq (.loc 5) (.cst (.str "told"))) (.exp (.mth .clear (.loc 7) .nil) (.ifs (.cmp .NotEq (.bi .repr (.cons (.call 16 (.cons (.loc 6) .nil)) .nil)) (.bi .repr (.cons (.loc 3) .nil))) (.ret (.cst (.bl false))) .nil .nil)) .nil (.ifs (.cmp .NotEq (.call 28 (.cons (.call 29 (.cons (.loc 1) (.cons (.loc 3) .nil))) .nil)) (.cst (.str "chain"))) (.ret (.cst (.bl false))) .nil (.for_ (.nm 8) (.rng (.cons (.ite (.cmp .Lt (.loc 2) (.cst (.int 7))) (.cst (.int 4)) (.cst (.int 0))) .nil)) (.asg (.nm 9) (.call 27 (.cons (.loc 1) (.cons (.loc 6) .nil))) (.asg (.nm 7) (.call 25 (.cons (.loc 9) .nil)) (.ifs (.cmp .NotEq (.bi .repr (.cons (.call 26 (.cons (.loc 9) .nil)) .nil)) (.bi .repr (.cons (.ite (.cmp .Is (.loc 7) (.cst .non)) (.tup (.cons (.cst (.str "row")) (.cons (.cst (.int 0)) .nil))) (.loc 7)) .nil))) (.ret (.cst (.bl false))) .nil .nil))) (.ifs (.cmp .NotEq (.call 26 (.cons (.call 19 (.cons (.loc 1) (.cons (.fz (.lst (.cons (.cst .non) (.cons (.cst (.int 7)) (.cons (.fz (.lst .nil)) (.cons (.loc 3) (.cons (.tup (.cons (.cst (.str "a>=1")) .nil)) (.cons (.cst (.str "")) .nil)))))))) .nil))) .nil)) (.tup (.cons (.cst (.str "row")) (.cons (.cst (.int 0)) .nil)))) (.ret (.cst (.bl false))) .nil .nil)))))))))))))))))))))) [x0, some (.ref p), some (.int i), some (.pl (chD s r')), x4, x5, some (.str (chT s r')), x7, x8, x9] Z =
      .ok (.nx, [x0, some (.ref p), some (.int i), some (.pl (chD s r')), x4, x5, some (.str (chT s r')), x7', x8', x9']) Z' ∧ Pn p cs t' r2 Z' ∧ t ≤ t' ∧ t' ≤ t + 100 := by
  have sn := chT_sn h
  have tl := chT_len h
  have mk := mkS_tl (chT s r')
  have clen := chD_len s r'
  have ltc : ∀ n, D.ltAll n (chD s r') = true := fun n => lt_chD s r'
  -- an odd thing
  obtain ⟨d, t1, r1, e1, nol, a1, b1⟩ := odd_P (k := k + 5) hp h0 (by omega) h
  have wd : semN T ct (k + 8) 28 [d] (setP Z p cs t1 r1) = .ok (.str chainS) (setP Z p cs t1 r1) := word_no (showc_no (nol k _))
  have p1 := hp.set t1 r1
  -- the text, when it is bent
  have short : i ≠ 7 → (chT s r').cps.toList.length ≤ 1600 := fun z => by
    have := join_len (a := spS) (b := 64) (ys := chW s r') fun y hy => (chW_wd h y hy).len
    have l1 := chW_len s r'
    have l2 := hl7 z
    have l3 : spS.length = 1 := by rw [str_len, sp_l]; rfl
    rw [← str_len]
    unfold chT
    rw [l3] at this
    omega
  simp only [nxt]
  have nc := fun S => ne_self (S := S) ok_chain
  have c6 : evE ⟨semN T ct (k + 8), ct⟩ (.cmp .NotEq (.call 28 (.cons (.call 29 (.cons (.loc 1) (.cons (.loc 3) .nil))) .nil)) (.cst (.str (Str.ofString "chain")))) [x0, some (.ref p), some (.int i), some (.pl (chD s r')), x4, x5, some (.str (chT s r')), x7, x8, x9] Z = .ok (.bl false) (setP Z p cs t1 r1) := by
    generalize chD s r' = C at e1
    simp -implicitDefEqProofs [e1, gc_pen, wd, gc_same, nc]
  rw [ex_ifF c6]
  -- the loop
  obtain ⟨n, hn, hn4, hni⟩ : ∃ n : Nat, (if i < 7 then (4 : Int) else 0) = (n : Int) ∧ n ≤ 4 ∧ (0 < n → i ≠ 7) := by
    by_cases z : i < 7
    · exact ⟨4, by rw [if_pos z]; rfl, by omega, fun _ => by omega⟩
    · exact ⟨0, by rw [if_neg z]; rfl, by omega, fun h => by omega⟩
  have rg : rngD [.int (n : Int)] = some ((List.range n).map fun (k : Nat) => D.int (k : Int)) := by
    rw [rng_one (by omega) (by omega)]; rfl
  have stI : evI ⟨semN T ct (k + 8), ct⟩ (.rng (.cons (.ite (.cmp .Lt (.loc 2) (.cst (.int 7))) (.cst (.int 4)) (.cst (.int 0))) .nil)) [x0, some (.ref p), some (.int i), some (.pl (chD s r')), x4, x5, some (.str (chT s r')), x7, x8, x9] (setP Z p cs t1 r1) = .ok ((List.range n).map fun (k : Nat) => D.int (k : Int), []) (setP Z p cs t1 r1) := by
    by_cases z : i < 7
    · rw [if_pos z] at hn
      rw [← hn] at rg
      simp -implicitDefEqProofs [gc_same, z, rg]
    · rw [if_neg z] at hn
      rw [← hn] at rg
      simp -implicitDefEqProofs [gc_same, z, rg]
  obtain ⟨L', S', e2, y7, y8, y9, t2, r2, rfl, p2, a2, b2⟩ := for_inv0 (g := []) (items := (List.range n).map fun (k : Nat) => D.int (k : Int)) (L := [x0, some (.ref p), some (.int i), some (.pl (chD s r')), x4, x5, some (.str (chT s r')), x7, x8, x9]) (S := setP Z p cs t1 r1) (f := body2 ⟨semN T ct (k + 8), ct⟩ (.nm 8) ((.asg (.nm 9) (.call 27 (.cons (.loc 1) (.cons (.loc 6) .nil))) (.asg (.nm 7) (.call 25 (.cons (.loc 9) .nil)) (.ifs (.cmp .NotEq (.bi .repr (.cons (.call 26 (.cons (.loc 9) .nil)) .nil)) (.bi .repr (.cons (.ite (.cmp .Is (.loc 7) (.cst .non)) (.tup (.cons (.cst (.str "row")) (.cons (.cst (.int 0)) .nil))) (.loc 7)) .nil))) (.ret (.cst (.bl false))) .nil .nil)))))
    (fun j L S' => ∃ y7 y8 y9 t2 r2, L = [x0, some (.ref p), some (.int i), some (.pl (chD s r')), x4, x5, some (.str (chT s r')), y7, y8, y9] ∧ Pn p cs t2 r2 S' ∧ t1 ≤ t2 ∧ t2 ≤ t1 + 10 * (j : Int))
    ⟨x7, x8, x9, t1, r1, rfl, p1, by omega, by omega⟩ (fun _ _ _ _ => gok0) (by
      rintro j dd L S' hd ⟨y7, y8, y9, t2, r2, rfl, p2, q1, q2⟩
      obtain ⟨rfl, hj⟩ := rng_get hd
      obtain ⟨l', t3, r3, e3, s3, l3, a3, b3⟩ := bent_P (k := k + 5) p2 (by omega) (by omega) sn (short (hni (by omega)))
      rw [mk] at e3
      obtain ⟨du, e4, e5⟩ := both_P (k := k) (S := setP S' p cs t3 r3) s3 (by omega) (x0 := x0) (x1 := some (.ref p)) (x2 := some (.int i)) (x3 := some (.pl (chD s r'))) (x4 := x4) (x5 := x5) (x6 := some (.str (chT s r'))) (x8 := some (.int (j : Int)))
      refine ⟨[x0, some (.ref p), some (.int i), some (.pl (chD s r')), x4, x5, some (.str (chT s r')), some du, some (.int (j : Int)), some (.str (mkS l'))], setP S' p cs t3 r3, ?_, _, _, _, t3, r3, rfl, p2.set t3 r3, by omega, by omega⟩
      generalize chD s r' = C at e5 ⊢
      generalize chT s r' = X at e3 e5 ⊢
      unfold body2
      rw [asg_nm, if_pos (by simp), ofO_some, R.bind_ok]
      simp only [List.set_cons_succ, List.set_cons_zero]
      rw [ex_asgT (d := .str (mkS l')) (S1 := setP S' p cs t3 r3) (by simp -implicitDefEqProofs [e3, gc_pen]) (L1 := [x0, some (.ref p), some (.int i), some (.pl C), x4, x5, some (.str X), y7, some (.int (j : Int)), some (.str (mkS l'))]) rfl]
      rw [ex_asgT (d := du) (S1 := setP S' p cs t3 r3) (by simp -implicitDefEqProofs [e4, gc_same]) (L1 := [x0, some (.ref p), some (.int i), some (.pl C), x4, x5, some (.str X), some du, some (.int (j : Int)), some (.str (mkS l'))]) rfl]
      rw [ex_ifF e5, ex_nil])
  rw [List.length_map, List.length_range] at b2
  rw [ex_for, stI, R.bind_ok]
  simp only
  rw [e2, then_nx]
  -- no texts
  obtain ⟨dd, t3, r3, e3, m3, a3, b3⟩ := pick_ok (k := k + 6) (ds := [.non, .int 7, .pl [], .pl (chD s r'), .tup [.str "a>=1"], .str ""]) p2 (by simp) (by simp) (by omega) (by omega)
  have td : semN T ct (k + 8) 26 [dd] (setP S' p cs t3 r3) = .ok rowD (setP S' p cs t3 r3) := by
    have no : ∀ d : D, biD .isi [d, .sta (.ty "str")] (setP S' p cs t3 r3) = .ok (.bl false) (setP S' p cs t3 r3) → semN T ct (k + 8) 26 [d] (setP S' p cs t3 r3) = .ok rowD (setP S' p cs t3 r3) := fun d hd => told_row (T' := []) (by rw [List.append_nil]; exact readc_no (k := k + 6) hd)
    simp only [List.mem_cons, List.not_mem_nil, or_false] at m3
    rcases m3 with rfl | rfl | rfl | rfl | rfl | rfl
    · exact no _ rfl
    · exact no _ rfl
    · exact no _ rfl
    · exact no _ rfl
    · exact no _ rfl
    · have rc := readc_L (k := k) (S := setP S' p cs t3 r3) (l := []) (fun c hc => by cases hc) (by simp)
      simp only [spL, read_nil] at rc
      obtain ⟨T', rc⟩ := rc
      exact told_row rc
  have nr := fun S => ne_row (S := S)
  unfold rowD at td
  have c8 : evE ⟨semN T ct (k + 8), ct⟩ (.cmp .NotEq (.call 26 (.cons (.call 19 (.cons (.loc 1) (.cons (.fz (.lst (.cons (.cst .non) (.cons (.cst (.int 7)) (.cons (.fz (.lst .nil)) (.cons (.loc 3) (.cons (.tup (.cons (.cst (.str "a>=1")) .nil)) (.cons (.cst (.str "")) .nil)))))))) .nil))) .nil)) (.tup (.cons (.cst (.str "row")) (.cons (.cst (.int 0)) .nil)))) [x0, some (.ref p), some (.int i), some (.pl (chD s r')), x4, x5, some (.str (chT s r')), y7, y8, y9] S' = .ok (.bl false) (setP S' p cs t3 r3) := by
    generalize chD s r' = C at e3 ltc
    simp -implicitDefEqProofs [e3, gc_pen, gc_same, td, nr, ltc]
  rw [ex_ifF c8, ex_nil]
  exact ⟨_, _, _, _, t3, r3, rfl, p2.set t3 r3, by omega, by omega⟩
theorem pen_ok {k : Nat} {S : Store} {ns : List Int} (h0 : S[0]? = some (.frz (ns.map .int))) (h1 : S.length = 1) : semN T ct (k + 1) 17 [.ref 0] S = .ok (.ref 1) (S ++ [penL (ns.take 63) 0 0]) := by
  show _ = R.ok (D.ref 1) (S ++ [.lst [.pl ((ns.take 63).map .int), .int 0, .int 0]])
  have cut : cutD (ns.map D.int) none (some 63) = (ns.take 63).map .int := by
    rw [cut_to _ (by omega), List.map_take]; rfl
  have hc : ∀ m, D.ltAll m ((ns.take 63).map D.int) = true := fun m => ltAll_ints _
  generalize (ns.take 63).map D.int = C at cut hc ⊢
  have p1 : (slcD (.ref 0) none (some 63) S).gc S = .ok (.ref 1) (S ++ [.lst C]) := by
    rw [slc_frz h0, cut, R.gc_ok]
    have := gc_new0 (S := S) (T := [.lst C]) (m := S.length) (c := .lst C) (Nat.le_refl _) (by simp) (hc _)
    rw [this, h1]
  have g1 : (S ++ [Cell.lst C])[1]? = some (.lst C) := by
    rw [List.getElem?_append_right (by omega), h1]; rfl
  have p2 : ((biD .list [.ref 1] (S ++ [.lst C])).gc S).fz S = .ok (.pl C) S := by
    have e : biD .list [.ref 1] (S ++ [.lst C]) = .ok (.ref 2) (S ++ [.lst C, .lst C]) := by
      simp only [biD, g1]
      show R.ok (D.ref (S ++ [Cell.lst C]).length) ((S ++ [Cell.lst C]) ++ [.lst C]) = _
      simp [h1]
    rw [e, R.gc_ok, gc_new0 (S := S) (T := [.lst C, .lst C]) (m := 2) (c := .lst C) (by omega) (by rw [List.getElem?_append_right (by omega), h1]; rfl) (hc _)]
    exact fz_lst (Kp.refl S) (Nat.le_refl _) (by simp) (hc _)
  have p3 : newC (.lst [.pl C, .int 0, .int 0]) S = .ok (.ref 1) (S ++ [.lst [.pl C, .int 0, .int 0]]) := by
    show R.ok (D.ref S.length) _ = _
    rw [h1]
  have p4 : Mi.gc S (.ref 1) (S ++ [.lst [.pl C, .int 0, .int 0]]) = .ok (.ref 1) (S ++ [.lst [.pl C, .int 0, .int 0]]) := by
    rw [gc_new0 (S := S) (T := [.lst [.pl C, .int 0, .int 0]]) (m := 1) (c := .lst [.pl C, .int 0, .int 0]) (by omega) (by rw [List.getElem?_append_right (by omega), h1]; rfl) (by
      show D.ltAll _ [.pl C, .int 0, .int 0] = true
      simp [hc]), h1]
  rw [sem_run (f := c17) rfl]
  simp -implicitDefEqProofs only [runF, c17]
  simp -implicitDefEqProofs [p1, p2, p3, p4]
theorem gc_bl {S S' : Store} {b : Bool} : ∃ S2, Mi.gc S (.bl b) S' = .ok (.bl b) S2 := by
  unfold Mi.gc
  split
  · exact ⟨_, rfl⟩
  · exact ⟨_, rfl⟩
theorem law_ok (ns : List Int) (_ : ns.length ≤ 63) (_ : ∀ z ∈ ns, Builtin.Int.intBits z ≤ 1048576) : ∃ S', semN T ct 41 30 [.ref 0] [.frz (ns.map .int)] = .ok (.bl true) S' := by
  have h0 : [Cell.frz (ns.map .int)][0]? = some (.frz (ns.map .int)) := rfl
  have h1 : [Cell.frz (ns.map .int)].length = 1 := rfl
  generalize [Cell.frz (ns.map .int)] = S at h0 h1
  have pm := pen_ok (k := 39) h0 h1
  have p4 : Mi.gc S (.ref 1) (S ++ [penL (ns.take 63) 0 0]) = .ok (.ref 1) (S ++ [penL (ns.take 63) 0 0]) := by
    rw [gc_new0 (S := S) (T := [penL (ns.take 63) 0 0]) (m := 1) (c := penL (ns.take 63) 0 0) (by omega) (by rw [List.getElem?_append_right (by omega), h1]; rfl) pen_lt, h1]
  have hp : Pn 1 (ns.take 63) 0 0 (S ++ [penL (ns.take 63) 0 0]) := by
    show (S ++ [penL (ns.take 63) 0 0])[1]? = _
    rw [List.getElem?_append_right (by omega), h1]; rfl
  generalize S ++ [penL (ns.take 63) 0 0] = S1 at pm p4 hp
  obtain ⟨L', S', e, _⟩ := for_inv0 (g := []) (items := (List.range 8).map fun (k : Nat) => D.int (k : Int)) (L := [some (.ref 0), some (.ref 1), none, none, none, none, none, none, none, none]) (S := S1) (f := body2 ⟨semN T ct 40, ct⟩ (.nm 2) ((.asg (.nm 3) (.lst (.cons (.tup (.cons (.call 22 (.cons (.loc 1) .nil)) (.cons (.cst .non) .nil))) .nil)) (.for_ (.nm 4) (.rng (.cons (.call 18 (.cons (.loc 1) (.cons (.cst (.int 12)) .nil))) .nil)) (.exp (.mth .append (.loc 3) (.cons (.tup (.cons (.call 22 (.cons (.loc 1) .nil)) (.cons (.bin .Sub (.call 18 (.cons (.loc 1) (.cons (.cst (.int 41)) .nil))) (.cst (.int 1))) .nil))) .nil)) .nil) (.ifs (.cmp .Eq (.loc 2) (.cst (.int 7))) (.asg (.nm 3) (.bin .Add (.fz (.slc (.loc 3) false (.cst .non) true (.cst (.int 1)))) (.fz (.bin .Mult (.fz (.lst (.cons (.tup (.cons (.idx (.idx (.loc 3) (.cst (.int 0))) (.cst (.int 0))) (.cons (.bin .Sub (.cst (.int 0)) (.cst (.int 1))) .nil))) .nil))) (.bin .Add (.cst (.int 1998)) (.call 18 (.cons (.loc 1) (.cons (.cst (.int 3)) .nil))))))) .nil) .nil (.fzv 3 (.asg (.tp [(.nm 5), (.nm 6)]) (.tup (.cons (.ite (.cmp .Gt (.bi .len (.cons (.loc 3) .nil)) (.cst (.int 2000))) (.cst (.str "chain")) (.cst (.str "told"))) (.cons (.call 21 (.cons (.loc 3) .nil)) .nil))) (.ifs (.or (.cmp .NotEq (.call 28 (.cons (.loc 3) .nil)) (.loc 5)) (.and (.cmp .Eq (.loc 5) (.cst (.str "told"))) (.cmp .NotEq (.call 15 (.cons (.loc 3) .nil)) (.loc 6)))) (.ret (.cst (.bl false))) .nil (.asg (.nm 7) (.call 26 (.cons (.loc 6) .nil)) (.ifs (.cmp .NotEq (.bi .repr (.cons (.loc 7) .nil)) (.bi .repr (.cons (.ite (.cmp .Eq (.loc 5) (.cst (.str "told"))) (.loc 3) (.tup (.cons (.cst (.str "row")) (.cons (.cst (.int 0)) .nil)))) .nil))) (.ret (.cst (.bl false))) .nil (.ifs (.cmp .Eq (.loc 5) (.cst (.str "told"))) (.exp (.mth .clear (.loc 7) .nil) (.ifs (.cmp .NotEq (.bi .repr (.cons (.call 16 (.cons (.loc 6) .nil)) .nil)) (.bi .repr (.cons (.loc 3) .nil))) (.ret (.cst (.bl false))) .nil .nil)) .nil (.ifs (.cmp .NotEq (.call 28 (.cons (.call 29 (.cons (.loc 1) (.cons (.loc 3) .nil))) .nil)) (.cst (.str "chain"))) (.ret (.cst (.bl false))) .nil (.for_ (.nm 8) (.rng (.cons (.ite (.cmp .Lt (.loc 2) (.cst (.int 7))) (.cst (.int 4)) (.cst (.int 0))) .nil)) (.asg (.nm 9) (.call 27 (.cons (.loc 1) (.cons (.loc 6) .nil))) (.asg (.nm 7) (.call 25 (.cons (.loc 9) .nil)) (.ifs (.cmp .NotEq (.bi .repr (.cons (.call 26 (.cons (.loc 9) .nil)) .nil)) (.bi .repr (.cons (.ite (.cmp .Is (.loc 7) (.cst .non)) (.tup (.cons (.cst (.str "row")) (.cons (.cst (.int 0)) .nil))) (.loc 7)) .nil))) (.ret (.cst (.bl false))) .nil .nil))) (.ifs (.cmp .NotEq (.call 26 (.cons (.call 19 (.cons (.loc 1) (.cons (.fz (.lst (.cons (.cst .non) (.cons (.cst (.int 7)) (.cons (.fz (.lst .nil)) (.cons (.loc 3) (.cons (.tup (.cons (.cst (.str "a>=1")) .nil)) (.cons (.cst (.str "")) .nil)))))))) .nil))) .nil)) (.tup (.cons (.cst (.str "row")) (.cons (.cst (.int 0)) .nil)))) (.ret (.cst (.bl false))) .nil .nil))))))))))))))
    (fun i L S' => ∃ (y2 y3 y4 y5 y6 y7 y8 y9 : Option D) (t r : Int), L = [some (.ref 0), some (.ref 1), y2, y3, y4, y5, y6, y7, y8, y9] ∧ Pn 1 (ns.take 63) t r S' ∧ 0 ≤ t ∧ t ≤ 500 * (i : Int))
    ⟨none, none, none, none, none, none, none, none, 0, 0, rfl, hp, by omega, by omega⟩ (fun _ _ _ _ => gok0) (by
      rintro i d L S' hd ⟨y2, y3, y4, y5, y6, y7, y8, y9, t, r, rfl, hpi, q0, q1⟩
      obtain ⟨rfl, hi⟩ := rng_get hd
      obtain ⟨s, r', x4', t2, r2, Y, e1, ok1, l1, p1, a1, b1⟩ := chain_P (k := 32) (i := (i : Int)) hpi q0 (by omega) (x0 := some (.ref 0)) (x3 := y3) (x4 := y4) (x5 := y5) (x6 := y6) (x7 := y7) (x8 := y8) (x9 := y9)
      obtain ⟨w, x7', Z, e2, p2⟩ := rest1_P (k := 32) p1 ok1 (x0 := some (.ref 0)) (x2 := some (.int (i : Int))) (x4 := x4') (x5 := y5) (x6 := y6) (x7 := y7) (x8 := y8) (x9 := y9)
      obtain ⟨z7, z8, z9, Z', t3, r3, e3, p3, a3, b3⟩ := rest2_P (k := 32) p2 (by omega) (by omega) ok1 (by omega) l1 (x0 := some (.ref 0)) (x4 := x4') (x5 := some (.str w)) (x7 := x7') (x8 := y8) (x9 := y9)
      refine ⟨[some (.ref 0), some (.ref 1), some (.int (i : Int)), some (.pl (chD s r')), x4', some (.str w), some (.str (chT s r')), z7, z8, z9], Z', ?_, _, _, _, _, _, _, _, _, t3, r3, rfl, p3, by omega, by omega⟩
      unfold body2
      rw [asg_nm, if_pos (by simp), ofO_some, R.bind_ok]
      simp only [List.set_cons_succ, List.set_cons_zero]
      rw [e1, e2, e3])
  have rg : rngD [.int 8] = some ((List.range 8).map fun (k : Nat) => D.int (k : Int)) := rng_one (j := 8) (by omega) (by omega)
  rw [sem_run (f := c30) rfl, runF_fin rfl]
  simp -implicitDefEqProofs only [c30]
  simp -implicitDefEqProofs [pm, p4, rg]
  rw [e, then_nx]
  simp -implicitDefEqProofs
  exact gc_bl
end
end K71
open PySem PySem.W PyProof.Rows
set_option maxHeartbeats 0 in
theorem PySem.Challenge.cw_pawldials_k71_chains_written_and_read_holds : PySem.Challenge.rw_pawldials_k71_chains_written_and_read.Holds := by
  w_on; o_law; k_head; (case hw => w_witness2)
  k_fill
  refine Mi.walk_mi (l := PySem.Challenge.rw_pawldials_k71_chains_written_and_read) (m := 63) (k := 41) (n := 60) (iL := 30) (nm := K71.nm) (T := K71.T) (ct := K71.ct) rfl (by decide) rfl (by refine ⟨rfl, ?_, ?_⟩ <;> decide) (by first | rfl | decide +kernel) (fun w h Y => PySem.W.kIn_of Y) (by first | rfl | decide +kernel) (fun cf h => by cases h; rfl) ?F (fun ns hl hb => K71.law_ok ns hl hb)
  case F =>
    intro w mg h KX G
    refine ⟨Mi.rows_of (fns := K71.fns) ?R, Mi.cts_of (cts := K71.cts) ?Q, ?B, ?X, ?DT, Mi.ix_of (asked := K71.asked) ?I, ?C, ?FX, ?HD, ?MK, ?ME, ?FL⟩
    case R =>
      refine Mi.rows_cons ?_ ?_
      · refine' Mi.row_mk KX G K71.e0 rfl (by decide +kernel) ?a ?l ?c ?k; (case a => k_is); (case l => k_is); (case c => k_is); (case k => k_is)
      refine Mi.rows_cons ?_ ?_
      · refine' Mi.row_mk KX G K71.e1 rfl (by decide +kernel) ?a ?l ?c ?k; (case a => k_is); (case l => k_is); (case c => k_is); (case k => k_is)
      refine Mi.rows_cons ?_ ?_
      · refine' Mi.row_mk KX G K71.e2 rfl (by decide +kernel) ?a ?l ?c ?k; (case a => k_is); (case l => k_is); (case c => k_is); (case k => k_is)
      refine Mi.rows_cons ?_ ?_
      · refine' Mi.row_mk KX G K71.e3 rfl (by decide +kernel) ?a ?l ?c ?k; (case a => k_is); (case l => k_is); (case c => k_is); (case k => k_is)
      refine Mi.rows_cons ?_ ?_
      · refine' Mi.row_mk KX G K71.e4 rfl (by decide +kernel) ?a ?l ?c ?k; (case a => k_is); (case l => k_is); (case c => k_is); (case k => k_is)
      refine Mi.rows_cons ?_ ?_
      · refine' Mi.row_mk KX G K71.e5 rfl (by decide +kernel) ?a ?l ?c ?k; (case a => k_is); (case l => k_is); (case c => k_is); (case k => k_is)
      refine Mi.rows_cons ?_ ?_
      · refine' Mi.row_mk KX G K71.e6 rfl (by decide +kernel) ?a ?l ?c ?k; (case a => k_is); (case l => k_is); (case c => k_is); (case k => k_is)
      refine Mi.rows_cons ?_ ?_
      · refine' Mi.row_mk KX G K71.e7 rfl (by decide +kernel) ?a ?l ?c ?k; (case a => k_is); (case l => k_is); (case c => k_is); (case k => k_is)
      refine Mi.rows_cons ?_ ?_
      · refine' Mi.row_mk KX G K71.e8 rfl (by decide +kernel) ?a ?l ?c ?k; (case a => k_is); (case l => k_is); (case c => k_is); (case k => k_is)
      refine Mi.rows_cons ?_ ?_
      · refine' Mi.row_mk KX G K71.e9 rfl (by decide +kernel) ?a ?l ?c ?k; (case a => k_is); (case l => k_is); (case c => k_is); (case k => k_is)
      refine Mi.rows_cons ?_ ?_
      · refine' Mi.row_mk KX G K71.e10 rfl (by decide +kernel) ?a ?l ?c ?k; (case a => k_is); (case l => k_is); (case c => k_is); (case k => k_is)
      refine Mi.rows_cons ?_ ?_
      · refine' Mi.row_mk KX G K71.e11 rfl (by decide +kernel) ?a ?l ?c ?k; (case a => k_is); (case l => k_is); (case c => k_is); (case k => k_is)
      refine Mi.rows_cons ?_ ?_
      · refine' Mi.row_mk KX G K71.e12 rfl (by decide +kernel) ?a ?l ?c ?k; (case a => k_is); (case l => k_is); (case c => k_is); (case k => k_is)
      refine Mi.rows_cons ?_ ?_
      · refine' Mi.row_mk KX G K71.e13 rfl (by decide +kernel) ?a ?l ?c ?k; (case a => k_is); (case l => k_is); (case c => k_is); (case k => k_is)
      refine Mi.rows_cons ?_ ?_
      · refine' Mi.row_mk KX G K71.e14 rfl (by decide +kernel) ?a ?l ?c ?k; (case a => k_is); (case l => k_is); (case c => k_is); (case k => k_is)
      refine Mi.rows_cons ?_ ?_
      · refine' Mi.row_mk KX G K71.e15 rfl (by decide +kernel) ?a ?l ?c ?k; (case a => k_is); (case l => k_is); (case c => k_is); (case k => k_is)
      refine Mi.rows_cons ?_ ?_
      · refine' Mi.row_mk KX G K71.e16 rfl (by decide +kernel) ?a ?l ?c ?k; (case a => k_is); (case l => k_is); (case c => k_is); (case k => k_is)
      refine Mi.rows_cons ?_ ?_
      · refine' Mi.row_mk KX G K71.e17 rfl (by decide +kernel) ?a ?l ?c ?k; (case a => k_is); (case l => k_is); (case c => k_is); (case k => k_is)
      refine Mi.rows_cons ?_ ?_
      · refine' Mi.row_mk KX G K71.e18 rfl (by decide +kernel) ?a ?l ?c ?k; (case a => k_is); (case l => k_is); (case c => k_is); (case k => k_is)
      refine Mi.rows_cons ?_ ?_
      · refine' Mi.row_mk KX G K71.e19 rfl (by decide +kernel) ?a ?l ?c ?k; (case a => k_is); (case l => k_is); (case c => k_is); (case k => k_is)
      refine Mi.rows_cons ?_ ?_
      · refine' Mi.row_mk KX G K71.e20 rfl (by decide +kernel) ?a ?l ?c ?k; (case a => k_is); (case l => k_is); (case c => k_is); (case k => k_is)
      refine Mi.rows_cons ?_ ?_
      · refine' Mi.row_mk KX G K71.e21 rfl (by decide +kernel) ?a ?l ?c ?k; (case a => k_is); (case l => k_is); (case c => k_is); (case k => k_is)
      refine Mi.rows_cons ?_ ?_
      · refine' Mi.row_mk KX G K71.e22 rfl (by decide +kernel) ?a ?l ?c ?k; (case a => k_is); (case l => k_is); (case c => k_is); (case k => k_is)
      refine Mi.rows_cons ?_ ?_
      · refine' Mi.row_mk KX G K71.e23 rfl (by decide +kernel) ?a ?l ?c ?k; (case a => k_is); (case l => k_is); (case c => k_is); (case k => k_is)
      refine Mi.rows_cons ?_ ?_
      · refine' Mi.row_mk KX G K71.e24 rfl (by decide +kernel) ?a ?l ?c ?k; (case a => k_is); (case l => k_is); (case c => k_is); (case k => k_is)
      refine Mi.rows_cons ?_ ?_
      · refine' Mi.row_mk KX G K71.e25 rfl (by decide +kernel) ?a ?l ?c ?k; (case a => k_is); (case l => k_is); (case c => k_is); (case k => k_is)
      refine Mi.rows_cons ?_ ?_
      · refine' Mi.row_mk KX G K71.e26 rfl (by decide +kernel) ?a ?l ?c ?k; (case a => k_is); (case l => k_is); (case c => k_is); (case k => k_is)
      refine Mi.rows_cons ?_ ?_
      · refine' Mi.row_mk KX G K71.e27 rfl (by decide +kernel) ?a ?l ?c ?k; (case a => k_is); (case l => k_is); (case c => k_is); (case k => k_is)
      refine Mi.rows_cons ?_ ?_
      · refine' Mi.row_mk KX G K71.e28 rfl (by decide +kernel) ?a ?l ?c ?k; (case a => k_is); (case l => k_is); (case c => k_is); (case k => k_is)
      refine Mi.rows_cons ?_ ?_
      · refine' Mi.row_mk KX G K71.e29 rfl (by decide +kernel) ?a ?l ?c ?k; (case a => k_is); (case l => k_is); (case c => k_is); (case k => k_is)
      refine Mi.rows_cons ?_ ?_
      · refine' Mi.row_mk KX G K71.e30 rfl (by decide +kernel) ?a ?l ?c ?k; (case a => k_is); (case l => k_is); (case c => k_is); (case k => k_is)
      exact Mi.rows_nil
    case Q =>
      refine Mi.cts_cons ?_ ?_
      · refine' Mi.ct_str KX G (i := 0) rfl (by decide +kernel) ?a; (case a => k_is)
      refine Mi.cts_cons ?_ ?_
      · refine' Mi.ct_int KX G (i := 1) rfl (by decide +kernel) ?a; (case a => k_is)
      refine Mi.cts_cons ?_ ?_
      · refine' Mi.ct_int KX G (i := 2) rfl (by decide +kernel) ?a; (case a => k_is)
      refine Mi.cts_cons ?_ ?_
      · refine' Mi.ct_tup KX G (i := 3) rfl (by decide +kernel) rfl ?a ?l ?r ?z; (case a => k_is); (case l => k_is); (case r => decide +kernel); (case z => decide +kernel)
      refine Mi.cts_cons ?_ ?_
      · refine' Mi.ct_str KX G (i := 4) rfl (by decide +kernel) ?a; (case a => k_is)
      refine Mi.cts_cons ?_ ?_
      · refine' Mi.ct_int KX G (i := 5) rfl (by decide +kernel) ?a; (case a => k_is)
      refine Mi.cts_cons ?_ ?_
      · refine' Mi.ct_int KX G (i := 6) rfl (by decide +kernel) ?a; (case a => k_is)
      refine Mi.cts_cons ?_ ?_
      · refine' Mi.ct_int KX G (i := 7) rfl (by decide +kernel) ?a; (case a => k_is)
      refine Mi.cts_cons ?_ ?_
      · refine' Mi.ct_str KX G (i := 8) rfl (by decide +kernel) ?a; (case a => k_is)
      exact Mi.cts_nil
    case B =>
      refine Mi.bls_cons ?_ ?_
      · refine' Mi.bl_mk KX G ?a; (case a => k_is)
      refine Mi.bls_cons ?_ ?_
      · refine' Mi.bl_mk KX G ?a; (case a => k_is)
      refine Mi.bls_cons ?_ ?_
      · refine' Mi.bl_mk KX G ?a; (case a => k_is)
      refine Mi.bls_cons ?_ ?_
      · refine' Mi.bl_mk KX G ?a; (case a => k_is)
      refine Mi.bls_cons ?_ ?_
      · refine' Mi.bl_mk KX G ?a; (case a => k_is)
      refine Mi.bls_cons ?_ ?_
      · refine' Mi.bl_mk KX G ?a; (case a => k_is)
      refine Mi.bls_cons ?_ ?_
      · refine' Mi.bl_mk KX G ?a; (case a => k_is)
      refine Mi.bls_cons ?_ ?_
      · refine' Mi.bl_mk KX G ?a; (case a => k_is)
      refine Mi.bls_cons ?_ ?_
      · refine' Mi.bl_mk KX G ?a; (case a => k_is)
      refine Mi.bls_cons ?_ ?_
      · refine' Mi.bl_mk KX G ?a; (case a => k_is)
      refine Mi.bls_cons ?_ ?_
      · refine' Mi.bl_mk KX G ?a; (case a => k_is)
      refine Mi.bls_cons ?_ ?_
      · refine' Mi.bl_mk KX G ?a; (case a => k_is)
      exact Mi.bls_nil
    case X =>
      refine Mi.xs_cons ?_ ?_
      · refine' Mi.xc_mk2 KX G PySem.F.excBase_ValueError (by decide +kernel) ?mi_a ?mi_k ?mi_q ?mi_s ?mi_t ?mi_f1 ?mi_f2 ?mi_f3 ?mi_f4 ?mi_f5 ?mi_f6 ?mi_f7; (case mi_a => k_is); (case mi_k => k_is); (case mi_q => k_exc); (case mi_s => k_is); (case mi_t => k_is); (case mi_f1 => k_is); (case mi_f2 => k_is); (case mi_f3 => k_is); (case mi_f4 => k_is); (case mi_f5 => k_is); (case mi_f6 => k_is); (case mi_f7 => k_is)
      exact Mi.xs_nil
    case DT =>
      refine Mi.all_cons ?_ ?_
      · refine' Mi.dt_mk KX G (by decide +kernel) ?mi_a ?mi_l ?mi_lo ?mi_kl ?mi_pr ?mi_nd; (case mi_a => k_is); (case mi_l => k_is); (case mi_lo => decide +kernel); (case mi_kl => exact ⟨⟨_, _, rfl, rfl⟩, ⟨⟨_, _, rfl, rfl⟩, True.intro⟩⟩); (case mi_pr => exact .cons ⟨⟨_, rfl⟩, _, rfl⟩ (.cons ⟨⟨_, rfl⟩, _, rfl⟩ (.nil))); (case mi_nd => decide +kernel)
      exact Mi.all_nil
    case FX =>
      refine Mi.all_cons ?_ ?_
      · refine' Mi.fx_mk (st := (Mi.clsBody (K71.top 3)).getD 0 (.Pass ⟨0, 0, 0, 0⟩)) KX G (by decide +kernel) ?mi_a ?mi_k ?mi_lc ?mi_r ?mi_sa ?mi_s ?mi_t ?mi_no ?mi_f1 ?mi_f2 ?mi_f3 ?mi_f4 ?mi_f5 ?mi_f6 ?mi_f7 ?mi_i ?mi_ti ?mi_se ?mi_hb ?mi_ha ?mi_har ?mi_hs ?mi_hl ?mi_hn ?mi_l ?mi_c ?mi_d ?mi_d1 ?mi_d2 ?mi_d3; (case mi_a => k_is); (case mi_k => k_is); (case mi_lc => k_is); (case mi_r => first | rfl | decide +kernel); (case mi_sa => k_is); (case mi_s => k_is); (case mi_t => k_is); (case mi_no => k_is); (case mi_f1 => k_is); (case mi_f2 => k_is); (case mi_f3 => k_is); (case mi_f4 => k_is); (case mi_f5 => k_is); (case mi_f6 => k_is); (case mi_f7 => k_is); (case mi_i => k_is); (case mi_ti => k_is); (case mi_se => k_is); (case mi_hb => rfl); (case mi_ha => rfl); (case mi_har => rfl); (case mi_hs => decide +kernel); (case mi_hl => decide +kernel); (case mi_hn => decide +kernel); (case mi_l => k_is); (case mi_c => k_is); (case mi_d => k_is); (case mi_d1 => k_is); (case mi_d2 => k_is); (case mi_d3 => k_is)
      exact Mi.all_nil
    case HD =>
      refine Mi.all_cons ?_ ?_
      · refine' Mi.hd_mk (Mi.own_mk KX G (by decide +kernel) ?mi_a) ?mi_k; (case mi_a => k_is); (case mi_k => kernel_rfl)
      refine Mi.all_cons ?_ ?_
      · refine' Mi.hd_mk (Mi.own_mk KX G (by decide +kernel) ?mi_a) ?mi_k; (case mi_a => k_is); (case mi_k => kernel_rfl)
      refine Mi.all_cons ?_ ?_
      · refine' Mi.hd_mk (Mi.own_mk KX G (by decide +kernel) ?mi_a) ?mi_k; (case mi_a => k_is); (case mi_k => kernel_rfl)
      exact Mi.all_nil
    case MK =>
      exact Mi.all_nil
    case ME =>
      exact Mi.all_nil
    case FL =>
      exact Mi.all_nil
    case I =>
      exact Mi.all_nil
    case C =>
      exact Mi.xs_nil
