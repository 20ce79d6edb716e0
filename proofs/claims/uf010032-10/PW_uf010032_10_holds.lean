import PyProof.Rows.All
import Wide.All
import OpenK.AllK
import Wide.FinOn
import KE.KTryMore
import PyProof.Rows.Top
import PyProof.StrBlockI
import PyProof.StrBlock2
import PyProof.P3Statements
import PySem.Challenge.RW_uf010032_10
set_option Elab.async false
set_option linter.all false

namespace Mine
/-- a goal behind a letter: the letter is what the case splits repeat -/
theorem cps {P : Prop} (h : ∀ G : Prop, (P → G) → G) : P := h P id
end Mine
local macro_rules
  | `(tactic| obtain $pat:rcasesPatMed := $e:term) => `(tactic| (refine Mine.cps fun G k => ?_; (rcases $e:term with $pat) <;> (refine k ?_; clear k G)))
local macro_rules
  | `(tactic| omega) => `(tactic| first | lia | omega +splitDisjunctions)


/- MP -/
set_option tactic.hygienic false
/-! Mine: a mini-interpreter over the model's AST (plain definitions). -/
namespace Mine
open PySem

inductive AV where
  | none
  | bool (b : Bool)
  | int (i : Int)
  | str (s : Str)
  | tup (xs : List AV)
  | ref (n : Nat)
  | frozen (xs : List AV)
  | exc (c : Str)
  | typ (t : Str)
  | sl (a b : Option Int)
  deriving Inhabited

inductive AO where
  | list (xs : List AV)
  | dict (es : List (Int × AV))
  deriving Inhabited

abbrev Sto := List AO
abbrev Loc := List (Str × AV)

inductive Out (α : Type) where
  | ok (a : α) (σ : Sto)
  | exc (c : Str) (σ : Sto)
  | bad

noncomputable def Out.bind {α β : Type} (m : Out α) (f : α → Sto → Out β) : Out β := match m with
  | .ok a σ => f a σ
  | .exc c σ => .exc c σ
  | .bad => .bad

inductive Fl where
  | next
  | ret (v : AV)

inductive OutS where
  | ok (f : Fl) (l : Loc) (σ : Sto)
  | exc (c : Str) (l : Loc) (σ : Sto)
  | bad

/-- the value of an expression, for a statement -/
noncomputable def Out.inS {α : Type} (m : Out α) (l : Loc) (f : α → Sto → OutS) : OutS := match m with
  | .ok a σ => f a σ
  | .exc c σ => .exc c l σ
  | .bad => .bad

noncomputable def OutS.andThen (m : OutS) (f : Loc → Sto → OutS) : OutS := match m with
  | .ok .next l σ => f l σ
  | .ok (.ret v) l σ => .ok (.ret v) l σ
  | .exc c l σ => .exc c l σ
  | .bad => .bad

noncomputable def setL (x : Str) (v : AV) : Loc → Loc
  | [] => [(x, v)]
  | (y, w) :: r => bif y == x then (y, v) :: r else (y, w) :: setL x v r
noncomputable def delL (x : Str) : Loc → Loc
  | [] => []
  | (y, w) :: r => bif y == x then delL x r else (y, w) :: delL x r
noncomputable def getL (x : Str) : Loc → Option AV
  | [] => none
  | (y, w) :: r => bif y == x then some w else getL x r

noncomputable def isLoc (sc : Scope) (x : Str) : Bool := !(x == ".0") && match sc.names.lookup x with
  | some .local => true
  | some .cell => true
  | some .free => true
  | _ => false
noncomputable def isCell (sc : Scope) (x : Str) : Bool := match sc.names.lookup x with
  | some .cell => true
  | some .free => true
  | _ => false
noncomputable def isGlob (sc : Scope) (x : Str) : Bool := match sc.names.lookup x with
  | some .globalImplicit => true
  | _ => false

/-- the length that no list or text here passes -/
noncomputable def bigN : Nat := 2 ^ 20

noncomputable def listOf? (σ : Sto) : AV → Option (List AV)
  | .ref n => match σ[n]? with
    | some (.list xs) => some xs
    | _ => Option.none
  | .frozen xs => some xs
  | _ => Option.none

noncomputable def truth (σ : Sto) : AV → Option Bool
  | .none => some false
  | .bool b => some b
  | v => (listOf? σ v).map fun xs => !xs.isEmpty

noncomputable def newL (xs : List AV) (σ : Sto) : Out AV := bif Nat.ble xs.length bigN then .ok (.ref σ.length) (σ ++ [.list xs]) else .bad

noncomputable def small (x : Int) : Bool := decide (x.natAbs < 2 ^ 1000)

noncomputable def intR (b : AV) (f : Int → Out AV) : Out AV := match b with
  | .int y => f y
  | _ => .bad
noncomputable def strR (b : AV) (f : Str → Out AV) : Out AV := match b with
  | .str y => f y
  | _ => .bad
noncomputable def lstR (σ : Sto) (b : AV) (f : List AV → Out AV) : Out AV := match listOf? σ b with
  | some ys => f ys
  | Option.none => .bad
noncomputable def addA (a b : AV) (σ : Sto) : Out AV := match a with
  | .int x => intR b fun y => .ok (.int (x + y)) σ
  | .str x => strR b fun y => bif Nat.ble (x.length + y.length) bigN then .ok (.str (x ++ y)) σ else .bad
  | .ref m => lstR σ (.ref m) fun xs => lstR σ b fun ys => newL (xs ++ ys) σ
  | _ => .bad
noncomputable def mulA (a b : AV) (σ : Sto) : Out AV := match a with
  | .int x => intR b fun y => bif small x && small y then .ok (.int (x * y)) σ else .bad
  | .str x => intR b fun y => bif decide (y = 3) && Nat.ble x.length bigN then .ok (.str (Txt.mul x y)) σ else .bad
  | _ => .bad
noncomputable def binop (op : Operator) (a b : AV) (σ : Sto) : Out AV := match op with
  | .Add => addA a b σ
  | .Sub => intR a fun x => intR b fun y => .ok (.int (x - y)) σ
  | .Mult => mulA a b σ
  | .Mod => intR a fun x => intR b fun y => bif decide (0 < y) then .ok (.int (x.fmod y)) σ else .bad
  | .FloorDiv => intR a fun x => intR b fun y => bif decide (0 < y) && small y then .ok (.int (x.fdiv y)) σ else .bad
  | .Pow => intR a fun x => intR b fun y => bif decide (0 < y) && decide ((Builtin.Int.intBits x : Int) * y ≤ 2 ^ 27) then .ok (.int (x ^ y.toNat)) σ else .bad
  | _ => .bad

/-- AV as plain data, where it may be compared by == : scalars, tuples and lists of such -/
noncomputable def allP (f : AV → Option PyData) : List AV → Option (List PyData)
  | [] => some []
  | x :: r => match f x, allP f r with
    | some p, some ps => some (p :: ps)
    | _, _ => Option.none
noncomputable def plainD (σ : Sto) : Nat → AV → Option PyData
  | 0 => fun _ => Option.none
  | d + 1 => fun v => match v with
    | .none => some .none
    | .bool b => some (.bool b)
    | .int i => some (.int i)
    | .str s => bif PyData.strOk s then some (.str s) else Option.none
    | .tup xs => (allP (plainD σ d) xs).map .tuple
    | .ref n => match σ[n]? with
      | some (.list xs) => (allP (plainD σ d) xs).map .list
      | _ => Option.none
    | _ => Option.none

noncomputable def isRef : AV → Bool
  | .ref _ => true
  | _ => false

noncomputable def eqv (σ : Sto) (a b : AV) : Option Bool :=
  match plainD σ 16 a, plainD σ 16 b with
  | some x, some y => some (PyData.eqv x y)
  | _, _ => Option.none

noncomputable def isNone : AV → Bool
  | .none => true
  | _ => false

noncomputable def okB (r : Option Bool) (σ : Sto) : Out AV := match r with
  | some b => .ok (.bool b) σ
  | Option.none => .bad

noncomputable def dictHas (k : Int) : List (Int × AV) → Bool
  | [] => false
  | (j, _) :: r => j == k || dictHas k r
noncomputable def dictGet (k : Int) : List (Int × AV) → Option AV
  | [] => Option.none
  | (j, v) :: r => bif j == k then some v else dictGet k r
noncomputable def dictPutL (k : Int) (v : AV) : List (Int × AV) → List (Int × AV)
  | [] => [(k, v)]
  | (j, w) :: r => bif j == k then (j, v) :: r else (j, w) :: dictPutL k v r
noncomputable def dictOf? (σ : Sto) : AV → Option (List (Int × AV))
  | .ref n => match σ[n]? with
    | some (.dict es) => some es
    | _ => Option.none
  | _ => Option.none

noncomputable def cmpop (op : CmpOp) (a b : AV) (σ : Sto) : Out AV :=
  match op with
  | .Is => bif isNone b then .ok (.bool (isNone a)) σ else .bad
  | .IsNot => bif isNone b then .ok (.bool (!isNone a)) σ else .bad
  | .Eq => okB (eqv σ a b) σ
  | .NotEq => okB ((eqv σ a b).map (!·)) σ
  | .Lt => match a, b with
    | .int x, .int y => .ok (.bool (decide (x < y))) σ
    | _, _ => .bad
  | .LtE => match a, b with
    | .int x, .int y => .ok (.bool (decide (x ≤ y))) σ
    | _, _ => .bad
  | .Gt => match a, b with
    | .int x, .int y => .ok (.bool (decide (x > y))) σ
    | _, _ => .bad
  | .GtE => match a, b with
    | .int x, .int y => .ok (.bool (decide (x ≥ y))) σ
    | _, _ => .bad
  | .In => match a, dictOf? σ b with
    | .int x, some es => .ok (.bool (dictHas x es)) σ
    | _, _ => .bad
  | .NotIn => match a, dictOf? σ b with
    | .int x, some es => .ok (.bool (!dictHas x es)) σ
    | _, _ => .bad

noncomputable def unop (op : UnaryOp) (a : AV) (σ : Sto) : Out AV :=
  match op, a with
  | .USub, .int x => .ok (.int (-x)) σ
  | .Not, v => match truth σ v with
    | some b => .ok (.bool (!b)) σ
    | Option.none => .bad
  | _, _ => .bad

noncomputable def optA (r : Option AV) (σ : Sto) : Out AV := match r with
  | some v => .ok v σ
  | Option.none => .bad

noncomputable def at? (xs : List AV) (i : Int) : Option AV := bif decide (0 ≤ i) then xs[i.toNat]? else bif decide (0 ≤ i + xs.length) then xs[(i + xs.length).toNat]? else Option.none

noncomputable def part? : AV → Option (Option Int)
  | .none => some Option.none
  | .int i => some (some i)
  | _ => Option.none

/-- o[lo:hi] -/
noncomputable def slice (o : AV) (lo hi : Option Int) (σ : Sto) : Out AV :=
  match o with
  | .str x => bif Nat.ble x.length bigN then .ok (.str (Txt.slice x lo hi)) σ else .bad
  | .ref n => match σ[n]? with
    | some (.list xs) => match lo, hi with
      | some a, Option.none => bif decide (0 ≤ a) then newL (xs.drop a.toNat) σ else .bad
      | Option.none, some b => bif decide (0 ≤ b) then newL (xs.take b.toNat) σ else .bad
      | _, _ => .bad
    | _ => .bad
  | _ => .bad

/-- o[i] -/
noncomputable def item (o i : AV) (σ : Sto) : Out AV :=
  match i with
  | .int k => match o with
    | .tup xs => bif decide (0 ≤ k) then optA (xs[k.toNat]?) σ else .bad
    | .ref n => match σ[n]? with
      | some (.list xs) => optA (at? xs k) σ
      | some (.dict es) => optA (dictGet k es) σ
      | Option.none => .bad
    | .frozen xs => bif decide (0 ≤ k) then optA (xs[k.toNat]?) σ else .bad
    | _ => .bad
  | .sl a b => slice o a b σ
  | _ => .bad

/-- o[i] = v -/
noncomputable def setItem (o i v : AV) (σ : Sto) : Option Sto :=
  match o, i with
  | .ref n, .int k => match σ[n]? with
    | some (.list xs) => bif decide (0 ≤ k) && decide (k < xs.length) then some (σ.set n (.list (xs.set k.toNat v))) else Option.none
    | some (.dict es) => bif Nat.ble es.length bigN then some (σ.set n (.dict (dictPutL k v es))) else Option.none
    | Option.none => Option.none
  | _, _ => Option.none

noncomputable def append (o v : AV) (σ : Sto) : Out AV :=
  match o with
  | .ref n => match σ[n]? with
    | some (.list xs) => bif Nat.ble xs.length bigN then .ok .none (σ.set n (.list (xs ++ [v]))) else .bad
    | _ => .bad
  | _ => .bad

noncomputable def intOf? : AV → Option Int
  | .int i => some i
  | _ => Option.none
noncomputable def pairOf? : AV → Option (Int × AV)
  | .tup [.int k, v] => some (k, v)
  | _ => Option.none

noncomputable def insI (x : Int) : List Int → List Int
  | [] => [x]
  | y :: r => bif decide (x ≤ y) then x :: y :: r else y :: insI x r
noncomputable def sortI : List Int → List Int
  | [] => []
  | x :: r => insI x (sortI r)

/-- what a program is to the interpreter -/
structure Prog where
  /-- whether it makes dicts -/
  dicts : Bool
  /-- parameters, body, table of names -/
  fn : Str → Option (List Str × List Stmt × Scope)
  /-- c is the class t or below it (own exception classes; ValueError) -/
  sub : Str → Str → Bool
  /-- an exception class that the text may raise -/
  cls : Str → Bool
  /-- a type or class that stands at this name -/
  typ : Str → Bool
  /-- a function, its own or built in, stands at this name -/
  known : Str → Bool

noncomputable def isInst (P : Prog) (t : Str) (v : AV) : Option Bool :=
  bif t == "int" then (match v with | .int _ => some true | .bool _ => some true | .none => some false | .str _ => some false | .tup _ => some false | _ => Option.none)
  else bif t == "bool" then (match v with | .int _ => some false | .bool _ => some true | .none => some false | .str _ => some false | .tup _ => some false | _ => Option.none)
  else bif t == "tuple" then (match v with | .int _ => some false | .bool _ => some false | .none => some false | .str _ => some false | .tup _ => some true | _ => Option.none)
  else match v with
    | .exc c => some (P.sub c t)
    | _ => Option.none

/-- a call of a built-in by its name -/
noncomputable def builtin (P : Prog) (lv : Nat) (f : Str) (vs : List AV) (σ : Sto) : Option (Out AV) :=
  bif f == "len" then some (match vs with
    | [.tup xs] => .ok (.int xs.length) σ
    | [v] => match listOf? σ v with
      | some xs => .ok (.int xs.length) σ
      | Option.none => .bad
    | _ => .bad)
  else bif f == "isinstance" then some (match vs with
    | [v, .typ t] => okB (isInst P t v) σ
    | _ => .bad)
  else bif f == "int" then some (match vs with
    | [.bool b] => .ok (.int (bif b then 1 else 0)) σ
    | _ => .bad)
  else bif f == "tuple" then some (match vs with
    | [.ref n] => match listOf? σ (.ref n) with
      | some xs => bif Nat.ble xs.length bigN then .ok (.tup xs) σ else .bad
      | Option.none => .bad
    | _ => .bad)
  else bif f == "list" then some (match vs with
    | [.ref n] => match listOf? σ (.ref n) with
      | some xs => newL xs σ
      | Option.none => .bad
    | _ => .bad)
  else bif f == "max" then some (match vs with
    | [.int a, .int b] => bif lv == 0 then .ok (.int (bif decide (b > a) then b else a)) σ else .bad
    | _ => .bad)
  else bif f == "sorted" then some (match vs with
    | [.ref n] => match (listOf? σ (.ref n)).bind (·.mapM intOf?) with
      | some xs => bif P.dicts then newL ((sortI xs).map .int) σ else .bad
      | Option.none => .bad
    | _ => .bad)
  else bif f == "dict" then some (match vs with
    | [.ref n] => match (listOf? σ (.ref n)).bind (·.mapM pairOf?) with
      | some ps => bif P.dicts && Nat.ble ps.length bigN then .ok (.ref σ.length) (σ ++ [.dict (ps.foldl (fun d p => dictPutL p.1 p.2 d) [])]) else .bad
      | Option.none => .bad
    | _ => .bad)
  else Option.none

abbrev Calls := Nat → Str → List AV → Sto → Out AV

inductive Src where
  | items (xs : List AV)
  | lst (n : Nat)

noncomputable def rangeL (a b : Int) : List AV := (List.range (b - a).toNat).map fun (i : Nat) => .int (a + (i : Int))

noncomputable def srcOf (v : AV) (σ : Sto) : Out Src := match v with
  | .ref n => match σ[n]? with
    | some (.list _) => .ok (.lst n) σ
    | _ => .bad
  | .frozen xs => .ok (.items xs) σ
  | _ => .bad

noncomputable def rangeOf (vs : List AV) (σ : Sto) : Out Src := match vs with
  | [.int b] => bif decide (-(2 ^ 40) ≤ b) && decide (b ≤ 2 ^ 40) then .ok (.items (rangeL 0 b)) σ else .bad
  | [.int a, .int b] => bif decide (0 ≤ a) && decide (a ≤ 2 ^ 40) && decide (-(2 ^ 40) ≤ b) && decide (b ≤ 2 ^ 40) then .ok (.items (rangeL a b)) σ else .bad
  | _ => .bad

/-- turns of a for -/
noncomputable def forItems (body : AV → Loc → Sto → OutS) : List AV → Loc → Sto → OutS
  | [], l, σ => .ok .next l σ
  | v :: r, l, σ => (body v l σ).andThen (forItems body r)
noncomputable def forLst (body : AV → Loc → Sto → OutS) (n : Nat) : Nat → Nat → Loc → Sto → OutS
  | 0, _, _, _ => .bad
  | f + 1, i, l, σ => match σ[n]? with
    | some (.list xs) => match xs[i]? with
      | Option.none => .ok .next l σ
      | some v => (body v l σ).andThen (forLst body n f (i + 1))
    | _ => .bad
noncomputable def forSrc (lv : Nat) (body : AV → Loc → Sto → OutS) (s : Src) (l : Loc) (σ : Sto) : OutS := bif Nat.ble lv 1 then (match s with
  | .items xs => forItems body xs l σ
  | .lst n => match listOf? σ (.ref n) with
    | some xs => forLst body n (xs.length + 1) 0 l σ
    | Option.none => .bad) else .bad

/-- turns of a comprehension: the element, or none where the test fails; what is gathered stands reversed -/
noncomputable def cpItems (elt : AV → Sto → Out (Option AV)) : List AV → List AV → Sto → Out (List AV)
  | [], acc, σ => .ok acc σ
  | v :: r, acc, σ => match elt v σ with
    | .ok x σ => (match x with
      | some y => bif Nat.ble acc.length bigN then cpItems elt r (acc ++ [y]) σ else .bad
      | Option.none => cpItems elt r acc σ)
    | _ => .bad
noncomputable def cpLst (elt : AV → Sto → Out (Option AV)) (n : Nat) : Nat → Nat → List AV → Sto → Out (List AV)
  | 0, _, _, _ => .bad
  | f + 1, i, acc, σ => match σ[n]? with
    | some (.list xs) => match xs[i]? with
      | Option.none => .ok acc σ
      | some v => (match elt v σ with
        | .ok x σ => (match x with
          | some y => bif Nat.ble acc.length bigN then cpLst elt n f (i + 1) (acc ++ [y]) σ else .bad
          | Option.none => cpLst elt n f (i + 1) acc σ)
        | _ => .bad)
    | _ => .bad
noncomputable def cpSrc (lv : Nat) (elt : AV → Sto → Out (Option AV)) (s : Src) (σ : Sto) : Out (List AV) := bif Nat.ble lv 1 then (match s with
  | .items xs => cpItems elt xs [] σ
  | .lst n => match listOf? σ (.ref n) with
    | some xs => cpLst elt n (xs.length + 1) 0 [] σ
    | Option.none => .bad) else .bad

noncomputable def whileG (test : Loc → Sto → Out Bool) (body : Loc → Sto → OutS) : Nat → Loc → Sto → OutS
  | 0, _, _ => .bad
  | f + 1, l, σ => match test l σ with
    | .ok b σ => bif b then (match body l σ with
      | .ok .next l σ => whileG test body f l σ
      | _ => .bad) else .ok .next l σ
    | _ => .bad

noncomputable def truthO (v : AV) (σ : Sto) : Out Bool := match truth σ v with
  | some b => .ok b σ
  | Option.none => .bad

/-- a table of names that may be a function's -/
noncomputable def tableFine (sc : Scope) : Bool := sc.kind == .function && !sc.isGenerator && !sc.isCoroutine && sc.names.all fun p => !(p.1 == "__debug__" || p.1 == "__classdict__" || p.2 == .globalExplicit)
/-- a table of names that may be a comprehension's over k, in a block with the table sc -/
noncomputable def scopeFine (sc csc : Scope) (k : Str) : Bool := tableFine csc && !(k == ".0") && (match csc.names.lookup k with | some .local => true | _ => false) && csc.names.all fun p => match p.2 with
  | .local => (p.1 == k || p.1 == ".0") && (match csc.names.lookup p.1 with | some .local => true | _ => false)
  | .free => isCell sc p.1 && (match csc.names.lookup p.1 with | some .free => true | _ => false)
  | .globalImplicit => true
  | _ => false
noncomputable def distinct : List Str → Bool
  | [] => true
  | x :: r => !r.contains x && distinct r
/-- a function's table, with its parameters -/
noncomputable def fnFine (ps : List Str) (sc : Scope) : Bool := tableFine sc && distinct (sc.names.map (·.1)) && distinct ps && (ps.all fun x => isLoc sc x) && sc.names.all fun p => match p.2 with
  | .free => false
  | _ => true

noncomputable def evName (P : Prog) (sc : Scope) (x : Str) (l : Loc) (σ : Sto) : Out AV :=
  bif isLoc sc x then optA (getL x l) σ else bif isGlob sc x && P.typ x then .ok (.typ x) σ else .bad

noncomputable def constA (c : Const) (σ : Sto) : Out AV := match c with
  | .none => .ok .none σ
  | .bool b => .ok (.bool b) σ
  | .int i => .ok (.int i) σ
  | .str s => bif PyData.strOk s then .ok (.str s) σ else .bad
  | _ => .bad

noncomputable def slA (a b : AV) (σ : Sto) : Out AV := match part? a, part? b with
  | some x, some y => .ok (.sl x y) σ
  | _, _ => .bad

noncomputable def callA (P : Prog) (cf : Calls) (lv : Nat) (f : Str) (vs : List AV) (σ : Sto) : Out AV := match builtin P lv f vs σ with
  | some r => r
  | Option.none => cf lv f vs σ

noncomputable def tupA (vs : List AV) (σ : Sto) : Out AV := bif Nat.ble vs.length bigN then .ok (.tup vs) σ else .bad

noncomputable def noStar : List Expr → Bool
  | [] => true
  | .Starred _ _ :: _ => false
  | _ :: r => noStar r
noncomputable def notSet : Expr → Bool
  | .Set _ _ _ => false
  | _ => true
noncomputable def notComp : Expr → Bool
  | .ListComp _ _ _ _ => false
  | .SetComp _ _ _ _ => false
  | .DictComp _ _ _ _ _ => false
  | _ => true
noncomputable def listB (σ : Sto) (v : AV) : Bool := match v with
  | .ref n => match σ[n]? with
    | some (.list _) => true
    | _ => false
  | _ => false

noncomputable def methA (m : Str) (x : AV) (vs : List AV) (σ : Sto) : Out AV := match vs with
  | [v] => bif m == "append" then append x v σ else .bad
  | _ => .bad

mutual
noncomputable def ev (P : Prog) (cf : Calls) (lv : Nat) (sc : Scope) : Expr → Loc → Sto → Out AV
  | .Constant c _ _ => fun _ σ => constA c σ
  | .Name x _ => fun l σ => evName P sc x l σ
  | .BoolOp op vs _ => fun l σ => evBool P cf lv sc op vs l σ
  | .UnaryOp op x _ => fun l σ => (ev P cf lv sc x l σ).bind fun v σ => unop op v σ
  | .BinOp a op b _ => fun l σ => (ev P cf lv sc a l σ).bind fun x σ => (ev P cf lv sc b l σ).bind fun y σ => binop op x y σ
  | .Compare a [op] [b] _ => fun l σ => bif notSet b then (ev P cf lv sc a l σ).bind fun x σ => (ev P cf lv sc b l σ).bind fun y σ => cmpop op x y σ else .bad
  | .Slice lo hi st _ => fun l σ => match st with
    | Option.none => (evOpt P cf lv sc lo l σ).bind fun a σ => (evOpt P cf lv sc hi l σ).bind fun b σ => slA a b σ
    | some _ => .bad
  | .Subscript o i _ => fun l σ => (ev P cf lv sc o l σ).bind fun x σ => (ev P cf lv sc i l σ).bind fun k σ => item x k σ
  | .Tuple es _ _ => fun l σ => (evs P cf lv sc es l σ).bind fun vs σ => tupA vs σ
  | .List es _ => fun l σ => (evs P cf lv sc es l σ).bind fun vs σ => newL vs σ
  | .Dict ks vs _ => fun _ σ => match ks, vs with
    | [], [] => bif P.dicts then .ok (.ref σ.length) (σ ++ [.dict []]) else .bad
    | _, _ => .bad
  | .ListComp elt [⟨tg, it, ifs, a⟩] csc _ => fun l σ => match tg, a with
    | .Name k _, 0 => bif !scopeFine sc csc k then .bad else (evSrc P cf lv sc it (fun l σ => ev P cf lv sc it l σ) l σ).bind fun s σ =>
      (cpSrc lv (fun v σ => (evIfs P cf lv csc ifs ((k, v) :: l) σ).bind fun b σ =>
        bif b then (ev P cf lv csc elt ((k, v) :: l) σ).bind fun y σ => .ok (some y) σ else .ok Option.none σ) s σ).bind fun xs σ => newL xs σ
    | _, _ => .bad
  | .Call f es ks pos => fun l σ => match f, ks with
    | .Name g _, [] => bif isGlob sc g && P.known g then (evs P cf lv sc es l σ).bind fun vs σ => callA P cf lv g vs σ else .bad
    | .Attribute (.Name o _) m apos, [] => bif m == "append" && (apos.endLine == pos.line) && Nat.blt es.length 30 then (evName P sc o l σ).bind fun x σ => bif listB σ x then (evs P cf lv sc es l σ).bind fun vs σ => methA m x vs σ else .bad else .bad
    | _, _ => .bad
  | _ => fun _ _ => .bad
noncomputable def evs (P : Prog) (cf : Calls) (lv : Nat) (sc : Scope) : List Expr → Loc → Sto → Out (List AV)
  | [] => fun _ σ => .ok [] σ
  | e :: r => fun l σ => bif noStar (e :: r) then (ev P cf lv sc e l σ).bind fun v σ => (evs P cf lv sc r l σ).bind fun vs σ => .ok (v :: vs) σ else .bad
noncomputable def evOpt (P : Prog) (cf : Calls) (lv : Nat) (sc : Scope) : Option Expr → Loc → Sto → Out AV
  | Option.none => fun _ σ => .ok .none σ
  | some e => fun l σ => ev P cf lv sc e l σ
noncomputable def evBool (P : Prog) (cf : Calls) (lv : Nat) (sc : Scope) (op : BoolOp) : List Expr → Loc → Sto → Out AV
  | [] => fun _ _ => .bad
  | [e] => fun l σ => ev P cf lv sc e l σ
  | e :: f :: r => fun l σ => (ev P cf lv sc e l σ).bind fun v σ => (truthO v σ).bind fun b σ => match op with
    | .And => bif b then evBool P cf lv sc op (f :: r) l σ else .ok v σ
    | .Or => bif b then .ok v σ else evBool P cf lv sc op (f :: r) l σ
noncomputable def evSrc (P : Prog) (cf : Calls) (lv : Nat) (sc : Scope) : Expr → (Loc → Sto → Out AV) → Loc → Sto → Out Src
  | .Call f es ks _, _ => fun l σ => match f, ks with
    | .Name g _, [] => bif isGlob sc g && g == "range" then (evs P cf lv sc es l σ).bind fun vs σ => rangeOf vs σ else .bad
    | _, _ => .bad
  | .Name _ _, w => fun l σ => (w l σ).bind fun v σ => srcOf v σ
  | .Subscript _ _ _, w => fun l σ => (w l σ).bind fun v σ => srcOf v σ
  | _, _ => fun _ _ => .bad
/-- the tests of a comprehension (none or one) -/
noncomputable def evIfs (P : Prog) (cf : Calls) (lv : Nat) (sc : Scope) : List Expr → Loc → Sto → Out Bool
  | [] => fun _ σ => .ok true σ
  | [e] => fun l σ => evT P cf lv sc e (fun l σ => ev P cf lv sc e l σ) l σ
  | _ :: _ :: _ => fun _ _ => .bad
/-- an expression as a test -/
noncomputable def evT (P : Prog) (cf : Calls) (lv : Nat) (sc : Scope) : Expr → (Loc → Sto → Out AV) → Loc → Sto → Out Bool
  | .UnaryOp op x _, _ => fun l σ => match op with
    | .Not => (evT P cf lv sc x (fun l σ => ev P cf lv sc x l σ) l σ).bind fun b σ => .ok (!b) σ
    | _ => .bad
  | .BoolOp op vs _, _ => fun l σ => evTs P cf lv sc op vs l σ
  | .Compare _ _ _ _, w => fun l σ => (w l σ).bind fun v σ => truthO v σ
  | .Name _ _, w => fun l σ => (w l σ).bind fun v σ => truthO v σ
  | .Subscript _ _ _, w => fun l σ => (w l σ).bind fun v σ => truthO v σ
  | .Call _ _ _ _, w => fun l σ => (w l σ).bind fun v σ => truthO v σ
  | _, _ => fun _ _ => .bad
noncomputable def evTs (P : Prog) (cf : Calls) (lv : Nat) (sc : Scope) (op : BoolOp) : List Expr → Loc → Sto → Out Bool
  | [] => fun _ σ => .ok (match op with | .And => true | .Or => false) σ
  | e :: r => fun l σ => (evT P cf lv sc e (fun l σ => ev P cf lv sc e l σ) l σ).bind fun b σ => match op with
    | .And => bif b then evTs P cf lv sc op r l σ else .ok false σ
    | .Or => bif b then .ok true σ else evTs P cf lv sc op r l σ
end

noncomputable def bindT (P : Prog) (cf : Calls) (lv : Nat) (sc : Scope) (tg : Expr) (v : AV) (l : Loc) (σ : Sto) : OutS := match tg with
  | .Name x _ => bif isLoc sc x then .ok .next (setL x v l) σ else .bad
  | .Subscript o i _ => (ev P cf lv sc o l σ).inS l fun ov σ => (ev P cf lv sc i l σ).inS l fun iv σ => match setItem ov iv v σ with
    | some σ' => .ok .next l σ'
    | Option.none => .bad
  | _ => .bad

/-- what may be assigned to -/
noncomputable def okT (sc : Scope) : Expr → Bool
  | .Name x _ => isLoc sc x
  | .Subscript _ _ _ => true
  | _ => false

noncomputable def nameX : Expr → Option Str
  | .Name c _ => some c
  | _ => Option.none
noncomputable def strX : Expr → Bool
  | .Constant v _ _ => match v with
    | .str _ => true
    | _ => false
  | _ => false
noncomputable def str1 : List Expr → Bool
  | [] => false
  | x :: r => strX x && r.isEmpty
/-- the class that a raise names -/
noncomputable def raiseN (P : Prog) (sc : Scope) (e : Expr) : Option Str := match e with
  | .Call f es ks _ => match nameX f with
    | some c => bif isGlob sc c && P.cls c && (str1 es && ks.isEmpty) then some c else Option.none
    | Option.none => Option.none
  | _ => Option.none
noncomputable def raiseA (P : Prog) (sc : Scope) (e : Expr) (lv : Nat) (l : Loc) (σ : Sto) : OutS := match raiseN P sc e with
  | some c => bif Nat.ble lv 1 then .exc c l σ else .bad
  | Option.none => .bad

noncomputable def isLocal (sc : Scope) (x : Str) : Bool := !(x == ".0") && match sc.names.lookup x with
  | some .local => true
  | _ => false
noncomputable def catchN (x : Option Str) (sc : Scope) (c : Str) (l : Loc) : Option Loc := match x with
  | Option.none => some l
  | some x => bif isLocal sc x then some (setL x (.exc c) l) else Option.none
noncomputable def unRet (x : Option Str) (l : Loc) : Loc := match x with
  | Option.none => l
  | some _ => []
noncomputable def unNext (x : Option Str) (l : Loc) (σ : Sto) : OutS := match x with
  | Option.none => .ok .next l σ
  | some _ => .bad

mutual
noncomputable def ex (P : Prog) (cf : Calls) (sc : Scope) : Stmt → Nat → Loc → Sto → OutS
  | .If t b o _ => fun lv l σ => (evT P cf lv sc t (fun l σ => ev P cf lv sc t l σ) l σ).inS l fun c σ => bif c then exs P cf sc b lv l σ else exs P cf sc o lv l σ
  | .Return e _ => fun lv l σ => match e with
    | some e => (ev P cf lv sc e l σ).inS l fun v σ => .ok (.ret v) l σ
    | Option.none => .bad
  | .Assign ts e _ => fun lv l σ => match ts with
    | [t] => bif okT sc t then (ev P cf lv sc e l σ).inS l fun v σ => bindT P cf lv sc t v l σ else .bad
    | _ => .bad
  | .Expr e _ => fun lv l σ => bif notComp e then (ev P cf lv sc e l σ).inS l fun _ σ => .ok .next l σ else .bad
  | .While t b o _ => fun lv l σ => match o with
    | [] => whileG (fun l σ => evT P cf lv sc t (fun l σ => ev P cf lv sc t l σ) l σ) (fun l σ => exs P cf sc b lv l σ) 1000 l σ
    | _ => .bad
  | .For tg it b o _ => fun lv l σ => match tg, o with
    | .Name x _, [] => bif isLoc sc x then (evSrc P cf lv sc it (fun l σ => ev P cf lv sc it l σ) l σ).inS l fun s σ => forSrc lv (fun v l σ => exs P cf sc b lv (setL x v l) σ) s l σ else .bad
    | _, _ => .bad
  | .Raise e c _ => fun lv l σ => match e, c with
    | some e, Option.none => raiseA P sc e lv l σ
    | _, _ => .bad
  | .Try b hs o f _ => fun lv l σ => match o, f with
    | [], [] => bif hs.isEmpty then .bad else (match exs P cf sc b lv l σ with
      | .exc c l' σ' => exH P cf sc hs lv c l' σ'
      | .ok f l' σ' => .ok f l' σ'
      | .bad => .bad)
    | _, _ => .bad
  | _ => fun _ _ _ => .bad
noncomputable def exs (P : Prog) (cf : Calls) (sc : Scope) : List Stmt → Nat → Loc → Sto → OutS
  | [] => fun _ l σ => .ok .next l σ
  | s :: r => fun lv l σ => (ex P cf sc s lv l σ).andThen (exs P cf sc r lv)
noncomputable def exH (P : Prog) (cf : Calls) (sc : Scope) : List ExceptHandler → Nat → Str → Loc → Sto → OutS
  | [] => fun _ _ _ _ => .bad
  | .ExceptHandler ty nm b _ :: r => fun lv c l σ => match ty with
    | some (.Name t _) =>
      bif !(isGlob sc t && P.cls t) then .bad
      else bif P.sub c t then (match catchN nm sc c l with
        | some l₁ => bif b.isEmpty then .bad else (match exs P cf sc b (lv + 1) l₁ σ with
          | .ok f l' σ' => (match f with
            | .next => unNext nm l' σ'
            | .ret v => .ok (.ret v) (unRet nm l') σ')
          | _ => .bad)
        | Option.none => .bad)
      else exH P cf sc r lv c l σ
    | _ => .bad
end

noncomputable def callBody (P : Prog) (cf : Calls) (lv : Nat) (f : Str) (vs : List AV) (σ : Sto) : Out AV :=
  match P.fn f with
  | some (ps, body, sc) => bif ps.length == vs.length && fnFine ps sc then (match exs P cf sc body lv (ps.zip vs) σ with
      | .ok (.ret v) _ σ' => .ok v σ'
      | .ok .next _ σ' => .ok .none σ'
      | .exc c _ σ' => .exc c σ'
      | .bad => .bad)
    else .bad
  | Option.none => .bad

noncomputable def callN (P : Prog) : Nat → Calls
  | 0 => fun _ _ _ _ => .bad
  | n + 1 => callBody P (callN P n)

theorem ev_q0 (P : Prog) (cf : Calls) (lv : Nat) (sc : Scope) (c : Const) (x1 : Nat) (x2 : Pos) (l : Loc) (σ : Sto) : ev P cf lv sc (.Constant c x1 x2) l σ =
    (constA c σ) := rfl
theorem ev_q1 (P : Prog) (cf : Calls) (lv : Nat) (sc : Scope) (x : Str) (x1 : Pos) (l : Loc) (σ : Sto) : ev P cf lv sc (.Name x x1) l σ =
    (evName P sc x l σ) := rfl
theorem ev_q2 (P : Prog) (cf : Calls) (lv : Nat) (sc : Scope) (op : BoolOp) (vs : List Expr) (x1 : Pos) (l : Loc) (σ : Sto) : ev P cf lv sc (.BoolOp op vs x1) l σ =
    (evBool P cf lv sc op vs l σ) := rfl
theorem ev_q3 (P : Prog) (cf : Calls) (lv : Nat) (sc : Scope) (op : UnaryOp) (x : Expr) (x1 : Pos) (l : Loc) (σ : Sto) : ev P cf lv sc (.UnaryOp op x x1) l σ =
    ((ev P cf lv sc x l σ).bind fun v σ => unop op v σ) := rfl
theorem ev_q4 (P : Prog) (cf : Calls) (lv : Nat) (sc : Scope) (a : Expr) (op : Operator) (b : Expr) (x1 : Pos) (l : Loc) (σ : Sto) : ev P cf lv sc (.BinOp a op b x1) l σ =
    ((ev P cf lv sc a l σ).bind fun x σ => (ev P cf lv sc b l σ).bind fun y σ => binop op x y σ) := rfl
theorem ev_q5 (P : Prog) (cf : Calls) (lv : Nat) (sc : Scope) (a : Expr) (op : CmpOp) (b : Expr) (x1 : Pos) (l : Loc) (σ : Sto) : ev P cf lv sc (.Compare a [op] [b] x1) l σ =
    (bif notSet b then (ev P cf lv sc a l σ).bind fun x σ => (ev P cf lv sc b l σ).bind fun y σ => cmpop op x y σ else .bad) := rfl
theorem ev_q6 (P : Prog) (cf : Calls) (lv : Nat) (sc : Scope) (lo hi st : Option Expr) (x1 : Pos) (l : Loc) (σ : Sto) : ev P cf lv sc (.Slice lo hi st x1) l σ =
    (match st with
    | Option.none => (evOpt P cf lv sc lo l σ).bind fun a σ => (evOpt P cf lv sc hi l σ).bind fun b σ => slA a b σ
    | some _ => .bad) := rfl
theorem ev_q7 (P : Prog) (cf : Calls) (lv : Nat) (sc : Scope) (o i : Expr) (x1 : Pos) (l : Loc) (σ : Sto) : ev P cf lv sc (.Subscript o i x1) l σ =
    ((ev P cf lv sc o l σ).bind fun x σ => (ev P cf lv sc i l σ).bind fun k σ => item x k σ) := rfl
theorem ev_q8 (P : Prog) (cf : Calls) (lv : Nat) (sc : Scope) (es : List Expr) (x1 : Nat) (x2 : Pos) (l : Loc) (σ : Sto) : ev P cf lv sc (.Tuple es x1 x2) l σ =
    ((evs P cf lv sc es l σ).bind fun vs σ => tupA vs σ) := rfl
theorem ev_q9 (P : Prog) (cf : Calls) (lv : Nat) (sc : Scope) (es : List Expr) (x1 : Pos) (l : Loc) (σ : Sto) : ev P cf lv sc (.List es x1) l σ =
    ((evs P cf lv sc es l σ).bind fun vs σ => newL vs σ) := rfl
theorem ev_q10 (P : Prog) (cf : Calls) (lv : Nat) (sc : Scope) (ks : List (Option Expr)) (vs : List Expr) (x1 : Pos) (l : Loc) (σ : Sto) : ev P cf lv sc (.Dict ks vs x1) l σ =
    (match ks, vs with
    | [], [] => bif P.dicts then .ok (.ref σ.length) (σ ++ [.dict []]) else .bad
    | _, _ => .bad) := rfl
theorem ev_q11 (P : Prog) (cf : Calls) (lv : Nat) (sc : Scope) (elt tg it : Expr) (ifs : List Expr) (a : Int) (csc : Scope) (x1 : Pos) (l : Loc) (σ : Sto) : ev P cf lv sc (.ListComp elt [⟨tg, it, ifs, a⟩] csc x1) l σ =
    (match tg, a with
    | .Name k _, 0 => bif !scopeFine sc csc k then .bad else (evSrc P cf lv sc it (fun l σ => ev P cf lv sc it l σ) l σ).bind fun s σ =>
      (cpSrc lv (fun v σ => (evIfs P cf lv csc ifs ((k, v) :: l) σ).bind fun b σ =>
        bif b then (ev P cf lv csc elt ((k, v) :: l) σ).bind fun y σ => .ok (some y) σ else .ok Option.none σ) s σ).bind fun xs σ => newL xs σ
    | _, _ => .bad) := rfl
theorem ev_q12 (P : Prog) (cf : Calls) (lv : Nat) (sc : Scope) (f : Expr) (es : List Expr) (ks : List Keyword) (pos : Pos) (l : Loc) (σ : Sto) : ev P cf lv sc (.Call f es ks pos) l σ =
    (match f, ks with
    | .Name g _, [] => bif isGlob sc g && P.known g then (evs P cf lv sc es l σ).bind fun vs σ => callA P cf lv g vs σ else .bad
    | .Attribute (.Name o _) m apos, [] => bif m == "append" && (apos.endLine == pos.line) && Nat.blt es.length 30 then (evName P sc o l σ).bind fun x σ => bif listB σ x then (evs P cf lv sc es l σ).bind fun vs σ => methA m x vs σ else .bad else .bad
    | _, _ => .bad) := rfl
theorem evs_q0 (P : Prog) (cf : Calls) (lv : Nat) (sc : Scope)  (l : Loc) (σ : Sto) : evs P cf lv sc [] l σ =
    (.ok [] σ) := rfl
theorem evs_q1 (P : Prog) (cf : Calls) (lv : Nat) (sc : Scope) (e : Expr) (r : List Expr) (l : Loc) (σ : Sto) : evs P cf lv sc (e :: r) l σ =
    (bif noStar (e :: r) then (ev P cf lv sc e l σ).bind fun v σ => (evs P cf lv sc r l σ).bind fun vs σ => .ok (v :: vs) σ else .bad) := rfl
theorem evOpt_q0 (P : Prog) (cf : Calls) (lv : Nat) (sc : Scope)  (l : Loc) (σ : Sto) : evOpt P cf lv sc Option.none l σ =
    (.ok .none σ) := rfl
theorem evOpt_q1 (P : Prog) (cf : Calls) (lv : Nat) (sc : Scope) (e : Expr) (l : Loc) (σ : Sto) : evOpt P cf lv sc (some e) l σ =
    (ev P cf lv sc e l σ) := rfl
theorem evBool_q0 (P : Prog) (cf : Calls) (lv : Nat) (sc : Scope) (op : BoolOp)  (l : Loc) (σ : Sto) : evBool P cf lv sc op [] l σ =
    (.bad) := rfl
theorem evBool_q1 (P : Prog) (cf : Calls) (lv : Nat) (sc : Scope) (op : BoolOp) (e : Expr) (l : Loc) (σ : Sto) : evBool P cf lv sc op [e] l σ =
    (ev P cf lv sc e l σ) := rfl
theorem evBool_q2 (P : Prog) (cf : Calls) (lv : Nat) (sc : Scope) (op : BoolOp) (e f : Expr) (r : List Expr) (l : Loc) (σ : Sto) : evBool P cf lv sc op (e :: f :: r) l σ =
    ((ev P cf lv sc e l σ).bind fun v σ => (truthO v σ).bind fun b σ => match op with
    | .And => bif b then evBool P cf lv sc op (f :: r) l σ else .ok v σ
    | .Or => bif b then .ok v σ else evBool P cf lv sc op (f :: r) l σ) := rfl
theorem evSrc_q0 (P : Prog) (cf : Calls) (lv : Nat) (sc : Scope) (f : Expr) (es : List Expr) (ks : List Keyword) (x1 : Pos) (w : Loc → Sto → Out AV) (l : Loc) (σ : Sto) : evSrc P cf lv sc (.Call f es ks x1) w l σ =
    (match f, ks with
    | .Name g _, [] => bif isGlob sc g && g == "range" then (evs P cf lv sc es l σ).bind fun vs σ => rangeOf vs σ else .bad
    | _, _ => .bad) := rfl
theorem evSrc_q1 (P : Prog) (cf : Calls) (lv : Nat) (sc : Scope) (x1 : Str) (x2 : Pos) (w : Loc → Sto → Out AV) (l : Loc) (σ : Sto) : evSrc P cf lv sc (.Name x1 x2) w l σ =
    ((w l σ).bind fun v σ => srcOf v σ) := rfl
theorem evSrc_q2 (P : Prog) (cf : Calls) (lv : Nat) (sc : Scope) (x1 x2 : Expr) (x3 : Pos) (w : Loc → Sto → Out AV) (l : Loc) (σ : Sto) : evSrc P cf lv sc (.Subscript x1 x2 x3) w l σ =
    ((w l σ).bind fun v σ => srcOf v σ) := rfl
theorem evIfs_q0 (P : Prog) (cf : Calls) (lv : Nat) (sc : Scope)  (l : Loc) (σ : Sto) : evIfs P cf lv sc [] l σ =
    (.ok true σ) := rfl
theorem evIfs_q1 (P : Prog) (cf : Calls) (lv : Nat) (sc : Scope) (e : Expr) (l : Loc) (σ : Sto) : evIfs P cf lv sc [e] l σ =
    (evT P cf lv sc e (fun l σ => ev P cf lv sc e l σ) l σ) := rfl
theorem evIfs_q2 (P : Prog) (cf : Calls) (lv : Nat) (sc : Scope) (x1 x2 : Expr) (x3 : List Expr) (l : Loc) (σ : Sto) : evIfs P cf lv sc (x1 :: x2 :: x3) l σ =
    (.bad) := rfl
theorem evT_q0 (P : Prog) (cf : Calls) (lv : Nat) (sc : Scope) (op : UnaryOp) (x : Expr) (x1 : Pos) (w : Loc → Sto → Out AV) (l : Loc) (σ : Sto) : evT P cf lv sc (.UnaryOp op x x1) w l σ =
    (match op with
    | .Not => (evT P cf lv sc x (fun l σ => ev P cf lv sc x l σ) l σ).bind fun b σ => .ok (!b) σ
    | _ => .bad) := rfl
theorem evT_q1 (P : Prog) (cf : Calls) (lv : Nat) (sc : Scope) (op : BoolOp) (vs : List Expr) (x1 : Pos) (w : Loc → Sto → Out AV) (l : Loc) (σ : Sto) : evT P cf lv sc (.BoolOp op vs x1) w l σ =
    (evTs P cf lv sc op vs l σ) := rfl
theorem evT_q2 (P : Prog) (cf : Calls) (lv : Nat) (sc : Scope) (x1 : Expr) (x2 : List CmpOp) (x3 : List Expr) (x4 : Pos) (w : Loc → Sto → Out AV) (l : Loc) (σ : Sto) : evT P cf lv sc (.Compare x1 x2 x3 x4) w l σ =
    ((w l σ).bind fun v σ => truthO v σ) := rfl
theorem evT_q3 (P : Prog) (cf : Calls) (lv : Nat) (sc : Scope) (x1 : Str) (x2 : Pos) (w : Loc → Sto → Out AV) (l : Loc) (σ : Sto) : evT P cf lv sc (.Name x1 x2) w l σ =
    ((w l σ).bind fun v σ => truthO v σ) := rfl
theorem evT_q4 (P : Prog) (cf : Calls) (lv : Nat) (sc : Scope) (x1 x2 : Expr) (x3 : Pos) (w : Loc → Sto → Out AV) (l : Loc) (σ : Sto) : evT P cf lv sc (.Subscript x1 x2 x3) w l σ =
    ((w l σ).bind fun v σ => truthO v σ) := rfl
theorem evT_q5 (P : Prog) (cf : Calls) (lv : Nat) (sc : Scope) (x1 : Expr) (x2 : List Expr) (x3 : List Keyword) (x4 : Pos) (w : Loc → Sto → Out AV) (l : Loc) (σ : Sto) : evT P cf lv sc (.Call x1 x2 x3 x4) w l σ =
    ((w l σ).bind fun v σ => truthO v σ) := rfl
theorem evTs_q0 (P : Prog) (cf : Calls) (lv : Nat) (sc : Scope) (op : BoolOp)  (l : Loc) (σ : Sto) : evTs P cf lv sc op [] l σ =
    (.ok (match op with | .And => true | .Or => false) σ) := rfl
theorem evTs_q1 (P : Prog) (cf : Calls) (lv : Nat) (sc : Scope) (op : BoolOp) (e : Expr) (r : List Expr) (l : Loc) (σ : Sto) : evTs P cf lv sc op (e :: r) l σ =
    ((evT P cf lv sc e (fun l σ => ev P cf lv sc e l σ) l σ).bind fun b σ => match op with
    | .And => bif b then evTs P cf lv sc op r l σ else .ok false σ
    | .Or => bif b then .ok true σ else evTs P cf lv sc op r l σ) := rfl
theorem ex_q0 (P : Prog) (cf : Calls) (sc : Scope) (t : Expr) (b o : List Stmt) (x1 : Pos) (lv : Nat) (l : Loc) (σ : Sto) : ex P cf sc (.If t b o x1) lv l σ =
    ((evT P cf lv sc t (fun l σ => ev P cf lv sc t l σ) l σ).inS l fun c σ => bif c then exs P cf sc b lv l σ else exs P cf sc o lv l σ) := rfl
theorem ex_q1 (P : Prog) (cf : Calls) (sc : Scope) (e : Option Expr) (x1 : Pos) (lv : Nat) (l : Loc) (σ : Sto) : ex P cf sc (.Return e x1) lv l σ =
    (match e with
    | some e => (ev P cf lv sc e l σ).inS l fun v σ => .ok (.ret v) l σ
    | Option.none => .bad) := rfl
theorem ex_q2 (P : Prog) (cf : Calls) (sc : Scope) (ts : List Expr) (e : Expr) (x1 : Pos) (lv : Nat) (l : Loc) (σ : Sto) : ex P cf sc (.Assign ts e x1) lv l σ =
    (match ts with
    | [t] => bif okT sc t then (ev P cf lv sc e l σ).inS l fun v σ => bindT P cf lv sc t v l σ else .bad
    | _ => .bad) := rfl
theorem ex_q3 (P : Prog) (cf : Calls) (sc : Scope) (e : Expr) (x1 : Pos) (lv : Nat) (l : Loc) (σ : Sto) : ex P cf sc (.Expr e x1) lv l σ =
    (bif notComp e then (ev P cf lv sc e l σ).inS l fun _ σ => .ok .next l σ else .bad) := rfl
theorem ex_q4 (P : Prog) (cf : Calls) (sc : Scope) (t : Expr) (b o : List Stmt) (x1 : Pos) (lv : Nat) (l : Loc) (σ : Sto) : ex P cf sc (.While t b o x1) lv l σ =
    (match o with
    | [] => whileG (fun l σ => evT P cf lv sc t (fun l σ => ev P cf lv sc t l σ) l σ) (fun l σ => exs P cf sc b lv l σ) 1000 l σ
    | _ => .bad) := rfl
theorem ex_q5 (P : Prog) (cf : Calls) (sc : Scope) (tg it : Expr) (b o : List Stmt) (x1 : Pos) (lv : Nat) (l : Loc) (σ : Sto) : ex P cf sc (.For tg it b o x1) lv l σ =
    (match tg, o with
    | .Name x _, [] => bif isLoc sc x then (evSrc P cf lv sc it (fun l σ => ev P cf lv sc it l σ) l σ).inS l fun s σ => forSrc lv (fun v l σ => exs P cf sc b lv (setL x v l) σ) s l σ else .bad
    | _, _ => .bad) := rfl
theorem ex_q6 (P : Prog) (cf : Calls) (sc : Scope) (e c : Option Expr) (x1 : Pos) (lv : Nat) (l : Loc) (σ : Sto) : ex P cf sc (.Raise e c x1) lv l σ =
    (match e, c with
    | some e, Option.none => raiseA P sc e lv l σ
    | _, _ => .bad) := rfl
theorem ex_q7 (P : Prog) (cf : Calls) (sc : Scope) (b : List Stmt) (hs : List ExceptHandler) (o f : List Stmt) (x1 : Pos) (lv : Nat) (l : Loc) (σ : Sto) : ex P cf sc (.Try b hs o f x1) lv l σ =
    (match o, f with
    | [], [] => bif hs.isEmpty then .bad else (match exs P cf sc b lv l σ with
      | .exc c l' σ' => exH P cf sc hs lv c l' σ'
      | .ok f l' σ' => .ok f l' σ'
      | .bad => .bad)
    | _, _ => .bad) := rfl
theorem exs_q0 (P : Prog) (cf : Calls) (sc : Scope)  (lv : Nat) (l : Loc) (σ : Sto) : exs P cf sc [] lv l σ =
    (.ok .next l σ) := rfl
theorem exs_q1 (P : Prog) (cf : Calls) (sc : Scope) (s : Stmt) (r : List Stmt) (lv : Nat) (l : Loc) (σ : Sto) : exs P cf sc (s :: r) lv l σ =
    ((ex P cf sc s lv l σ).andThen (exs P cf sc r lv)) := rfl
theorem exH_q0 (P : Prog) (cf : Calls) (sc : Scope)  (lv : Nat) (c : Str) (l : Loc) (σ : Sto) : exH P cf sc [] lv c l σ =
    (.bad) := rfl
theorem exH_q1 (P : Prog) (cf : Calls) (sc : Scope) (ty : Option Expr) (nm : Option Str) (b : List Stmt) (x1 : Pos) (r : List ExceptHandler) (lv : Nat) (c : Str) (l : Loc) (σ : Sto) : exH P cf sc (.ExceptHandler ty nm b x1 :: r) lv c l σ =
    (match ty with
    | some (.Name t _) =>
      bif !(isGlob sc t && P.cls t) then .bad
      else bif P.sub c t then (match catchN nm sc c l with
        | some l₁ => bif b.isEmpty then .bad else (match exs P cf sc b (lv + 1) l₁ σ with
          | .ok f l' σ' => (match f with
            | .next => unNext nm l' σ'
            | .ret v => .ok (.ret v) (unRet nm l') σ')
          | _ => .bad)
        | Option.none => .bad)
      else exH P cf sc r lv c l σ
    | _ => .bad) := rfl

end Mine

/- MPK -/
set_option tactic.hygienic false
/-! Mine: the interpreter once more, by continuations (so that a body reduces to a plain tree of conditions). -/
namespace Mine
open PySem

structure Kt (R : Type) where
  ret : AV → Loc → Sto → R
  exc : Str → Loc → Sto → R
  bad : R

structure Ke (R : Type) where
  exc : Str → Sto → R
  bad : R

noncomputable def Kt.e {R : Type} (t : Kt R) (l : Loc) : Ke R := ⟨fun c σ => t.exc c l σ, t.bad⟩

noncomputable def pk {α R : Type} (t : Ke R) (o : Out α) (k : α → Sto → R) : R := match o with
  | .ok a σ => k a σ
  | .exc c σ => t.exc c σ
  | .bad => t.bad

noncomputable def sk {R : Type} (t : Kt R) (o : OutS) (k : Loc → Sto → R) : R := match o with
  | .ok f l σ => (match f with
    | .next => k l σ
    | .ret v => t.ret v l σ)
  | .exc c l σ => t.exc c l σ
  | .bad => t.bad

noncomputable def ktS : Kt OutS := ⟨fun v l σ => .ok (.ret v) l σ, .exc, .bad⟩
noncomputable def ktO : Kt (Out AV) := ⟨fun v _ σ => .ok v σ, fun c _ σ => .exc c σ, .bad⟩
noncomputable def eE (α : Type) : Ke (Out α) := ⟨fun c σ => .exc c σ, .bad⟩

noncomputable def constK {R : Type} (c : Const) (σ : Sto) (t : Ke R) (k : AV → Sto → R) : R := match c with
  | .none => k .none σ
  | .bool b => k (.bool b) σ
  | .int i => k (.int i) σ
  | .str s => bif PyData.strOk s then k (.str s) σ else t.bad
  | _ => t.bad
noncomputable def nameK {R : Type} (P : Prog) (sc : Scope) (x : Str) (l : Loc) (σ : Sto) (t : Ke R) (k : AV → Sto → R) : R :=
  bif isLoc sc x then (match getL x l with | some v => k v σ | Option.none => t.bad) else bif isGlob sc x && P.typ x then k (.typ x) σ else t.bad

mutual
noncomputable def evK {R : Type} (P : Prog) (cf : Calls) (lv : Nat) (sc : Scope) : Expr → Loc → Sto → Ke R → (AV → Sto → R) → R
  | .Constant c _ _ => fun _ σ t k => constK c σ t k
  | .Name x _ => fun l σ t k => nameK P sc x l σ t k
  | .BoolOp op vs _ => fun l σ t k => evBoolK P cf lv sc op vs l σ t k
  | .UnaryOp op x _ => fun l σ t k => evK P cf lv sc x l σ t fun v σ => pk t (unop op v σ) k
  | .BinOp a op b _ => fun l σ t k => evK P cf lv sc a l σ t fun x σ => evK P cf lv sc b l σ t fun y σ => pk t (binop op x y σ) k
  | .Compare a [op] [b] _ => fun l σ t k => bif notSet b then evK P cf lv sc a l σ t fun x σ => evK P cf lv sc b l σ t fun y σ => pk t (cmpop op x y σ) k else t.bad
  | .Slice lo hi st _ => fun l σ t k => match st with
    | Option.none => evOptK P cf lv sc lo l σ t fun a σ => evOptK P cf lv sc hi l σ t fun b σ => pk t (slA a b σ) k
    | some _ => t.bad
  | .Subscript o i _ => fun l σ t k => evK P cf lv sc o l σ t fun x σ => evK P cf lv sc i l σ t fun i σ => pk t (item x i σ) k
  | .Tuple es _ _ => fun l σ t k => evsK P cf lv sc es l σ t fun vs σ => pk t (tupA vs σ) k
  | .List es _ => fun l σ t k => evsK P cf lv sc es l σ t fun vs σ => pk t (newL vs σ) k
  | .ListComp elt [⟨tg, it, ifs, a⟩] csc _ => fun l σ t k => match tg, a with
    | .Name x _, 0 => bif !scopeFine sc csc x then t.bad else evSrcK P cf lv sc it (fun l σ t k => evK P cf lv sc it l σ t k) l σ t fun s σ =>
      pk t (cpSrc lv (fun v σ => evIfsK P cf lv csc ifs ((x, v) :: l) σ (eE (Option AV)) fun b σ =>
        bif b then evK P cf lv csc elt ((x, v) :: l) σ (eE (Option AV)) fun y σ => .ok (some y) σ else .ok Option.none σ) s σ) fun xs σ => pk t (newL xs σ) k
    | _, _ => t.bad
  | .Call f es ks pos => fun l σ t k => match f, ks with
    | .Name g _, [] => bif isGlob sc g && P.known g then evsK P cf lv sc es l σ t fun vs σ => pk t (callA P cf lv g vs σ) k else t.bad
    | .Attribute (.Name o _) m apos, [] => bif m == "append" && (apos.endLine == pos.line) && Nat.blt es.length 30 then nameK P sc o l σ t fun x σ => bif listB σ x then evsK P cf lv sc es l σ t fun vs σ => pk t (methA m x vs σ) k else t.bad else t.bad
    | _, _ => t.bad
  | .Dict ks vs _ => fun _ σ t k => match ks, vs with
    | [], [] => bif P.dicts then k (.ref σ.length) (σ ++ [.dict []]) else t.bad
    | _, _ => t.bad
  | _ => fun _ _ t _ => t.bad
noncomputable def evsK {R : Type} (P : Prog) (cf : Calls) (lv : Nat) (sc : Scope) : List Expr → Loc → Sto → Ke R → (List AV → Sto → R) → R
  | [] => fun _ σ _ k => k [] σ
  | e :: r => fun l σ t k => bif noStar (e :: r) then evK P cf lv sc e l σ t fun v σ => evsK P cf lv sc r l σ t fun vs σ => k (v :: vs) σ else t.bad
noncomputable def evOptK {R : Type} (P : Prog) (cf : Calls) (lv : Nat) (sc : Scope) : Option Expr → Loc → Sto → Ke R → (AV → Sto → R) → R
  | Option.none => fun _ σ _ k => k .none σ
  | some e => fun l σ t k => evK P cf lv sc e l σ t k
noncomputable def evBoolK {R : Type} (P : Prog) (cf : Calls) (lv : Nat) (sc : Scope) (op : BoolOp) : List Expr → Loc → Sto → Ke R → (AV → Sto → R) → R
  | [] => fun _ _ t _ => t.bad
  | [e] => fun l σ t k => evK P cf lv sc e l σ t k
  | e :: f :: r => fun l σ t k => evK P cf lv sc e l σ t fun v σ => pk t (truthO v σ) fun b σ => match op with
    | .And => bif b then evBoolK P cf lv sc op (f :: r) l σ t k else k v σ
    | .Or => bif b then k v σ else evBoolK P cf lv sc op (f :: r) l σ t k
noncomputable def evSrcK {R : Type} (P : Prog) (cf : Calls) (lv : Nat) (sc : Scope) : Expr → (Loc → Sto → Ke R → (AV → Sto → R) → R) → Loc → Sto → Ke R → (Src → Sto → R) → R
  | .Call f es ks _, _ => fun l σ t k => match f, ks with
    | .Name g _, [] => bif isGlob sc g && g == "range" then evsK P cf lv sc es l σ t fun vs σ => pk t (rangeOf vs σ) k else t.bad
    | _, _ => t.bad
  | .Name _ _, w => fun l σ t k => w l σ t fun v σ => pk t (srcOf v σ) k
  | .Subscript _ _ _, w => fun l σ t k => w l σ t fun v σ => pk t (srcOf v σ) k
  | _, _ => fun _ _ t _ => t.bad
noncomputable def evIfsK {R : Type} (P : Prog) (cf : Calls) (lv : Nat) (sc : Scope) : List Expr → Loc → Sto → Ke R → (Bool → Sto → R) → R
  | [] => fun _ σ _ k => k true σ
  | [e] => fun l σ t k => evTK P cf lv sc e (fun l σ t k => evK P cf lv sc e l σ t k) l σ t k
  | _ :: _ :: _ => fun _ _ t _ => t.bad
noncomputable def evTK {R : Type} (P : Prog) (cf : Calls) (lv : Nat) (sc : Scope) : Expr → (Loc → Sto → Ke R → (AV → Sto → R) → R) → Loc → Sto → Ke R → (Bool → Sto → R) → R
  | .UnaryOp op x _, _ => fun l σ t k => match op with
    | .Not => evTK P cf lv sc x (fun l σ t k => evK P cf lv sc x l σ t k) l σ t fun b σ => k (!b) σ
    | _ => t.bad
  | .BoolOp op vs _, _ => fun l σ t k => evTsK P cf lv sc op vs l σ t k
  | .Compare _ _ _ _, w => fun l σ t k => w l σ t fun v σ => pk t (truthO v σ) k
  | .Name _ _, w => fun l σ t k => w l σ t fun v σ => pk t (truthO v σ) k
  | .Subscript _ _ _, w => fun l σ t k => w l σ t fun v σ => pk t (truthO v σ) k
  | .Call _ _ _ _, w => fun l σ t k => w l σ t fun v σ => pk t (truthO v σ) k
  | _, _ => fun _ _ t _ => t.bad
noncomputable def evTsK {R : Type} (P : Prog) (cf : Calls) (lv : Nat) (sc : Scope) (op : BoolOp) : List Expr → Loc → Sto → Ke R → (Bool → Sto → R) → R
  | [] => fun _ σ _ k => k (match op with | .And => true | .Or => false) σ
  | e :: r => fun l σ t k => evTK P cf lv sc e (fun l σ t k => evK P cf lv sc e l σ t k) l σ t fun b σ => match op with
    | .And => bif b then evTsK P cf lv sc op r l σ t k else k false σ
    | .Or => bif b then k true σ else evTsK P cf lv sc op r l σ t k
end
theorem evK_q0 {R : Type} (P : Prog) (cf : Calls) (lv : Nat) (sc : Scope) (c : Const) (x1 : Nat) (x2 : Pos) (l : Loc) (σ : Sto) (t : Ke R) (k : AV → Sto → R) : evK P cf lv sc (.Constant c x1 x2) l σ t k =
    (constK c σ t k) := rfl
theorem evK_q1 {R : Type} (P : Prog) (cf : Calls) (lv : Nat) (sc : Scope) (x : Str) (x1 : Pos) (l : Loc) (σ : Sto) (t : Ke R) (k : AV → Sto → R) : evK P cf lv sc (.Name x x1) l σ t k =
    (nameK P sc x l σ t k) := rfl
theorem evK_q2 {R : Type} (P : Prog) (cf : Calls) (lv : Nat) (sc : Scope) (op : BoolOp) (vs : List Expr) (x1 : Pos) (l : Loc) (σ : Sto) (t : Ke R) (k : AV → Sto → R) : evK P cf lv sc (.BoolOp op vs x1) l σ t k =
    (evBoolK P cf lv sc op vs l σ t k) := rfl
theorem evK_q3 {R : Type} (P : Prog) (cf : Calls) (lv : Nat) (sc : Scope) (op : UnaryOp) (x : Expr) (x1 : Pos) (l : Loc) (σ : Sto) (t : Ke R) (k : AV → Sto → R) : evK P cf lv sc (.UnaryOp op x x1) l σ t k =
    (evK P cf lv sc x l σ t fun v σ => pk t (unop op v σ) k) := rfl
theorem evK_q4 {R : Type} (P : Prog) (cf : Calls) (lv : Nat) (sc : Scope) (a : Expr) (op : Operator) (b : Expr) (x1 : Pos) (l : Loc) (σ : Sto) (t : Ke R) (k : AV → Sto → R) : evK P cf lv sc (.BinOp a op b x1) l σ t k =
    (evK P cf lv sc a l σ t fun x σ => evK P cf lv sc b l σ t fun y σ => pk t (binop op x y σ) k) := rfl
theorem evK_q5 {R : Type} (P : Prog) (cf : Calls) (lv : Nat) (sc : Scope) (a : Expr) (op : CmpOp) (b : Expr) (x1 : Pos) (l : Loc) (σ : Sto) (t : Ke R) (k : AV → Sto → R) : evK P cf lv sc (.Compare a [op] [b] x1) l σ t k =
    (bif notSet b then evK P cf lv sc a l σ t fun x σ => evK P cf lv sc b l σ t fun y σ => pk t (cmpop op x y σ) k else t.bad) := rfl
theorem evK_q6 {R : Type} (P : Prog) (cf : Calls) (lv : Nat) (sc : Scope) (lo hi st : Option Expr) (x1 : Pos) (l : Loc) (σ : Sto) (t : Ke R) (k : AV → Sto → R) : evK P cf lv sc (.Slice lo hi st x1) l σ t k =
    (match st with
    | Option.none => evOptK P cf lv sc lo l σ t fun a σ => evOptK P cf lv sc hi l σ t fun b σ => pk t (slA a b σ) k
    | some _ => t.bad) := rfl
theorem evK_q7 {R : Type} (P : Prog) (cf : Calls) (lv : Nat) (sc : Scope) (o i : Expr) (x1 : Pos) (l : Loc) (σ : Sto) (t : Ke R) (k : AV → Sto → R) : evK P cf lv sc (.Subscript o i x1) l σ t k =
    (evK P cf lv sc o l σ t fun x σ => evK P cf lv sc i l σ t fun i σ => pk t (item x i σ) k) := rfl
theorem evK_q8 {R : Type} (P : Prog) (cf : Calls) (lv : Nat) (sc : Scope) (es : List Expr) (x1 : Nat) (x2 : Pos) (l : Loc) (σ : Sto) (t : Ke R) (k : AV → Sto → R) : evK P cf lv sc (.Tuple es x1 x2) l σ t k =
    (evsK P cf lv sc es l σ t fun vs σ => pk t (tupA vs σ) k) := rfl
theorem evK_q9 {R : Type} (P : Prog) (cf : Calls) (lv : Nat) (sc : Scope) (es : List Expr) (x1 : Pos) (l : Loc) (σ : Sto) (t : Ke R) (k : AV → Sto → R) : evK P cf lv sc (.List es x1) l σ t k =
    (evsK P cf lv sc es l σ t fun vs σ => pk t (newL vs σ) k) := rfl
theorem evK_q10 {R : Type} (P : Prog) (cf : Calls) (lv : Nat) (sc : Scope) (ks : List (Option Expr)) (vs : List Expr) (x1 : Pos) (l : Loc) (σ : Sto) (t : Ke R) (k : AV → Sto → R) : evK P cf lv sc (.Dict ks vs x1) l σ t k =
    (match ks, vs with
    | [], [] => bif P.dicts then k (.ref σ.length) (σ ++ [.dict []]) else t.bad
    | _, _ => t.bad) := rfl
theorem evK_q11 {R : Type} (P : Prog) (cf : Calls) (lv : Nat) (sc : Scope) (elt tg it : Expr) (ifs : List Expr) (a : Int) (csc : Scope) (x1 : Pos) (l : Loc) (σ : Sto) (t : Ke R) (k : AV → Sto → R) : evK P cf lv sc (.ListComp elt [⟨tg, it, ifs, a⟩] csc x1) l σ t k =
    (match tg, a with
    | .Name x _, 0 => bif !scopeFine sc csc x then t.bad else evSrcK P cf lv sc it (fun l σ t k => evK P cf lv sc it l σ t k) l σ t fun s σ =>
      pk t (cpSrc lv (fun v σ => evIfsK P cf lv csc ifs ((x, v) :: l) σ (eE (Option AV)) fun b σ =>
        bif b then evK P cf lv csc elt ((x, v) :: l) σ (eE (Option AV)) fun y σ => .ok (some y) σ else .ok Option.none σ) s σ) fun xs σ => pk t (newL xs σ) k
    | _, _ => t.bad) := rfl
theorem evK_q12 {R : Type} (P : Prog) (cf : Calls) (lv : Nat) (sc : Scope) (f : Expr) (es : List Expr) (ks : List Keyword) (pos : Pos) (l : Loc) (σ : Sto) (t : Ke R) (k : AV → Sto → R) : evK P cf lv sc (.Call f es ks pos) l σ t k =
    (match f, ks with
    | .Name g _, [] => bif isGlob sc g && P.known g then evsK P cf lv sc es l σ t fun vs σ => pk t (callA P cf lv g vs σ) k else t.bad
    | .Attribute (.Name o _) m apos, [] => bif m == "append" && (apos.endLine == pos.line) && Nat.blt es.length 30 then nameK P sc o l σ t fun x σ => bif listB σ x then evsK P cf lv sc es l σ t fun vs σ => pk t (methA m x vs σ) k else t.bad else t.bad
    | _, _ => t.bad) := rfl
theorem evsK_q0 {R : Type} (P : Prog) (cf : Calls) (lv : Nat) (sc : Scope)  (l : Loc) (σ : Sto) (t : Ke R) (k : List AV → Sto → R) : evsK P cf lv sc [] l σ t k =
    (k [] σ) := rfl
theorem evsK_q1 {R : Type} (P : Prog) (cf : Calls) (lv : Nat) (sc : Scope) (e : Expr) (r : List Expr) (l : Loc) (σ : Sto) (t : Ke R) (k : List AV → Sto → R) : evsK P cf lv sc (e :: r) l σ t k =
    (bif noStar (e :: r) then evK P cf lv sc e l σ t fun v σ => evsK P cf lv sc r l σ t fun vs σ => k (v :: vs) σ else t.bad) := rfl
theorem evOptK_q0 {R : Type} (P : Prog) (cf : Calls) (lv : Nat) (sc : Scope)  (l : Loc) (σ : Sto) (t : Ke R) (k : AV → Sto → R) : evOptK P cf lv sc Option.none l σ t k =
    (k .none σ) := rfl
theorem evOptK_q1 {R : Type} (P : Prog) (cf : Calls) (lv : Nat) (sc : Scope) (e : Expr) (l : Loc) (σ : Sto) (t : Ke R) (k : AV → Sto → R) : evOptK P cf lv sc (some e) l σ t k =
    (evK P cf lv sc e l σ t k) := rfl
theorem evBoolK_q0 {R : Type} (P : Prog) (cf : Calls) (lv : Nat) (sc : Scope) (op : BoolOp)  (l : Loc) (σ : Sto) (t : Ke R) (k : AV → Sto → R) : evBoolK P cf lv sc op [] l σ t k =
    (t.bad) := rfl
theorem evBoolK_q1 {R : Type} (P : Prog) (cf : Calls) (lv : Nat) (sc : Scope) (op : BoolOp) (e : Expr) (l : Loc) (σ : Sto) (t : Ke R) (k : AV → Sto → R) : evBoolK P cf lv sc op [e] l σ t k =
    (evK P cf lv sc e l σ t k) := rfl
theorem evBoolK_q2 {R : Type} (P : Prog) (cf : Calls) (lv : Nat) (sc : Scope) (op : BoolOp) (e f : Expr) (r : List Expr) (l : Loc) (σ : Sto) (t : Ke R) (k : AV → Sto → R) : evBoolK P cf lv sc op (e :: f :: r) l σ t k =
    (evK P cf lv sc e l σ t fun v σ => pk t (truthO v σ) fun b σ => match op with
    | .And => bif b then evBoolK P cf lv sc op (f :: r) l σ t k else k v σ
    | .Or => bif b then k v σ else evBoolK P cf lv sc op (f :: r) l σ t k) := rfl
theorem evSrcK_q0 {R : Type} (P : Prog) (cf : Calls) (lv : Nat) (sc : Scope) (f : Expr) (es : List Expr) (ks : List Keyword) (x1 : Pos) (w : Loc → Sto → Ke R → (AV → Sto → R) → R) (l : Loc) (σ : Sto) (t : Ke R) (k : Src → Sto → R) : evSrcK P cf lv sc (.Call f es ks x1) w l σ t k =
    (match f, ks with
    | .Name g _, [] => bif isGlob sc g && g == "range" then evsK P cf lv sc es l σ t fun vs σ => pk t (rangeOf vs σ) k else t.bad
    | _, _ => t.bad) := rfl
theorem evSrcK_q1 {R : Type} (P : Prog) (cf : Calls) (lv : Nat) (sc : Scope) (x1 : Str) (x2 : Pos) (w : Loc → Sto → Ke R → (AV → Sto → R) → R) (l : Loc) (σ : Sto) (t : Ke R) (k : Src → Sto → R) : evSrcK P cf lv sc (.Name x1 x2) w l σ t k =
    (w l σ t fun v σ => pk t (srcOf v σ) k) := rfl
theorem evSrcK_q2 {R : Type} (P : Prog) (cf : Calls) (lv : Nat) (sc : Scope) (x1 x2 : Expr) (x3 : Pos) (w : Loc → Sto → Ke R → (AV → Sto → R) → R) (l : Loc) (σ : Sto) (t : Ke R) (k : Src → Sto → R) : evSrcK P cf lv sc (.Subscript x1 x2 x3) w l σ t k =
    (w l σ t fun v σ => pk t (srcOf v σ) k) := rfl
theorem evIfsK_q0 {R : Type} (P : Prog) (cf : Calls) (lv : Nat) (sc : Scope)  (l : Loc) (σ : Sto) (t : Ke R) (k : Bool → Sto → R) : evIfsK P cf lv sc [] l σ t k =
    (k true σ) := rfl
theorem evIfsK_q1 {R : Type} (P : Prog) (cf : Calls) (lv : Nat) (sc : Scope) (e : Expr) (l : Loc) (σ : Sto) (t : Ke R) (k : Bool → Sto → R) : evIfsK P cf lv sc [e] l σ t k =
    (evTK P cf lv sc e (fun l σ t k => evK P cf lv sc e l σ t k) l σ t k) := rfl
theorem evIfsK_q2 {R : Type} (P : Prog) (cf : Calls) (lv : Nat) (sc : Scope) (x1 x2 : Expr) (x3 : List Expr) (l : Loc) (σ : Sto) (t : Ke R) (k : Bool → Sto → R) : evIfsK P cf lv sc (x1 :: x2 :: x3) l σ t k =
    (t.bad) := rfl
theorem evTK_q0 {R : Type} (P : Prog) (cf : Calls) (lv : Nat) (sc : Scope) (op : UnaryOp) (x : Expr) (x1 : Pos) (w : Loc → Sto → Ke R → (AV → Sto → R) → R) (l : Loc) (σ : Sto) (t : Ke R) (k : Bool → Sto → R) : evTK P cf lv sc (.UnaryOp op x x1) w l σ t k =
    (match op with
    | .Not => evTK P cf lv sc x (fun l σ t k => evK P cf lv sc x l σ t k) l σ t fun b σ => k (!b) σ
    | _ => t.bad) := rfl
theorem evTK_q1 {R : Type} (P : Prog) (cf : Calls) (lv : Nat) (sc : Scope) (op : BoolOp) (vs : List Expr) (x1 : Pos) (w : Loc → Sto → Ke R → (AV → Sto → R) → R) (l : Loc) (σ : Sto) (t : Ke R) (k : Bool → Sto → R) : evTK P cf lv sc (.BoolOp op vs x1) w l σ t k =
    (evTsK P cf lv sc op vs l σ t k) := rfl
theorem evTK_q2 {R : Type} (P : Prog) (cf : Calls) (lv : Nat) (sc : Scope) (x1 : Expr) (x2 : List CmpOp) (x3 : List Expr) (x4 : Pos) (w : Loc → Sto → Ke R → (AV → Sto → R) → R) (l : Loc) (σ : Sto) (t : Ke R) (k : Bool → Sto → R) : evTK P cf lv sc (.Compare x1 x2 x3 x4) w l σ t k =
    (w l σ t fun v σ => pk t (truthO v σ) k) := rfl
theorem evTK_q3 {R : Type} (P : Prog) (cf : Calls) (lv : Nat) (sc : Scope) (x1 : Str) (x2 : Pos) (w : Loc → Sto → Ke R → (AV → Sto → R) → R) (l : Loc) (σ : Sto) (t : Ke R) (k : Bool → Sto → R) : evTK P cf lv sc (.Name x1 x2) w l σ t k =
    (w l σ t fun v σ => pk t (truthO v σ) k) := rfl
theorem evTK_q4 {R : Type} (P : Prog) (cf : Calls) (lv : Nat) (sc : Scope) (x1 x2 : Expr) (x3 : Pos) (w : Loc → Sto → Ke R → (AV → Sto → R) → R) (l : Loc) (σ : Sto) (t : Ke R) (k : Bool → Sto → R) : evTK P cf lv sc (.Subscript x1 x2 x3) w l σ t k =
    (w l σ t fun v σ => pk t (truthO v σ) k) := rfl
theorem evTK_q5 {R : Type} (P : Prog) (cf : Calls) (lv : Nat) (sc : Scope) (x1 : Expr) (x2 : List Expr) (x3 : List Keyword) (x4 : Pos) (w : Loc → Sto → Ke R → (AV → Sto → R) → R) (l : Loc) (σ : Sto) (t : Ke R) (k : Bool → Sto → R) : evTK P cf lv sc (.Call x1 x2 x3 x4) w l σ t k =
    (w l σ t fun v σ => pk t (truthO v σ) k) := rfl
theorem evTsK_q0 {R : Type} (P : Prog) (cf : Calls) (lv : Nat) (sc : Scope) (op : BoolOp)  (l : Loc) (σ : Sto) (t : Ke R) (k : Bool → Sto → R) : evTsK P cf lv sc op [] l σ t k =
    (k (match op with | .And => true | .Or => false) σ) := rfl
theorem evTsK_q1 {R : Type} (P : Prog) (cf : Calls) (lv : Nat) (sc : Scope) (op : BoolOp) (e : Expr) (r : List Expr) (l : Loc) (σ : Sto) (t : Ke R) (k : Bool → Sto → R) : evTsK P cf lv sc op (e :: r) l σ t k =
    (evTK P cf lv sc e (fun l σ t k => evK P cf lv sc e l σ t k) l σ t fun b σ => match op with
    | .And => bif b then evTsK P cf lv sc op r l σ t k else k false σ
    | .Or => bif b then k true σ else evTsK P cf lv sc op r l σ t k) := rfl

theorem pk_bind {α β R : Type} (t : Ke R) (m : Out α) (f : α → Sto → Out β) (k : β → Sto → R) : pk t (m.bind f) k = pk t m fun a σ => pk t (f a σ) k := by
  cases m <;> rfl
theorem pk_ok {α R : Type} (t : Ke R) (a : α) (σ : Sto) (k : α → Sto → R) : pk t (.ok a σ) k = k a σ := rfl
theorem pk_exc {α R : Type} (t : Ke R) (c : Str) (σ : Sto) (k : α → Sto → R) : pk t (.exc c σ) k = t.exc c σ := rfl
theorem pk_bad {α R : Type} (t : Ke R) (k : α → Sto → R) : pk t (.bad : Out α) k = t.bad := rfl
theorem pk_cond {α R : Type} (t : Ke R) (c : Bool) (a b : Out α) (k : α → Sto → R) : pk t (bif c then a else b) k = bif c then pk t a k else pk t b k := by
  cases c <;> rfl
theorem pk_bindE {α β : Type} (m : Out α) (f : α → Sto → Out β) : pk (eE β) m f = m.bind f := by cases m <;> rfl
theorem constK_eq {R : Type} (c : Const) (σ : Sto) (t : Ke R) (k : AV → Sto → R) : constK c σ t k = pk t (constA c σ) k := by
  unfold constK constA
  cases c with
  | str s => simp only [pk_cond, pk_ok, pk_bad]
  | _ => rfl
theorem nameK_eq {R : Type} (P : Prog) (sc : Scope) (x : Str) (l : Loc) (σ : Sto) (t : Ke R) (k : AV → Sto → R) : nameK P sc x l σ t k = pk t (evName P sc x l σ) k := by
  unfold nameK evName optA
  simp only [pk_cond]
  cases getL x l <;> rfl
theorem sk_inS {α R : Type} (t : Kt R) (l : Loc) (m : Out α) (f : α → Sto → OutS) (k : Loc → Sto → R) : sk t (m.inS l f) k = pk (t.e l) m fun a σ => sk t (f a σ) k := by
  cases m <;> rfl
theorem sk_andThen {R : Type} (t : Kt R) (m : OutS) (f : Loc → Sto → OutS) (k : Loc → Sto → R) : sk t (m.andThen f) k = sk t m fun l σ => sk t (f l σ) k := by
  rcases m with ⟨_ | _, _, _⟩ | _ | _ <;> rfl
theorem sk_cond {R : Type} (t : Kt R) (c : Bool) (a b : OutS) (k : Loc → Sto → R) : sk t (bif c then a else b) k = bif c then sk t a k else sk t b k := by
  cases c <;> rfl
theorem sk_bad {R : Type} (t : Kt R) (k : Loc → Sto → R) : sk t .bad k = t.bad := rfl
theorem sk_next {R : Type} (t : Kt R) (l : Loc) (σ : Sto) (k : Loc → Sto → R) : sk t (.ok .next l σ) k = k l σ := rfl
theorem sk_ret {R : Type} (t : Kt R) (v : AV) (l : Loc) (σ : Sto) (k : Loc → Sto → R) : sk t (.ok (.ret v) l σ) k = t.ret v l σ := rfl
theorem sk_exc {R : Type} (t : Kt R) (c : Str) (l : Loc) (σ : Sto) (k : Loc → Sto → R) : sk t (.exc c l σ) k = t.exc c l σ := rfl
theorem sk_self (o : OutS) : sk ktS o (fun l σ => .ok .next l σ) = o := by rcases o with ⟨_ | _, _, _⟩ | _ | _ <;> rfl


section
variable {R : Type} (P : Prog) (cf : Calls) (lv : Nat)
set_option linter.unusedSimpArgs false
mutual
theorem evK_eq {R : Type} (sc : Scope) : ∀ (e : Expr) (l : Loc) (σ : Sto) (t : Ke R) (k : AV → Sto → R), evK P cf lv sc e l σ t k = pk t (ev P cf lv sc e l σ) k
  | .BoolOp op vs _, l, σ, t, k => by simp only [evK_q0, evK_q1, evK_q2, evK_q3, evK_q4, evK_q5, evK_q6, evK_q7, evK_q8, evK_q9, evK_q10, evK_q11, evK_q12, ev_q0, ev_q1, ev_q2, ev_q3, ev_q4, ev_q5, ev_q6, ev_q7, ev_q8, ev_q9, ev_q10, ev_q11, ev_q12]; exact evBoolK_eq sc op vs l σ t k
  | .NamedExpr _ _ _, l, σ, t, k => rfl
  | .BinOp a op b _, l, σ, t, k => by simp only [evK_q0, evK_q1, evK_q2, evK_q3, evK_q4, evK_q5, evK_q6, evK_q7, evK_q8, evK_q9, evK_q10, evK_q11, evK_q12, ev_q0, ev_q1, ev_q2, ev_q3, ev_q4, ev_q5, ev_q6, ev_q7, ev_q8, ev_q9, ev_q10, ev_q11, ev_q12, pk_bind, evK_eq sc a, evK_eq sc b]
  | .UnaryOp op x _, l, σ, t, k => by simp only [evK_q0, evK_q1, evK_q2, evK_q3, evK_q4, evK_q5, evK_q6, evK_q7, evK_q8, evK_q9, evK_q10, evK_q11, evK_q12, ev_q0, ev_q1, ev_q2, ev_q3, ev_q4, ev_q5, ev_q6, ev_q7, ev_q8, ev_q9, ev_q10, ev_q11, ev_q12, pk_bind]; exact evK_eq sc x l σ t _
  | .Lambda _ _ _ _, l, σ, t, k => rfl
  | .IfExp _ _ _ _, l, σ, t, k => rfl
  | .Dict ks vs _, l, σ, t, k => by cases ks <;> cases vs <;> first | rfl | simp only [evK_q0, evK_q1, evK_q2, evK_q3, evK_q4, evK_q5, evK_q6, evK_q7, evK_q8, evK_q9, evK_q10, evK_q11, evK_q12, ev_q0, ev_q1, ev_q2, ev_q3, ev_q4, ev_q5, ev_q6, ev_q7, ev_q8, ev_q9, ev_q10, ev_q11, ev_q12, pk_cond, pk_ok, pk_bad]
  | .Set _ _ _, l, σ, t, k => rfl
  | .ListComp elt [] csc _, l, σ, t, k => rfl
  | .ListComp elt (⟨_, _, _, _⟩ :: _ :: _) csc _, l, σ, t, k => rfl
  | .ListComp elt [⟨tg, it, ifs, a⟩] csc _, l, σ, t, k => by
    have h1 := evSrcK_eq (R := R) sc it (fun l σ t k => evK P cf lv sc it l σ t k) (fun l σ => ev P cf lv sc it l σ) (fun l σ t k => evK_eq sc it l σ t k)
    have h2 := evIfsK_eq (R := Out (Option AV)) csc ifs
    have h3 := evK_eq (R := Out (Option AV)) csc elt
    simp only [evK_q0, evK_q1, evK_q2, evK_q3, evK_q4, evK_q5, evK_q6, evK_q7, evK_q8, evK_q9, evK_q10, evK_q11, evK_q12, ev_q0, ev_q1, ev_q2, ev_q3, ev_q4, ev_q5, ev_q6, ev_q7, ev_q8, ev_q9, ev_q10, ev_q11, ev_q12]
    cases tg with
    | Name x p =>
      by_cases ha : a = 0
      · subst ha
        simp only [h1, h2, h3, pk_bind, pk_bindE, pk_cond, pk_bad]
      · split
        · exact absurd rfl ha
        · first | rfl | (split <;> first | rfl | exact absurd rfl ha)
    | _ => rfl
  | .SetComp _ _ _ _, l, σ, t, k => rfl
  | .DictComp _ _ _ _ _, l, σ, t, k => rfl
  | .GeneratorExp _ _ _ _, l, σ, t, k => rfl
  | .Await _ _, l, σ, t, k => rfl
  | .Yield _ _, l, σ, t, k => rfl
  | .YieldFrom _ _, l, σ, t, k => rfl
  | .Compare a [] _ _, l, σ, t, k => rfl
  | .Compare a [op] [] _, l, σ, t, k => rfl
  | .Compare a [op] [b] _, l, σ, t, k => by simp only [evK_q0, evK_q1, evK_q2, evK_q3, evK_q4, evK_q5, evK_q6, evK_q7, evK_q8, evK_q9, evK_q10, evK_q11, evK_q12, ev_q0, ev_q1, ev_q2, ev_q3, ev_q4, ev_q5, ev_q6, ev_q7, ev_q8, ev_q9, ev_q10, ev_q11, ev_q12, pk_cond, pk_bad, pk_bind, evK_eq sc a, evK_eq sc b]
  | .Compare a [op] (_ :: _ :: _) _, l, σ, t, k => rfl
  | .Compare a (_ :: _ :: _) _ _, l, σ, t, k => rfl
  | .Call f es ks _, l, σ, t, k => by
    have h1 := evsK_eq (R := R) sc es
    simp only [evK_q0, evK_q1, evK_q2, evK_q3, evK_q4, evK_q5, evK_q6, evK_q7, evK_q8, evK_q9, evK_q10, evK_q11, evK_q12, ev_q0, ev_q1, ev_q2, ev_q3, ev_q4, ev_q5, ev_q6, ev_q7, ev_q8, ev_q9, ev_q10, ev_q11, ev_q12]
    cases ks with
    | cons _ _ => cases f with
      | Attribute o m p => cases o <;> rfl
      | _ => rfl
    | nil => cases f with
      | Name g p => simp only [pk_cond, pk_bind, h1, pk_bad]
      | Attribute o m p => cases o with
        | Name o p => simp only [pk_cond, pk_bad, pk_bind, h1, nameK_eq]
        | _ => rfl
      | _ => rfl
  | .FormattedValue _ _ _ _, l, σ, t, k => rfl
  | .JoinedStr _ _, l, σ, t, k => rfl
  | .Constant c _ _, l, σ, t, k => by simp only [evK_q0, evK_q1, evK_q2, evK_q3, evK_q4, evK_q5, evK_q6, evK_q7, evK_q8, evK_q9, evK_q10, evK_q11, evK_q12, ev_q0, ev_q1, ev_q2, ev_q3, ev_q4, ev_q5, ev_q6, ev_q7, ev_q8, ev_q9, ev_q10, ev_q11, ev_q12, constK_eq]
  | .Attribute _ _ _, l, σ, t, k => rfl
  | .Subscript o i _, l, σ, t, k => by simp only [evK_q0, evK_q1, evK_q2, evK_q3, evK_q4, evK_q5, evK_q6, evK_q7, evK_q8, evK_q9, evK_q10, evK_q11, evK_q12, ev_q0, ev_q1, ev_q2, ev_q3, ev_q4, ev_q5, ev_q6, ev_q7, ev_q8, ev_q9, ev_q10, ev_q11, ev_q12, pk_bind, evK_eq sc o, evK_eq sc i]
  | .Starred _ _, l, σ, t, k => rfl
  | .Name x _, l, σ, t, k => by simp only [evK_q0, evK_q1, evK_q2, evK_q3, evK_q4, evK_q5, evK_q6, evK_q7, evK_q8, evK_q9, evK_q10, evK_q11, evK_q12, ev_q0, ev_q1, ev_q2, ev_q3, ev_q4, ev_q5, ev_q6, ev_q7, ev_q8, ev_q9, ev_q10, ev_q11, ev_q12, nameK_eq]
  | .List es _, l, σ, t, k => by simp only [evK_q0, evK_q1, evK_q2, evK_q3, evK_q4, evK_q5, evK_q6, evK_q7, evK_q8, evK_q9, evK_q10, evK_q11, evK_q12, ev_q0, ev_q1, ev_q2, ev_q3, ev_q4, ev_q5, ev_q6, ev_q7, ev_q8, ev_q9, ev_q10, ev_q11, ev_q12, pk_bind, evsK_eq sc es]
  | .Tuple es _ _, l, σ, t, k => by simp only [evK_q0, evK_q1, evK_q2, evK_q3, evK_q4, evK_q5, evK_q6, evK_q7, evK_q8, evK_q9, evK_q10, evK_q11, evK_q12, ev_q0, ev_q1, ev_q2, ev_q3, ev_q4, ev_q5, ev_q6, ev_q7, ev_q8, ev_q9, ev_q10, ev_q11, ev_q12, pk_bind, evsK_eq sc es]
  | .Slice lo hi st _, l, σ, t, k => by
    cases st with
    | none => simp only [evK_q0, evK_q1, evK_q2, evK_q3, evK_q4, evK_q5, evK_q6, evK_q7, evK_q8, evK_q9, evK_q10, evK_q11, evK_q12, ev_q0, ev_q1, ev_q2, ev_q3, ev_q4, ev_q5, ev_q6, ev_q7, ev_q8, ev_q9, ev_q10, ev_q11, ev_q12, pk_bind, evOptK_eq sc lo, evOptK_eq sc hi]
    | some _ => simp only [evK_q0, evK_q1, evK_q2, evK_q3, evK_q4, evK_q5, evK_q6, evK_q7, evK_q8, evK_q9, evK_q10, evK_q11, evK_q12, ev_q0, ev_q1, ev_q2, ev_q3, ev_q4, ev_q5, ev_q6, ev_q7, ev_q8, ev_q9, ev_q10, ev_q11, ev_q12, pk_bad]
theorem evsK_eq {R : Type} (sc : Scope) : ∀ (es : List Expr) (l : Loc) (σ : Sto) (t : Ke R) (k : List AV → Sto → R), evsK P cf lv sc es l σ t k = pk t (evs P cf lv sc es l σ) k
  | [], l, σ, t, k => by simp only [evsK_q0, evsK_q1, evs_q0, evs_q1, pk_ok]
  | e :: r, l, σ, t, k => by simp only [evsK_q0, evsK_q1, evs_q0, evs_q1, pk_cond, pk_bad, pk_bind, evK_eq sc e, evsK_eq sc r, pk_ok]
theorem evOptK_eq {R : Type} (sc : Scope) : ∀ (e : Option Expr) (l : Loc) (σ : Sto) (t : Ke R) (k : AV → Sto → R), evOptK P cf lv sc e l σ t k = pk t (evOpt P cf lv sc e l σ) k
  | Option.none, l, σ, t, k => by simp only [evOptK_q0, evOptK_q1, evOpt_q0, evOpt_q1, pk_ok]
  | some e, l, σ, t, k => by simp only [evOptK_q0, evOptK_q1, evOpt_q0, evOpt_q1, evK_eq sc e]
theorem evBoolK_eq {R : Type} (sc : Scope) (op : BoolOp) : ∀ (es : List Expr) (l : Loc) (σ : Sto) (t : Ke R) (k : AV → Sto → R), evBoolK P cf lv sc op es l σ t k = pk t (evBool P cf lv sc op es l σ) k
  | [], l, σ, t, k => by simp only [evBoolK_q0, evBoolK_q1, evBoolK_q2, evBool_q0, evBool_q1, evBool_q2, pk_bad]
  | [e], l, σ, t, k => by simp only [evBoolK_q0, evBoolK_q1, evBoolK_q2, evBool_q0, evBool_q1, evBool_q2]; exact evK_eq sc e l σ t k
  | e :: f :: r, l, σ, t, k => by
    simp only [evBoolK_q0, evBoolK_q1, evBoolK_q2, evBool_q0, evBool_q1, evBool_q2, pk_bind, evK_eq sc e, evBoolK_eq sc op (f :: r)]
    congr 1; funext v σ; congr 1; funext b σ
    cases op <;> cases b <;> rfl
theorem evSrcK_eq {R : Type} (sc : Scope) : ∀ (e : Expr) (wk : Loc → Sto → Ke R → (AV → Sto → R) → R) (w : Loc → Sto → Out AV) (_ : ∀ l σ t k, wk l σ t k = pk t (w l σ) k) (l : Loc) (σ : Sto) (t : Ke R) (k : Src → Sto → R), evSrcK P cf lv sc e wk l σ t k = pk t (evSrc P cf lv sc e w l σ) k
  | .BoolOp _ _ _, wk, w, hw, l, σ, t, k => by first | rfl | simp only [evSrcK_q0, evSrcK_q1, evSrcK_q2, evSrc_q0, evSrc_q1, evSrc_q2, pk_bad, pk_bind, hw]
  | .NamedExpr _ _ _, wk, w, hw, l, σ, t, k => by first | rfl | simp only [evSrcK_q0, evSrcK_q1, evSrcK_q2, evSrc_q0, evSrc_q1, evSrc_q2, pk_bad, pk_bind, hw]
  | .BinOp _ _ _ _, wk, w, hw, l, σ, t, k => by first | rfl | simp only [evSrcK_q0, evSrcK_q1, evSrcK_q2, evSrc_q0, evSrc_q1, evSrc_q2, pk_bad, pk_bind, hw]
  | .UnaryOp _ _ _, wk, w, hw, l, σ, t, k => by first | rfl | simp only [evSrcK_q0, evSrcK_q1, evSrcK_q2, evSrc_q0, evSrc_q1, evSrc_q2, pk_bad, pk_bind, hw]
  | .Lambda _ _ _ _, wk, w, hw, l, σ, t, k => by first | rfl | simp only [evSrcK_q0, evSrcK_q1, evSrcK_q2, evSrc_q0, evSrc_q1, evSrc_q2, pk_bad, pk_bind, hw]
  | .IfExp _ _ _ _, wk, w, hw, l, σ, t, k => by first | rfl | simp only [evSrcK_q0, evSrcK_q1, evSrcK_q2, evSrc_q0, evSrc_q1, evSrc_q2, pk_bad, pk_bind, hw]
  | .Dict _ _ _, wk, w, hw, l, σ, t, k => by first | rfl | simp only [evSrcK_q0, evSrcK_q1, evSrcK_q2, evSrc_q0, evSrc_q1, evSrc_q2, pk_bad, pk_bind, hw]
  | .Set _ _ _, wk, w, hw, l, σ, t, k => by first | rfl | simp only [evSrcK_q0, evSrcK_q1, evSrcK_q2, evSrc_q0, evSrc_q1, evSrc_q2, pk_bad, pk_bind, hw]
  | .ListComp _ _ _ _, wk, w, hw, l, σ, t, k => by first | rfl | simp only [evSrcK_q0, evSrcK_q1, evSrcK_q2, evSrc_q0, evSrc_q1, evSrc_q2, pk_bad, pk_bind, hw]
  | .SetComp _ _ _ _, wk, w, hw, l, σ, t, k => by first | rfl | simp only [evSrcK_q0, evSrcK_q1, evSrcK_q2, evSrc_q0, evSrc_q1, evSrc_q2, pk_bad, pk_bind, hw]
  | .DictComp _ _ _ _ _, wk, w, hw, l, σ, t, k => by first | rfl | simp only [evSrcK_q0, evSrcK_q1, evSrcK_q2, evSrc_q0, evSrc_q1, evSrc_q2, pk_bad, pk_bind, hw]
  | .GeneratorExp _ _ _ _, wk, w, hw, l, σ, t, k => by first | rfl | simp only [evSrcK_q0, evSrcK_q1, evSrcK_q2, evSrc_q0, evSrc_q1, evSrc_q2, pk_bad, pk_bind, hw]
  | .Await _ _, wk, w, hw, l, σ, t, k => by first | rfl | simp only [evSrcK_q0, evSrcK_q1, evSrcK_q2, evSrc_q0, evSrc_q1, evSrc_q2, pk_bad, pk_bind, hw]
  | .Yield _ _, wk, w, hw, l, σ, t, k => by first | rfl | simp only [evSrcK_q0, evSrcK_q1, evSrcK_q2, evSrc_q0, evSrc_q1, evSrc_q2, pk_bad, pk_bind, hw]
  | .YieldFrom _ _, wk, w, hw, l, σ, t, k => by first | rfl | simp only [evSrcK_q0, evSrcK_q1, evSrcK_q2, evSrc_q0, evSrc_q1, evSrc_q2, pk_bad, pk_bind, hw]
  | .Compare _ _ _ _, wk, w, hw, l, σ, t, k => by first | rfl | simp only [evSrcK_q0, evSrcK_q1, evSrcK_q2, evSrc_q0, evSrc_q1, evSrc_q2, pk_bad, pk_bind, hw]
  | .Call f es ks _, wk, w, hw, l, σ, t, k => by
    have h1 := evsK_eq (R := R) sc es
    simp only [evSrcK_q0, evSrcK_q1, evSrcK_q2, evSrc_q0, evSrc_q1, evSrc_q2]
    cases ks with
    | cons _ _ => cases f <;> rfl
    | nil => cases f with
      | Name g p => simp only [pk_cond, pk_bind, h1, pk_bad]
      | _ => rfl
  | .FormattedValue _ _ _ _, wk, w, hw, l, σ, t, k => by first | rfl | simp only [evSrcK_q0, evSrcK_q1, evSrcK_q2, evSrc_q0, evSrc_q1, evSrc_q2, pk_bad, pk_bind, hw]
  | .JoinedStr _ _, wk, w, hw, l, σ, t, k => by first | rfl | simp only [evSrcK_q0, evSrcK_q1, evSrcK_q2, evSrc_q0, evSrc_q1, evSrc_q2, pk_bad, pk_bind, hw]
  | .Constant _ _ _, wk, w, hw, l, σ, t, k => by first | rfl | simp only [evSrcK_q0, evSrcK_q1, evSrcK_q2, evSrc_q0, evSrc_q1, evSrc_q2, pk_bad, pk_bind, hw]
  | .Attribute _ _ _, wk, w, hw, l, σ, t, k => by first | rfl | simp only [evSrcK_q0, evSrcK_q1, evSrcK_q2, evSrc_q0, evSrc_q1, evSrc_q2, pk_bad, pk_bind, hw]
  | .Subscript _ _ _, wk, w, hw, l, σ, t, k => by first | rfl | simp only [evSrcK_q0, evSrcK_q1, evSrcK_q2, evSrc_q0, evSrc_q1, evSrc_q2, pk_bad, pk_bind, hw]
  | .Starred _ _, wk, w, hw, l, σ, t, k => by first | rfl | simp only [evSrcK_q0, evSrcK_q1, evSrcK_q2, evSrc_q0, evSrc_q1, evSrc_q2, pk_bad, pk_bind, hw]
  | .Name _ _, wk, w, hw, l, σ, t, k => by first | rfl | simp only [evSrcK_q0, evSrcK_q1, evSrcK_q2, evSrc_q0, evSrc_q1, evSrc_q2, pk_bad, pk_bind, hw]
  | .List _ _, wk, w, hw, l, σ, t, k => by first | rfl | simp only [evSrcK_q0, evSrcK_q1, evSrcK_q2, evSrc_q0, evSrc_q1, evSrc_q2, pk_bad, pk_bind, hw]
  | .Tuple _ _ _, wk, w, hw, l, σ, t, k => by first | rfl | simp only [evSrcK_q0, evSrcK_q1, evSrcK_q2, evSrc_q0, evSrc_q1, evSrc_q2, pk_bad, pk_bind, hw]
  | .Slice _ _ _ _, wk, w, hw, l, σ, t, k => by first | rfl | simp only [evSrcK_q0, evSrcK_q1, evSrcK_q2, evSrc_q0, evSrc_q1, evSrc_q2, pk_bad, pk_bind, hw]
theorem evIfsK_eq {R : Type} (sc : Scope) : ∀ (es : List Expr) (l : Loc) (σ : Sto) (t : Ke R) (k : Bool → Sto → R), evIfsK P cf lv sc es l σ t k = pk t (evIfs P cf lv sc es l σ) k
  | [], l, σ, t, k => by simp only [evIfsK_q0, evIfsK_q1, evIfsK_q2, evIfs_q0, evIfs_q1, evIfs_q2, pk_ok]
  | [e], l, σ, t, k => by simp only [evIfsK_q0, evIfsK_q1, evIfsK_q2, evIfs_q0, evIfs_q1, evIfs_q2]; exact evTK_eq sc e _ _ (fun l σ t k => evK_eq sc e l σ t k) l σ t k
  | _ :: _ :: _, l, σ, t, k => by simp only [evIfsK_q0, evIfsK_q1, evIfsK_q2, evIfs_q0, evIfs_q1, evIfs_q2, pk_bad]
theorem evTK_eq {R : Type} (sc : Scope) : ∀ (e : Expr) (wk : Loc → Sto → Ke R → (AV → Sto → R) → R) (w : Loc → Sto → Out AV) (_ : ∀ l σ t k, wk l σ t k = pk t (w l σ) k) (l : Loc) (σ : Sto) (t : Ke R) (k : Bool → Sto → R), evTK P cf lv sc e wk l σ t k = pk t (evT P cf lv sc e w l σ) k
  | .BoolOp op vs _, wk, w, hw, l, σ, t, k => by first | rfl | simp only [evTK_q0, evTK_q1, evTK_q2, evTK_q3, evTK_q4, evTK_q5, evT_q0, evT_q1, evT_q2, evT_q3, evT_q4, evT_q5]; exact evTsK_eq sc op vs l σ t k
  | .NamedExpr _ _ _, wk, w, hw, l, σ, t, k => by first | rfl | simp only [evTK_q0, evTK_q1, evTK_q2, evTK_q3, evTK_q4, evTK_q5, evT_q0, evT_q1, evT_q2, evT_q3, evT_q4, evT_q5, pk_bad, pk_bind, hw]
  | .BinOp _ _ _ _, wk, w, hw, l, σ, t, k => by first | rfl | simp only [evTK_q0, evTK_q1, evTK_q2, evTK_q3, evTK_q4, evTK_q5, evT_q0, evT_q1, evT_q2, evT_q3, evT_q4, evT_q5, pk_bad, pk_bind, hw]
  | .UnaryOp op x _, wk, w, hw, l, σ, t, k => by
    have h1 := evTK_eq (R := R) sc x (fun l σ t k => evK P cf lv sc x l σ t k) (fun l σ => ev P cf lv sc x l σ) (fun l σ t k => evK_eq sc x l σ t k)
    cases op with
    | Not => simp only [evTK_q0, evTK_q1, evTK_q2, evTK_q3, evTK_q4, evTK_q5, evT_q0, evT_q1, evT_q2, evT_q3, evT_q4, evT_q5, h1, pk_bind, pk_ok]
    | _ => rfl
  | .Lambda _ _ _ _, wk, w, hw, l, σ, t, k => by first | rfl | simp only [evTK_q0, evTK_q1, evTK_q2, evTK_q3, evTK_q4, evTK_q5, evT_q0, evT_q1, evT_q2, evT_q3, evT_q4, evT_q5, pk_bad, pk_bind, hw]
  | .IfExp _ _ _ _, wk, w, hw, l, σ, t, k => by first | rfl | simp only [evTK_q0, evTK_q1, evTK_q2, evTK_q3, evTK_q4, evTK_q5, evT_q0, evT_q1, evT_q2, evT_q3, evT_q4, evT_q5, pk_bad, pk_bind, hw]
  | .Dict _ _ _, wk, w, hw, l, σ, t, k => by first | rfl | simp only [evTK_q0, evTK_q1, evTK_q2, evTK_q3, evTK_q4, evTK_q5, evT_q0, evT_q1, evT_q2, evT_q3, evT_q4, evT_q5, pk_bad, pk_bind, hw]
  | .Set _ _ _, wk, w, hw, l, σ, t, k => by first | rfl | simp only [evTK_q0, evTK_q1, evTK_q2, evTK_q3, evTK_q4, evTK_q5, evT_q0, evT_q1, evT_q2, evT_q3, evT_q4, evT_q5, pk_bad, pk_bind, hw]
  | .ListComp _ _ _ _, wk, w, hw, l, σ, t, k => by first | rfl | simp only [evTK_q0, evTK_q1, evTK_q2, evTK_q3, evTK_q4, evTK_q5, evT_q0, evT_q1, evT_q2, evT_q3, evT_q4, evT_q5, pk_bad, pk_bind, hw]
  | .SetComp _ _ _ _, wk, w, hw, l, σ, t, k => by first | rfl | simp only [evTK_q0, evTK_q1, evTK_q2, evTK_q3, evTK_q4, evTK_q5, evT_q0, evT_q1, evT_q2, evT_q3, evT_q4, evT_q5, pk_bad, pk_bind, hw]
  | .DictComp _ _ _ _ _, wk, w, hw, l, σ, t, k => by first | rfl | simp only [evTK_q0, evTK_q1, evTK_q2, evTK_q3, evTK_q4, evTK_q5, evT_q0, evT_q1, evT_q2, evT_q3, evT_q4, evT_q5, pk_bad, pk_bind, hw]
  | .GeneratorExp _ _ _ _, wk, w, hw, l, σ, t, k => by first | rfl | simp only [evTK_q0, evTK_q1, evTK_q2, evTK_q3, evTK_q4, evTK_q5, evT_q0, evT_q1, evT_q2, evT_q3, evT_q4, evT_q5, pk_bad, pk_bind, hw]
  | .Await _ _, wk, w, hw, l, σ, t, k => by first | rfl | simp only [evTK_q0, evTK_q1, evTK_q2, evTK_q3, evTK_q4, evTK_q5, evT_q0, evT_q1, evT_q2, evT_q3, evT_q4, evT_q5, pk_bad, pk_bind, hw]
  | .Yield _ _, wk, w, hw, l, σ, t, k => by first | rfl | simp only [evTK_q0, evTK_q1, evTK_q2, evTK_q3, evTK_q4, evTK_q5, evT_q0, evT_q1, evT_q2, evT_q3, evT_q4, evT_q5, pk_bad, pk_bind, hw]
  | .YieldFrom _ _, wk, w, hw, l, σ, t, k => by first | rfl | simp only [evTK_q0, evTK_q1, evTK_q2, evTK_q3, evTK_q4, evTK_q5, evT_q0, evT_q1, evT_q2, evT_q3, evT_q4, evT_q5, pk_bad, pk_bind, hw]
  | .Compare _ _ _ _, wk, w, hw, l, σ, t, k => by first | rfl | simp only [evTK_q0, evTK_q1, evTK_q2, evTK_q3, evTK_q4, evTK_q5, evT_q0, evT_q1, evT_q2, evT_q3, evT_q4, evT_q5, pk_bad, pk_bind, hw]
  | .Call _ _ _ _, wk, w, hw, l, σ, t, k => by first | rfl | simp only [evTK_q0, evTK_q1, evTK_q2, evTK_q3, evTK_q4, evTK_q5, evT_q0, evT_q1, evT_q2, evT_q3, evT_q4, evT_q5, pk_bad, pk_bind, hw]
  | .FormattedValue _ _ _ _, wk, w, hw, l, σ, t, k => by first | rfl | simp only [evTK_q0, evTK_q1, evTK_q2, evTK_q3, evTK_q4, evTK_q5, evT_q0, evT_q1, evT_q2, evT_q3, evT_q4, evT_q5, pk_bad, pk_bind, hw]
  | .JoinedStr _ _, wk, w, hw, l, σ, t, k => by first | rfl | simp only [evTK_q0, evTK_q1, evTK_q2, evTK_q3, evTK_q4, evTK_q5, evT_q0, evT_q1, evT_q2, evT_q3, evT_q4, evT_q5, pk_bad, pk_bind, hw]
  | .Constant _ _ _, wk, w, hw, l, σ, t, k => by first | rfl | simp only [evTK_q0, evTK_q1, evTK_q2, evTK_q3, evTK_q4, evTK_q5, evT_q0, evT_q1, evT_q2, evT_q3, evT_q4, evT_q5, pk_bad, pk_bind, hw]
  | .Attribute _ _ _, wk, w, hw, l, σ, t, k => by first | rfl | simp only [evTK_q0, evTK_q1, evTK_q2, evTK_q3, evTK_q4, evTK_q5, evT_q0, evT_q1, evT_q2, evT_q3, evT_q4, evT_q5, pk_bad, pk_bind, hw]
  | .Subscript _ _ _, wk, w, hw, l, σ, t, k => by first | rfl | simp only [evTK_q0, evTK_q1, evTK_q2, evTK_q3, evTK_q4, evTK_q5, evT_q0, evT_q1, evT_q2, evT_q3, evT_q4, evT_q5, pk_bad, pk_bind, hw]
  | .Starred _ _, wk, w, hw, l, σ, t, k => by first | rfl | simp only [evTK_q0, evTK_q1, evTK_q2, evTK_q3, evTK_q4, evTK_q5, evT_q0, evT_q1, evT_q2, evT_q3, evT_q4, evT_q5, pk_bad, pk_bind, hw]
  | .Name _ _, wk, w, hw, l, σ, t, k => by first | rfl | simp only [evTK_q0, evTK_q1, evTK_q2, evTK_q3, evTK_q4, evTK_q5, evT_q0, evT_q1, evT_q2, evT_q3, evT_q4, evT_q5, pk_bad, pk_bind, hw]
  | .List _ _, wk, w, hw, l, σ, t, k => by first | rfl | simp only [evTK_q0, evTK_q1, evTK_q2, evTK_q3, evTK_q4, evTK_q5, evT_q0, evT_q1, evT_q2, evT_q3, evT_q4, evT_q5, pk_bad, pk_bind, hw]
  | .Tuple _ _ _, wk, w, hw, l, σ, t, k => by first | rfl | simp only [evTK_q0, evTK_q1, evTK_q2, evTK_q3, evTK_q4, evTK_q5, evT_q0, evT_q1, evT_q2, evT_q3, evT_q4, evT_q5, pk_bad, pk_bind, hw]
  | .Slice _ _ _ _, wk, w, hw, l, σ, t, k => by first | rfl | simp only [evTK_q0, evTK_q1, evTK_q2, evTK_q3, evTK_q4, evTK_q5, evT_q0, evT_q1, evT_q2, evT_q3, evT_q4, evT_q5, pk_bad, pk_bind, hw]
theorem evTsK_eq {R : Type} (sc : Scope) (op : BoolOp) : ∀ (es : List Expr) (l : Loc) (σ : Sto) (t : Ke R) (k : Bool → Sto → R), evTsK P cf lv sc op es l σ t k = pk t (evTs P cf lv sc op es l σ) k
  | [], l, σ, t, k => by cases op <;> rfl
  | e :: r, l, σ, t, k => by
    have h1 := evTK_eq (R := R) sc e (fun l σ t k => evK P cf lv sc e l σ t k) (fun l σ => ev P cf lv sc e l σ) (fun l σ t k => evK_eq sc e l σ t k)
    simp only [evTsK_q0, evTsK_q1, evTs_q0, evTs_q1, pk_bind, h1, evTsK_eq sc op r]
    congr 1; funext b σ
    cases op <;> cases b <;> rfl
end
end

noncomputable def bindTK {R : Type} (P : Prog) (cf : Calls) (lv : Nat) (sc : Scope) (tg : Expr) (v : AV) (l : Loc) (σ : Sto) (t : Kt R) (k : Loc → Sto → R) : R := match tg with
  | .Name x _ => bif isLoc sc x then k (setL x v l) σ else t.bad
  | .Subscript o i _ => evK P cf lv sc o l σ (t.e l) fun ov σ => evK P cf lv sc i l σ (t.e l) fun iv σ => match setItem ov iv v σ with
    | some σ' => k l σ'
    | Option.none => t.bad
  | _ => t.bad

noncomputable def raiseK {R : Type} (P : Prog) (sc : Scope) (e : Expr) (lv : Nat) (l : Loc) (σ : Sto) (t : Kt R) : R := match raiseN P sc e with
  | some c => bif Nat.ble lv 1 then t.exc c l σ else t.bad
  | Option.none => t.bad
theorem raiseK_eq {R : Type} (P : Prog) (sc : Scope) (e : Expr) (lv : Nat) (l : Loc) (σ : Sto) (t : Kt R) (k : Loc → Sto → R) : raiseK P sc e lv l σ t = sk t (raiseA P sc e lv l σ) k := by
  unfold raiseK raiseA
  cases raiseN P sc e <;> cases Nat.ble lv 1 <;> rfl
mutual
noncomputable def exK {R : Type} (P : Prog) (cf : Calls) (sc : Scope) : Stmt → Nat → Loc → Sto → Kt R → (Loc → Sto → R) → R
  | .If c b o _ => fun lv l σ t k => pk (t.e l) (evTK P cf lv sc c (fun l σ t k => evK P cf lv sc c l σ t k) l σ (eE Bool) fun b σ => .ok b σ) fun c σ => bif c then exsK P cf sc b lv l σ t k else exsK P cf sc o lv l σ t k
  | .Return e _ => fun lv l σ t _ => match e with
    | some e => evK P cf lv sc e l σ (t.e l) fun v σ => t.ret v l σ
    | Option.none => t.bad
  | .Assign ts e _ => fun lv l σ t k => match ts with
    | [x] => bif okT sc x then evK P cf lv sc e l σ (t.e l) fun v σ => bindTK P cf lv sc x v l σ t k else t.bad
    | _ => t.bad
  | .Expr e _ => fun lv l σ t k => bif notComp e then evK P cf lv sc e l σ (t.e l) fun _ σ => k l σ else t.bad
  | .While c b o _ => fun lv l σ t k => match o with
    | [] => sk t (whileG (fun l σ => evTK P cf lv sc c (fun l σ t k => evK P cf lv sc c l σ t k) l σ (eE Bool) fun b σ => .ok b σ) (fun l σ => exsK P cf sc b lv l σ ktS fun l σ => .ok .next l σ) 1000 l σ) k
    | _ => t.bad
  | .For tg it b o _ => fun lv l σ t k => match tg, o with
    | .Name x _, [] => bif isLoc sc x then evSrcK P cf lv sc it (fun l σ t k => evK P cf lv sc it l σ t k) l σ (t.e l) fun s σ => sk t (forSrc lv (fun v l σ => exsK P cf sc b lv (setL x v l) σ ktS fun l σ => .ok .next l σ) s l σ) k else t.bad
    | _, _ => t.bad
  | .Raise e c _ => fun lv l σ t _ => match e, c with
    | some e, Option.none => raiseK P sc e lv l σ t
    | _, _ => t.bad
  | .Try b hs o f _ => fun lv l σ t k => match o, f with
    | [], [] => bif hs.isEmpty then t.bad else (match exsK P cf sc b lv l σ ktS fun l σ => .ok .next l σ with
      | .exc c l' σ' => exHK P cf sc hs lv c l' σ' t k
      | .ok f l' σ' => (match f with
        | .next => k l' σ'
        | .ret v => t.ret v l' σ')
      | .bad => t.bad)
    | _, _ => t.bad
  | _ => fun _ _ _ t _ => t.bad
noncomputable def exsK {R : Type} (P : Prog) (cf : Calls) (sc : Scope) : List Stmt → Nat → Loc → Sto → Kt R → (Loc → Sto → R) → R
  | [] => fun _ l σ _ k => k l σ
  | s :: r => fun lv l σ t k => exK P cf sc s lv l σ t fun l σ => exsK P cf sc r lv l σ t k
noncomputable def exHK {R : Type} (P : Prog) (cf : Calls) (sc : Scope) : List ExceptHandler → Nat → Str → Loc → Sto → Kt R → (Loc → Sto → R) → R
  | [] => fun _ _ _ _ t _ => t.bad
  | .ExceptHandler ty nm b _ :: r => fun lv c l σ t k => match ty with
    | some (.Name x _) =>
      bif !(isGlob sc x && P.cls x) then t.bad
      else bif P.sub c x then (match catchN nm sc c l with
        | some l₁ => bif b.isEmpty then t.bad else exsK P cf sc b (lv + 1) l₁ σ ⟨fun v l' σ' => t.ret v (unRet nm l') σ', fun _ _ _ => t.bad, t.bad⟩ fun l' σ' => (match nm with | Option.none => k l' σ' | some _ => t.bad)
        | Option.none => t.bad)
      else exHK P cf sc r lv c l σ t k
    | _ => t.bad
end
theorem exK_q0 {R : Type} (P : Prog) (cf : Calls) (sc : Scope) (c : Expr) (b o : List Stmt) (x1 : Pos) (lv : Nat) (l : Loc) (σ : Sto) (t : Kt R) (k : Loc → Sto → R) : exK P cf sc (.If c b o x1) lv l σ t k =
    (pk (t.e l) (evTK P cf lv sc c (fun l σ t k => evK P cf lv sc c l σ t k) l σ (eE Bool) fun b σ => .ok b σ) fun c σ => bif c then exsK P cf sc b lv l σ t k else exsK P cf sc o lv l σ t k) := rfl
theorem exK_q1 {R : Type} (P : Prog) (cf : Calls) (sc : Scope) (e : Option Expr) (x1 : Pos) (lv : Nat) (l : Loc) (σ : Sto) (t : Kt R) (k : Loc → Sto → R) : exK P cf sc (.Return e x1) lv l σ t k =
    (match e with
    | some e => evK P cf lv sc e l σ (t.e l) fun v σ => t.ret v l σ
    | Option.none => t.bad) := rfl
theorem exK_q2 {R : Type} (P : Prog) (cf : Calls) (sc : Scope) (ts : List Expr) (e : Expr) (x1 : Pos) (lv : Nat) (l : Loc) (σ : Sto) (t : Kt R) (k : Loc → Sto → R) : exK P cf sc (.Assign ts e x1) lv l σ t k =
    (match ts with
    | [x] => bif okT sc x then evK P cf lv sc e l σ (t.e l) fun v σ => bindTK P cf lv sc x v l σ t k else t.bad
    | _ => t.bad) := rfl
theorem exK_q3 {R : Type} (P : Prog) (cf : Calls) (sc : Scope) (e : Expr) (x1 : Pos) (lv : Nat) (l : Loc) (σ : Sto) (t : Kt R) (k : Loc → Sto → R) : exK P cf sc (.Expr e x1) lv l σ t k =
    (bif notComp e then evK P cf lv sc e l σ (t.e l) fun _ σ => k l σ else t.bad) := rfl
theorem exK_q4 {R : Type} (P : Prog) (cf : Calls) (sc : Scope) (c : Expr) (b o : List Stmt) (x1 : Pos) (lv : Nat) (l : Loc) (σ : Sto) (t : Kt R) (k : Loc → Sto → R) : exK P cf sc (.While c b o x1) lv l σ t k =
    (match o with
    | [] => sk t (whileG (fun l σ => evTK P cf lv sc c (fun l σ t k => evK P cf lv sc c l σ t k) l σ (eE Bool) fun b σ => .ok b σ) (fun l σ => exsK P cf sc b lv l σ ktS fun l σ => .ok .next l σ) 1000 l σ) k
    | _ => t.bad) := rfl
theorem exK_q5 {R : Type} (P : Prog) (cf : Calls) (sc : Scope) (tg it : Expr) (b o : List Stmt) (x1 : Pos) (lv : Nat) (l : Loc) (σ : Sto) (t : Kt R) (k : Loc → Sto → R) : exK P cf sc (.For tg it b o x1) lv l σ t k =
    (match tg, o with
    | .Name x _, [] => bif isLoc sc x then evSrcK P cf lv sc it (fun l σ t k => evK P cf lv sc it l σ t k) l σ (t.e l) fun s σ => sk t (forSrc lv (fun v l σ => exsK P cf sc b lv (setL x v l) σ ktS fun l σ => .ok .next l σ) s l σ) k else t.bad
    | _, _ => t.bad) := rfl
theorem exK_q6 {R : Type} (P : Prog) (cf : Calls) (sc : Scope) (e c : Option Expr) (x1 : Pos) (lv : Nat) (l : Loc) (σ : Sto) (t : Kt R) (k : Loc → Sto → R) : exK P cf sc (.Raise e c x1) lv l σ t k =
    (match e, c with
    | some e, Option.none => raiseK P sc e lv l σ t
    | _, _ => t.bad) := rfl
theorem exK_q7 {R : Type} (P : Prog) (cf : Calls) (sc : Scope) (b : List Stmt) (hs : List ExceptHandler) (o f : List Stmt) (x1 : Pos) (lv : Nat) (l : Loc) (σ : Sto) (t : Kt R) (k : Loc → Sto → R) : exK P cf sc (.Try b hs o f x1) lv l σ t k =
    (match o, f with
    | [], [] => bif hs.isEmpty then t.bad else (match exsK P cf sc b lv l σ ktS fun l σ => .ok .next l σ with
      | .exc c l' σ' => exHK P cf sc hs lv c l' σ' t k
      | .ok f l' σ' => (match f with
        | .next => k l' σ'
        | .ret v => t.ret v l' σ')
      | .bad => t.bad)
    | _, _ => t.bad) := rfl
theorem exsK_q0 {R : Type} (P : Prog) (cf : Calls) (sc : Scope)  (lv : Nat) (l : Loc) (σ : Sto) (t : Kt R) (k : Loc → Sto → R) : exsK P cf sc [] lv l σ t k =
    (k l σ) := rfl
theorem exsK_q1 {R : Type} (P : Prog) (cf : Calls) (sc : Scope) (s : Stmt) (r : List Stmt) (lv : Nat) (l : Loc) (σ : Sto) (t : Kt R) (k : Loc → Sto → R) : exsK P cf sc (s :: r) lv l σ t k =
    (exK P cf sc s lv l σ t fun l σ => exsK P cf sc r lv l σ t k) := rfl
theorem exHK_q0 {R : Type} (P : Prog) (cf : Calls) (sc : Scope)  (lv : Nat) (c : Str) (l : Loc) (σ : Sto) (t : Kt R) (k : Loc → Sto → R) : exHK P cf sc [] lv c l σ t k =
    (t.bad) := rfl
theorem exHK_q1 {R : Type} (P : Prog) (cf : Calls) (sc : Scope) (ty : Option Expr) (nm : Option Str) (b : List Stmt) (x1 : Pos) (r : List ExceptHandler) (lv : Nat) (c : Str) (l : Loc) (σ : Sto) (t : Kt R) (k : Loc → Sto → R) : exHK P cf sc (.ExceptHandler ty nm b x1 :: r) lv c l σ t k =
    (match ty with
    | some (.Name x _) =>
      bif !(isGlob sc x && P.cls x) then t.bad
      else bif P.sub c x then (match catchN nm sc c l with
        | some l₁ => bif b.isEmpty then t.bad else exsK P cf sc b (lv + 1) l₁ σ ⟨fun v l' σ' => t.ret v (unRet nm l') σ', fun _ _ _ => t.bad, t.bad⟩ fun l' σ' => (match nm with | Option.none => k l' σ' | some _ => t.bad)
        | Option.none => t.bad)
      else exHK P cf sc r lv c l σ t k
    | _ => t.bad) := rfl

section
variable (P : Prog) (cf : Calls)
set_option linter.unusedSimpArgs false
theorem bindTK_eq {R : Type} (lv : Nat) (sc : Scope) (tg : Expr) (v : AV) (l : Loc) (σ : Sto) (t : Kt R) (k : Loc → Sto → R) : bindTK P cf lv sc tg v l σ t k = sk t (bindT P cf lv sc tg v l σ) k := by
  unfold bindTK bindT
  cases tg with
  | Name x p => simp only [sk_cond, sk_next, sk_bad]
  | Subscript o i p =>
    simp only [sk_inS, evK_eq]
    congr 1; funext ov σ; congr 1; funext iv σ
    cases setItem ov iv v σ <;> rfl
  | _ => rfl
mutual
theorem exK_eq {R : Type} (sc : Scope) : ∀ (s : Stmt) (lv : Nat) (l : Loc) (σ : Sto) (t : Kt R) (k : Loc → Sto → R), exK P cf sc s lv l σ t k = sk t (ex P cf sc s lv l σ) k
  | .FunctionDef _ _ _ _ _ _ _ _ _ _, lv, l, σ, t, k => rfl
  | .AsyncFunctionDef _ _ _ _ _ _ _ _ _ _, lv, l, σ, t, k => rfl
  | .ClassDef _ _ _ _ _ _ _ _ _ _ _, lv, l, σ, t, k => rfl
  | .Return e _, lv, l, σ, t, k => by
    cases e with
    | none => rfl
    | some e => simp only [exK_q0, exK_q1, exK_q2, exK_q3, exK_q4, exK_q5, exK_q6, exK_q7, ex_q0, ex_q1, ex_q2, ex_q3, ex_q4, ex_q5, ex_q6, ex_q7, sk_inS, evK_eq, sk_ret]
  | .Delete _ _, lv, l, σ, t, k => rfl
  | .Assign ts e _, lv, l, σ, t, k => by
    rcases ts with _ | ⟨x, _ | ⟨_, _⟩⟩
    · rfl
    · simp only [exK_q0, exK_q1, exK_q2, exK_q3, exK_q4, exK_q5, exK_q6, exK_q7, ex_q0, ex_q1, ex_q2, ex_q3, ex_q4, ex_q5, ex_q6, ex_q7, sk_cond, sk_bad, sk_inS, evK_eq, bindTK_eq]
    · rfl
  | .TypeAlias _ _ _ _ _ _ _, lv, l, σ, t, k => rfl
  | .AugAssign _ _ _ _, lv, l, σ, t, k => rfl
  | .AnnAssign _ _ _ _ _, lv, l, σ, t, k => rfl
  | .For tg it b o _, lv, l, σ, t, k => by
    have h1 := evSrcK_eq (R := R) P cf lv sc it (fun l σ t k => evK P cf lv sc it l σ t k) (fun l σ => ev P cf lv sc it l σ) (fun l σ t k => evK_eq P cf lv sc it l σ t k)
    have h2 : ∀ x, (fun v l σ => exsK P cf sc b lv (setL x v l) σ ktS fun l σ => .ok .next l σ) = fun v l σ => exs P cf sc b lv (setL x v l) σ := by
      intro x; funext v l σ
      rw [exsK_eq sc b, sk_self]
    simp only [exK_q0, exK_q1, exK_q2, exK_q3, exK_q4, exK_q5, exK_q6, exK_q7, ex_q0, ex_q1, ex_q2, ex_q3, ex_q4, ex_q5, ex_q6, ex_q7]
    cases o with
    | cons _ _ => cases tg <;> rfl
    | nil => cases tg with
      | Name x p => simp only [sk_cond, sk_inS, h1, h2, sk_bad]
      | _ => rfl
  | .AsyncFor _ _ _ _ _, lv, l, σ, t, k => rfl
  | .While c b o _, lv, l, σ, t, k => by
    have h1 : (fun l σ => evTK P cf lv sc c (fun l σ t k => evK P cf lv sc c l σ t k) l σ (eE Bool) fun b σ => .ok b σ) = fun l σ => evT P cf lv sc c (fun l σ => ev P cf lv sc c l σ) l σ := by
      funext l σ
      rw [evTK_eq P cf lv sc c _ _ (fun l σ t k => evK_eq P cf lv sc c l σ t k), pk_bindE]
      cases evT P cf lv sc c (fun l σ => ev P cf lv sc c l σ) l σ <;> rfl
    have h2 : (fun l σ => exsK P cf sc b lv l σ ktS fun l σ => .ok .next l σ) = fun l σ => exs P cf sc b lv l σ := by
      funext l σ
      rw [exsK_eq sc b, sk_self]
    cases o with
    | nil => simp only [exK_q0, exK_q1, exK_q2, exK_q3, exK_q4, exK_q5, exK_q6, exK_q7, ex_q0, ex_q1, ex_q2, ex_q3, ex_q4, ex_q5, ex_q6, ex_q7, h1, h2]
    | cons _ _ => rfl
  | .If c b o _, lv, l, σ, t, k => by
    have h1 : (evTK P cf lv sc c (fun l σ t k => evK P cf lv sc c l σ t k) l σ (eE Bool) fun b σ => .ok b σ) = evT P cf lv sc c (fun l σ => ev P cf lv sc c l σ) l σ := by
      rw [evTK_eq P cf lv sc c _ _ (fun l σ t k => evK_eq P cf lv sc c l σ t k), pk_bindE]
      cases evT P cf lv sc c (fun l σ => ev P cf lv sc c l σ) l σ <;> rfl
    simp only [exK_q0, exK_q1, exK_q2, exK_q3, exK_q4, exK_q5, exK_q6, exK_q7, ex_q0, ex_q1, ex_q2, ex_q3, ex_q4, ex_q5, ex_q6, ex_q7, h1, sk_inS, sk_cond, exsK_eq sc b, exsK_eq sc o]
  | .With _ _ _, lv, l, σ, t, k => rfl
  | .AsyncWith _ _ _, lv, l, σ, t, k => rfl
  | .Match _ _ _, lv, l, σ, t, k => rfl
  | .Raise e c _, lv, l, σ, t, k => by
    cases e <;> cases c <;> first | rfl | (simp only [exK_q0, exK_q1, exK_q2, exK_q3, exK_q4, exK_q5, exK_q6, exK_q7, ex_q0, ex_q1, ex_q2, ex_q3, ex_q4, ex_q5, ex_q6, ex_q7]; exact raiseK_eq _ _ _ _ _ _ _ _)
  | .Try b hs o f _, lv, l, σ, t, k => by
    have h2 : (exsK P cf sc b lv l σ ktS fun l σ => .ok .next l σ) = exs P cf sc b lv l σ := by rw [exsK_eq sc b, sk_self]
    have h3 := exHK_eq (R := R) sc hs
    cases o with
    | cons _ _ => rfl
    | nil => cases f with
      | cons _ _ => rfl
      | nil =>
        simp only [exK_q0, exK_q1, exK_q2, exK_q3, exK_q4, exK_q5, exK_q6, exK_q7, ex_q0, ex_q1, ex_q2, ex_q3, ex_q4, ex_q5, ex_q6, ex_q7, h2, sk_cond, sk_bad]
        congr 1
        rcases exs P cf sc b lv l σ with ⟨_ | _, _, _⟩ | _ | _ <;> first | rfl | exact h3 _ _ _ _ _ _
  | .TryStar _ _ _ _ _, lv, l, σ, t, k => rfl
  | .Assert _ _ _, lv, l, σ, t, k => rfl
  | .Import _ _, lv, l, σ, t, k => rfl
  | .ImportFrom _ _ _ _, lv, l, σ, t, k => rfl
  | .Global _ _, lv, l, σ, t, k => rfl
  | .Nonlocal _ _, lv, l, σ, t, k => rfl
  | .Expr e _, lv, l, σ, t, k => by simp only [exK_q0, exK_q1, exK_q2, exK_q3, exK_q4, exK_q5, exK_q6, exK_q7, ex_q0, ex_q1, ex_q2, ex_q3, ex_q4, ex_q5, ex_q6, ex_q7, sk_cond, sk_bad, sk_inS, evK_eq, sk_next]
  | .Pass _, lv, l, σ, t, k => rfl
  | .Break _, lv, l, σ, t, k => rfl
  | .Continue _, lv, l, σ, t, k => rfl
theorem exsK_eq {R : Type} (sc : Scope) : ∀ (s : List Stmt) (lv : Nat) (l : Loc) (σ : Sto) (t : Kt R) (k : Loc → Sto → R), exsK P cf sc s lv l σ t k = sk t (exs P cf sc s lv l σ) k
  | [], lv, l, σ, t, k => by simp only [exsK_q0, exsK_q1, exs_q0, exs_q1, sk_next]
  | s :: r, lv, l, σ, t, k => by simp only [exsK_q0, exsK_q1, exs_q0, exs_q1, sk_andThen, exK_eq sc s, exsK_eq sc r]
theorem exHK_eq {R : Type} (sc : Scope) : ∀ (hs : List ExceptHandler) (lv : Nat) (c : Str) (l : Loc) (σ : Sto) (t : Kt R) (k : Loc → Sto → R), exHK P cf sc hs lv c l σ t k = sk t (exH P cf sc hs lv c l σ) k
  | [], lv, c, l, σ, t, k => by simp only [exHK_q0, exHK_q1, exH_q0, exH_q1, sk_bad]
  | .ExceptHandler ty nm b _ :: r, lv, c, l, σ, t, k => by
    have h1 := exsK_eq (R := R) sc b
    have h2 := exHK_eq (R := R) sc r
    simp only [exHK_q0, exHK_q1, exH_q0, exH_q1]
    cases ty with
    | none => rfl
    | some e => cases e with
      | Name x p =>
        simp only [sk_cond, h2, sk_bad]
        congr 2
        cases catchN nm sc c l with
        | none => rfl
        | some l₁ =>
          simp only [h1, sk_cond, sk_bad]
          congr 1
          rcases exs P cf sc b (lv + 1) l₁ σ with ⟨_ | _, _, _⟩ | _ | _ <;> first | rfl | (cases nm <;> rfl)
      | _ => rfl
end
end

/-- a call's body, by continuations -/
theorem callBody_K (P : Prog) (cf : Calls) (lv : Nat) (f : Str) (ps : List Str) (body : List Stmt) (sc : Scope) (vs : List AV) (σ : Sto) (h : P.fn f = some (ps, body, sc)) (hl : (ps.length == vs.length && fnFine ps sc) = true) :
    callBody P cf lv f vs σ = exsK P cf sc body lv (ps.zip vs) σ ktO fun _ σ => .ok .none σ := by
  rw [exsK_eq]
  unfold callBody
  rw [h]
  simp only [hl, cond_true]
  rcases exs P cf sc body lv (ps.zip vs) σ with ⟨_ | _, _, _⟩ | _ | _ <;> rfl
end Mine

/- P10 -/
set_option tactic.hygienic false
namespace Mine
open PySem
noncomputable def fnIn (f : Str) : List Stmt → Option (List Str × List Stmt × Scope)
  | [] => Option.none
  | .FunctionDef n a b _ _ _ sc _ _ _ :: r => bif n == f then some (a.args.map (·.arg), b, sc) else fnIn f r
  | _ :: r => fnIn f r
noncomputable def typs : List Str := ["int", "bool", "tuple", "ValueError", "TreeError", "NoKey", "NoPlace", "NotApart", "NotRising"]
noncomputable def blts : List Str := ["len", "isinstance", "int", "tuple", "list", "max", "sorted", "dict"]
noncomputable def PP : Prog where
  dicts := false
  fn := fun f => fnIn f PySem.Challenge.pw_uf010032_10.main.body
  sub := fun c t => c == t || t == "TreeError" || t == "ValueError"
  cls := fun c => c == "NotRising" || c == "NotApart" || c == "NoKey" || c == "TreeError" || c == "NoPlace"
  typ := fun c => typs.contains c
  known := fun f => blts.contains f || (fnIn f PySem.Challenge.pw_uf010032_10.main.body).isSome
end Mine

/- F10 -/
set_option tactic.hygienic false
namespace Mine
open PySem
set_option linter.unusedVariables false
set_option maxRecDepth 100000
/-- a continuation, kept out of simp's sight until it is reached -/
class Kn (α R : Type) where k : α → Sto → R
class Th (R : Type) where v : R
noncomputable def qk {α R : Type} (t : Ke R) (o : Out α) [f : Kn α R] : R := pk t o f.k
noncomputable def bq {R : Type} (c : Bool) [a : Th R] [b : Th R] : R := bif c then a.v else b.v
theorem size_of_K (cf : Calls) (lv : Nat) (tree_v : AV) (σ : Sto) : callBody PP cf lv "size_of" [tree_v] σ =
 (@qk _ _ (eE AV) (@qk _ _ (eE Bool) (cmpop .Is tree_v .none σ) (.mk fun v1001 σ1002 =>
 @qk _ _ (eE Bool) (truthO v1001 σ1002) (.mk fun b1003 σ1004 =>
 .ok b1003 σ1004))) (.mk fun c1005 σ1006 =>
 @bq _ (c1005) (.mk (.ok (.int 0) σ1006)) (.mk (@qk _ _ (eE AV) (item tree_v (.int 5) σ1006) (.mk fun v1007 σ1008 =>
 .ok v1007 σ1008)))) : Out AV) := by
  rw [callBody_K PP cf lv "size_of" _ _ _ _ _ rfl rfl]
  kernel_rfl

theorem knot_K (cf : Calls) (lv : Nat) (paint_v left_v key_v thing_v right_v : AV) (σ : Sto) : callBody PP cf lv "knot" [paint_v, left_v, key_v, thing_v, right_v] σ =
 (@qk _ _ (eE AV) (cf lv "size_of" [left_v] σ) (.mk fun v1 σ2 =>
 @qk _ _ (eE AV) (binop .Add v1 (.int 1) σ2) (.mk fun v3 σ4 =>
 @qk _ _ (eE AV) (cf lv "size_of" [right_v] σ4) (.mk fun v5 σ6 =>
 @qk _ _ (eE AV) (binop .Add v3 v5 σ6) (.mk fun v7 σ8 =>
 .ok (.tup [paint_v, left_v, key_v, thing_v, right_v, v7]) σ8)))) : Out AV) := by
  rw [callBody_K PP cf lv "knot" _ _ _ _ _ rfl rfl]
  kernel_rfl

theorem is_painted_K (cf : Calls) (lv : Nat) (tree_v : AV) (σ : Sto) : callBody PP cf lv "is_painted" [tree_v] σ =
 (@qk _ _ (eE AV) (cmpop .IsNot tree_v .none σ) (.mk fun v1 σ2 =>
 @qk _ _ (eE AV) (truthO v1 σ2) (.mk fun b3 σ4 =>
 @bq _ (b3) (.mk (@qk _ _ (eE AV) (item tree_v (.int 0) σ4) (.mk fun v5 σ6 =>
 .ok v5 σ6))) (.mk (.ok v1 σ4)))) : Out AV) := by
  rw [callBody_K PP cf lv "is_painted" _ _ _ _ _ rfl rfl]
  kernel_rfl

theorem unpainted_K (cf : Calls) (lv : Nat) (tree_v : AV) (σ : Sto) : callBody PP cf lv "unpainted" [tree_v] σ =
 (@qk _ _ (eE AV) (@qk _ _ (eE Bool) (cf lv "is_painted" [tree_v] σ) (.mk fun v1001 σ1002 =>
 @qk _ _ (eE Bool) (truthO v1001 σ1002) (.mk fun b1003 σ1004 =>
 .ok b1003 σ1004))) (.mk fun c1005 σ1006 =>
 @bq _ (c1005) (.mk (@qk _ _ (eE AV) (item tree_v (.int 1) σ1006) (.mk fun v1007 σ1008 =>
 @qk _ _ (eE AV) (item tree_v (.int 2) σ1008) (.mk fun v1009 σ1010 =>
 @qk _ _ (eE AV) (item tree_v (.int 3) σ1010) (.mk fun v1011 σ1012 =>
 @qk _ _ (eE AV) (item tree_v (.int 4) σ1012) (.mk fun v1013 σ1014 =>
 @qk _ _ (eE AV) (cf lv "knot" [(.bool false), v1007, v1009, v1011, v1013] σ1014) (.mk fun v1015 σ1016 =>
 .ok v1015 σ1016))))))) (.mk (.ok tree_v σ1006))) : Out AV) := by
  rw [callBody_K PP cf lv "unpainted" _ _ _ _ _ rfl rfl]
  kernel_rfl

theorem hung_right_K (cf : Calls) (lv : Nat) (one_v height_v key_v thing_v other_v wanted_v : AV) (σ : Sto) : callBody PP cf lv "hung_right" [one_v, height_v, key_v, thing_v, other_v, wanted_v] σ =
 (@qk _ _ (eE AV) (@qk _ _ (eE Bool) (cmpop .Eq height_v wanted_v σ) (.mk fun v1001 σ1002 =>
 @qk _ _ (eE Bool) (truthO v1001 σ1002) (.mk fun b1003 σ1004 =>
 @bq _ (b1003) (.mk (@qk _ _ (eE Bool) (cf lv "is_painted" [one_v] σ1004) (.mk fun v1005 σ1006 =>
 @qk _ _ (eE Bool) (truthO v1005 σ1006) (.mk fun b1007 σ1008 =>
 @bq _ ((!b1007)) (.mk (.ok true σ1008)) (.mk (.ok false σ1008)))))) (.mk (.ok false σ1004))))) (.mk fun c1009 σ1010 =>
 @bq _ (c1009) (.mk (@qk _ _ (eE AV) (cf lv "knot" [(.bool true), one_v, key_v, thing_v, other_v] σ1010) (.mk fun v1011 σ1012 =>
 .ok v1011 σ1012))) (.mk (@qk _ _ (eE AV) (@qk _ _ (eE Bool) (item one_v (.int 0) σ1010) (.mk fun v2013 σ2014 =>
 @qk _ _ (eE Bool) (truthO v2013 σ2014) (.mk fun b2015 σ2016 =>
 .ok (!b2015) σ2016))) (.mk fun c2017 σ2018 =>
 @bq _ (c2017) (.mk (@qk _ _ (eE AV) (binop .Sub height_v (.int 1) σ2018) (.mk fun v2019 σ2020 =>
 @qk _ _ (eE AV) (item one_v (.int 4) σ2020) (.mk fun v2021 σ2022 =>
 @qk _ _ (eE AV) (cf lv "hung_right" [v2021, v2019, key_v, thing_v, other_v, wanted_v] σ2022) (.mk fun v2023 σ2024 =>
 @qk _ _ (eE AV) (@qk _ _ (eE Bool) (item one_v (.int 0) σ2024) (.mk fun v3025 σ3026 =>
 @qk _ _ (eE Bool) (truthO v3025 σ3026) (.mk fun b3027 σ3028 =>
 @bq _ ((!b3027)) (.mk (@qk _ _ (eE Bool) (cf lv "is_painted" [v2023] σ3028) (.mk fun v3029 σ3030 =>
 @qk _ _ (eE Bool) (truthO v3029 σ3030) (.mk fun b3031 σ3032 =>
 @bq _ (b3031) (.mk (@qk _ _ (eE Bool) (item v2023 (.int 4) σ3032) (.mk fun v3033 σ3034 =>
 @qk _ _ (eE Bool) (cf lv "is_painted" [v3033] σ3034) (.mk fun v3035 σ3036 =>
 @qk _ _ (eE Bool) (truthO v3035 σ3036) (.mk fun b3037 σ3038 =>
 @bq _ (b3037) (.mk (.ok true σ3038)) (.mk (.ok false σ3038))))))) (.mk (.ok false σ3032)))))) (.mk (.ok false σ3028))))) (.mk fun c3039 σ3040 =>
 @bq _ (c3039) (.mk (@qk _ _ (eE AV) (item one_v (.int 1) σ3040) (.mk fun v3041 σ3042 =>
 @qk _ _ (eE AV) (item one_v (.int 2) σ3042) (.mk fun v3043 σ3044 =>
 @qk _ _ (eE AV) (item one_v (.int 3) σ3044) (.mk fun v3045 σ3046 =>
 @qk _ _ (eE AV) (item v2023 (.int 1) σ3046) (.mk fun v3047 σ3048 =>
 @qk _ _ (eE AV) (cf lv "knot" [(.bool false), v3041, v3043, v3045, v3047] σ3048) (.mk fun v3049 σ3050 =>
 @qk _ _ (eE AV) (item v2023 (.int 2) σ3050) (.mk fun v3051 σ3052 =>
 @qk _ _ (eE AV) (item v2023 (.int 3) σ3052) (.mk fun v3053 σ3054 =>
 @qk _ _ (eE AV) (item v2023 (.int 4) σ3054) (.mk fun v3055 σ3056 =>
 @qk _ _ (eE AV) (cf lv "unpainted" [v3055] σ3056) (.mk fun v3057 σ3058 =>
 @qk _ _ (eE AV) (cf lv "knot" [(.bool true), v3049, v3051, v3053, v3057] σ3058) (.mk fun v3059 σ3060 =>
 .ok v3059 σ3060)))))))))))) (.mk (@qk _ _ (eE AV) (item one_v (.int 0) σ3040) (.mk fun v3061 σ3062 =>
 @qk _ _ (eE AV) (item one_v (.int 1) σ3062) (.mk fun v3063 σ3064 =>
 @qk _ _ (eE AV) (item one_v (.int 2) σ3064) (.mk fun v3065 σ3066 =>
 @qk _ _ (eE AV) (item one_v (.int 3) σ3066) (.mk fun v3067 σ3068 =>
 @qk _ _ (eE AV) (cf lv "knot" [v3061, v3063, v3065, v3067, v2023] σ3068) (.mk fun v3069 σ3070 =>
 .ok v3069 σ3070))))))))))))) (.mk (@qk _ _ (eE AV) (item one_v (.int 4) σ2018) (.mk fun v3071 σ3072 =>
 @qk _ _ (eE AV) (cf lv "hung_right" [v3071, height_v, key_v, thing_v, other_v, wanted_v] σ3072) (.mk fun v3073 σ3074 =>
 @qk _ _ (eE AV) (@qk _ _ (eE Bool) (item one_v (.int 0) σ3074) (.mk fun v4075 σ4076 =>
 @qk _ _ (eE Bool) (truthO v4075 σ4076) (.mk fun b4077 σ4078 =>
 @bq _ ((!b4077)) (.mk (@qk _ _ (eE Bool) (cf lv "is_painted" [v3073] σ4078) (.mk fun v4079 σ4080 =>
 @qk _ _ (eE Bool) (truthO v4079 σ4080) (.mk fun b4081 σ4082 =>
 @bq _ (b4081) (.mk (@qk _ _ (eE Bool) (item v3073 (.int 4) σ4082) (.mk fun v4083 σ4084 =>
 @qk _ _ (eE Bool) (cf lv "is_painted" [v4083] σ4084) (.mk fun v4085 σ4086 =>
 @qk _ _ (eE Bool) (truthO v4085 σ4086) (.mk fun b4087 σ4088 =>
 @bq _ (b4087) (.mk (.ok true σ4088)) (.mk (.ok false σ4088))))))) (.mk (.ok false σ4082)))))) (.mk (.ok false σ4078))))) (.mk fun c4089 σ4090 =>
 @bq _ (c4089) (.mk (@qk _ _ (eE AV) (item one_v (.int 1) σ4090) (.mk fun v4091 σ4092 =>
 @qk _ _ (eE AV) (item one_v (.int 2) σ4092) (.mk fun v4093 σ4094 =>
 @qk _ _ (eE AV) (item one_v (.int 3) σ4094) (.mk fun v4095 σ4096 =>
 @qk _ _ (eE AV) (item v3073 (.int 1) σ4096) (.mk fun v4097 σ4098 =>
 @qk _ _ (eE AV) (cf lv "knot" [(.bool false), v4091, v4093, v4095, v4097] σ4098) (.mk fun v4099 σ4100 =>
 @qk _ _ (eE AV) (item v3073 (.int 2) σ4100) (.mk fun v4101 σ4102 =>
 @qk _ _ (eE AV) (item v3073 (.int 3) σ4102) (.mk fun v4103 σ4104 =>
 @qk _ _ (eE AV) (item v3073 (.int 4) σ4104) (.mk fun v4105 σ4106 =>
 @qk _ _ (eE AV) (cf lv "unpainted" [v4105] σ4106) (.mk fun v4107 σ4108 =>
 @qk _ _ (eE AV) (cf lv "knot" [(.bool true), v4099, v4101, v4103, v4107] σ4108) (.mk fun v4109 σ4110 =>
 .ok v4109 σ4110)))))))))))) (.mk (@qk _ _ (eE AV) (item one_v (.int 0) σ4090) (.mk fun v4111 σ4112 =>
 @qk _ _ (eE AV) (item one_v (.int 1) σ4112) (.mk fun v4113 σ4114 =>
 @qk _ _ (eE AV) (item one_v (.int 2) σ4114) (.mk fun v4115 σ4116 =>
 @qk _ _ (eE AV) (item one_v (.int 3) σ4116) (.mk fun v4117 σ4118 =>
 @qk _ _ (eE AV) (cf lv "knot" [v4111, v4113, v4115, v4117, v3073] σ4118) (.mk fun v4119 σ4120 =>
 .ok v4119 σ4120)))))))))))))))) : Out AV) := by
  rw [callBody_K PP cf lv "hung_right" _ _ _ _ _ rfl rfl]
  kernel_rfl

theorem hung_left_K (cf : Calls) (lv : Nat) (one_v wanted_v key_v thing_v other_v height_v : AV) (σ : Sto) : callBody PP cf lv "hung_left" [one_v, wanted_v, key_v, thing_v, other_v, height_v] σ =
 (@qk _ _ (eE AV) (@qk _ _ (eE Bool) (cmpop .Eq height_v wanted_v σ) (.mk fun v1001 σ1002 =>
 @qk _ _ (eE Bool) (truthO v1001 σ1002) (.mk fun b1003 σ1004 =>
 @bq _ (b1003) (.mk (@qk _ _ (eE Bool) (cf lv "is_painted" [other_v] σ1004) (.mk fun v1005 σ1006 =>
 @qk _ _ (eE Bool) (truthO v1005 σ1006) (.mk fun b1007 σ1008 =>
 @bq _ ((!b1007)) (.mk (.ok true σ1008)) (.mk (.ok false σ1008)))))) (.mk (.ok false σ1004))))) (.mk fun c1009 σ1010 =>
 @bq _ (c1009) (.mk (@qk _ _ (eE AV) (cf lv "knot" [(.bool true), one_v, key_v, thing_v, other_v] σ1010) (.mk fun v1011 σ1012 =>
 .ok v1011 σ1012))) (.mk (@qk _ _ (eE AV) (@qk _ _ (eE Bool) (item other_v (.int 0) σ1010) (.mk fun v2013 σ2014 =>
 @qk _ _ (eE Bool) (truthO v2013 σ2014) (.mk fun b2015 σ2016 =>
 .ok (!b2015) σ2016))) (.mk fun c2017 σ2018 =>
 @bq _ (c2017) (.mk (@qk _ _ (eE AV) (binop .Sub height_v (.int 1) σ2018) (.mk fun v2019 σ2020 =>
 @qk _ _ (eE AV) (item other_v (.int 1) σ2020) (.mk fun v2021 σ2022 =>
 @qk _ _ (eE AV) (cf lv "hung_left" [one_v, wanted_v, key_v, thing_v, v2021, v2019] σ2022) (.mk fun v2023 σ2024 =>
 @qk _ _ (eE AV) (@qk _ _ (eE Bool) (item other_v (.int 0) σ2024) (.mk fun v3025 σ3026 =>
 @qk _ _ (eE Bool) (truthO v3025 σ3026) (.mk fun b3027 σ3028 =>
 @bq _ ((!b3027)) (.mk (@qk _ _ (eE Bool) (cf lv "is_painted" [v2023] σ3028) (.mk fun v3029 σ3030 =>
 @qk _ _ (eE Bool) (truthO v3029 σ3030) (.mk fun b3031 σ3032 =>
 @bq _ (b3031) (.mk (@qk _ _ (eE Bool) (item v2023 (.int 1) σ3032) (.mk fun v3033 σ3034 =>
 @qk _ _ (eE Bool) (cf lv "is_painted" [v3033] σ3034) (.mk fun v3035 σ3036 =>
 @qk _ _ (eE Bool) (truthO v3035 σ3036) (.mk fun b3037 σ3038 =>
 @bq _ (b3037) (.mk (.ok true σ3038)) (.mk (.ok false σ3038))))))) (.mk (.ok false σ3032)))))) (.mk (.ok false σ3028))))) (.mk fun c3039 σ3040 =>
 @bq _ (c3039) (.mk (@qk _ _ (eE AV) (item v2023 (.int 4) σ3040) (.mk fun v3041 σ3042 =>
 @qk _ _ (eE AV) (item other_v (.int 2) σ3042) (.mk fun v3043 σ3044 =>
 @qk _ _ (eE AV) (item other_v (.int 3) σ3044) (.mk fun v3045 σ3046 =>
 @qk _ _ (eE AV) (item other_v (.int 4) σ3046) (.mk fun v3047 σ3048 =>
 @qk _ _ (eE AV) (cf lv "knot" [(.bool false), v3041, v3043, v3045, v3047] σ3048) (.mk fun v3049 σ3050 =>
 @qk _ _ (eE AV) (item v2023 (.int 1) σ3050) (.mk fun v3051 σ3052 =>
 @qk _ _ (eE AV) (cf lv "unpainted" [v3051] σ3052) (.mk fun v3053 σ3054 =>
 @qk _ _ (eE AV) (item v2023 (.int 2) σ3054) (.mk fun v3055 σ3056 =>
 @qk _ _ (eE AV) (item v2023 (.int 3) σ3056) (.mk fun v3057 σ3058 =>
 @qk _ _ (eE AV) (cf lv "knot" [(.bool true), v3053, v3055, v3057, v3049] σ3058) (.mk fun v3059 σ3060 =>
 .ok v3059 σ3060)))))))))))) (.mk (@qk _ _ (eE AV) (item other_v (.int 0) σ3040) (.mk fun v3061 σ3062 =>
 @qk _ _ (eE AV) (item other_v (.int 2) σ3062) (.mk fun v3063 σ3064 =>
 @qk _ _ (eE AV) (item other_v (.int 3) σ3064) (.mk fun v3065 σ3066 =>
 @qk _ _ (eE AV) (item other_v (.int 4) σ3066) (.mk fun v3067 σ3068 =>
 @qk _ _ (eE AV) (cf lv "knot" [v3061, v2023, v3063, v3065, v3067] σ3068) (.mk fun v3069 σ3070 =>
 .ok v3069 σ3070))))))))))))) (.mk (@qk _ _ (eE AV) (item other_v (.int 1) σ2018) (.mk fun v3071 σ3072 =>
 @qk _ _ (eE AV) (cf lv "hung_left" [one_v, wanted_v, key_v, thing_v, v3071, height_v] σ3072) (.mk fun v3073 σ3074 =>
 @qk _ _ (eE AV) (@qk _ _ (eE Bool) (item other_v (.int 0) σ3074) (.mk fun v4075 σ4076 =>
 @qk _ _ (eE Bool) (truthO v4075 σ4076) (.mk fun b4077 σ4078 =>
 @bq _ ((!b4077)) (.mk (@qk _ _ (eE Bool) (cf lv "is_painted" [v3073] σ4078) (.mk fun v4079 σ4080 =>
 @qk _ _ (eE Bool) (truthO v4079 σ4080) (.mk fun b4081 σ4082 =>
 @bq _ (b4081) (.mk (@qk _ _ (eE Bool) (item v3073 (.int 1) σ4082) (.mk fun v4083 σ4084 =>
 @qk _ _ (eE Bool) (cf lv "is_painted" [v4083] σ4084) (.mk fun v4085 σ4086 =>
 @qk _ _ (eE Bool) (truthO v4085 σ4086) (.mk fun b4087 σ4088 =>
 @bq _ (b4087) (.mk (.ok true σ4088)) (.mk (.ok false σ4088))))))) (.mk (.ok false σ4082)))))) (.mk (.ok false σ4078))))) (.mk fun c4089 σ4090 =>
 @bq _ (c4089) (.mk (@qk _ _ (eE AV) (item v3073 (.int 4) σ4090) (.mk fun v4091 σ4092 =>
 @qk _ _ (eE AV) (item other_v (.int 2) σ4092) (.mk fun v4093 σ4094 =>
 @qk _ _ (eE AV) (item other_v (.int 3) σ4094) (.mk fun v4095 σ4096 =>
 @qk _ _ (eE AV) (item other_v (.int 4) σ4096) (.mk fun v4097 σ4098 =>
 @qk _ _ (eE AV) (cf lv "knot" [(.bool false), v4091, v4093, v4095, v4097] σ4098) (.mk fun v4099 σ4100 =>
 @qk _ _ (eE AV) (item v3073 (.int 1) σ4100) (.mk fun v4101 σ4102 =>
 @qk _ _ (eE AV) (cf lv "unpainted" [v4101] σ4102) (.mk fun v4103 σ4104 =>
 @qk _ _ (eE AV) (item v3073 (.int 2) σ4104) (.mk fun v4105 σ4106 =>
 @qk _ _ (eE AV) (item v3073 (.int 3) σ4106) (.mk fun v4107 σ4108 =>
 @qk _ _ (eE AV) (cf lv "knot" [(.bool true), v4103, v4105, v4107, v4099] σ4108) (.mk fun v4109 σ4110 =>
 .ok v4109 σ4110)))))))))))) (.mk (@qk _ _ (eE AV) (item other_v (.int 0) σ4090) (.mk fun v4111 σ4112 =>
 @qk _ _ (eE AV) (item other_v (.int 2) σ4112) (.mk fun v4113 σ4114 =>
 @qk _ _ (eE AV) (item other_v (.int 3) σ4114) (.mk fun v4115 σ4116 =>
 @qk _ _ (eE AV) (item other_v (.int 4) σ4116) (.mk fun v4117 σ4118 =>
 @qk _ _ (eE AV) (cf lv "knot" [v4111, v3073, v4113, v4115, v4117] σ4118) (.mk fun v4119 σ4120 =>
 .ok v4119 σ4120)))))))))))))))) : Out AV) := by
  rw [callBody_K PP cf lv "hung_left" _ _ _ _ _ rfl rfl]
  kernel_rfl

theorem bound_K (cf : Calls) (lv : Nat) (one_v key_v thing_v other_v : AV) (σ : Sto) : callBody PP cf lv "bound" [one_v, key_v, thing_v, other_v] σ =
 (@qk _ _ (eE AV) (cf lv "unpainted" [one_v] σ) (.mk fun v1 σ2 =>
 @qk _ _ (eE AV) (cf lv "unpainted" [other_v] σ2) (.mk fun v3 σ4 =>
 @qk _ _ (eE AV) (cf lv "height_of" [v1] σ4) (.mk fun v5 σ6 =>
 @qk _ _ (eE AV) (cf lv "height_of" [v3] σ6) (.mk fun v7 σ8 =>
 @qk _ _ (eE AV) (@qk _ _ (eE Bool) (cmpop .Eq v5 v7 σ8) (.mk fun v1009 σ1010 =>
 @qk _ _ (eE Bool) (truthO v1009 σ1010) (.mk fun b1011 σ1012 =>
 .ok b1011 σ1012))) (.mk fun c1013 σ1014 =>
 @bq _ (c1013) (.mk (@qk _ _ (eE AV) (cf lv "knot" [(.bool false), v1, key_v, thing_v, v3] σ1014) (.mk fun v1015 σ1016 =>
 .ok v1015 σ1016))) (.mk (@qk _ _ (eE AV) (@qk _ _ (eE Bool) (cmpop .Gt v5 v7 σ1014) (.mk fun v2017 σ2018 =>
 @qk _ _ (eE Bool) (truthO v2017 σ2018) (.mk fun b2019 σ2020 =>
 .ok b2019 σ2020))) (.mk fun c2021 σ2022 =>
 @bq _ (c2021) (.mk (@qk _ _ (eE AV) (cf lv "hung_right" [v1, v5, key_v, thing_v, v3, v7] σ2022) (.mk fun v2023 σ2024 =>
 @qk _ _ (eE AV) (cf lv "unpainted" [v2023] σ2024) (.mk fun v2025 σ2026 =>
 .ok v2025 σ2026)))) (.mk (@qk _ _ (eE AV) (cf lv "hung_left" [v1, v5, key_v, thing_v, v3, v7] σ2022) (.mk fun v2027 σ2028 =>
 @qk _ _ (eE AV) (cf lv "unpainted" [v2027] σ2028) (.mk fun v2029 σ2030 =>
 .ok v2029 σ2030)))))))))))) : Out AV) := by
  rw [callBody_K PP cf lv "bound" _ _ _ _ _ rfl rfl]
  kernel_rfl

theorem bound_alone_K (cf : Calls) (lv : Nat) (one_v other_v : AV) (σ : Sto) : callBody PP cf lv "bound_alone" [one_v, other_v] σ =
 (@qk _ _ (eE AV) (@qk _ _ (eE Bool) (cmpop .Is one_v .none σ) (.mk fun v1001 σ1002 =>
 @qk _ _ (eE Bool) (truthO v1001 σ1002) (.mk fun b1003 σ1004 =>
 .ok b1003 σ1004))) (.mk fun c1005 σ1006 =>
 @bq _ (c1005) (.mk (@qk _ _ (eE AV) (cf lv "unpainted" [other_v] σ1006) (.mk fun v1007 σ1008 =>
 .ok v1007 σ1008))) (.mk (@qk _ _ (eE AV) (@qk _ _ (eE Bool) (cmpop .Is other_v .none σ1006) (.mk fun v2009 σ2010 =>
 @qk _ _ (eE Bool) (truthO v2009 σ2010) (.mk fun b2011 σ2012 =>
 .ok b2011 σ2012))) (.mk fun c2013 σ2014 =>
 @bq _ (c2013) (.mk (@qk _ _ (eE AV) (cf lv "unpainted" [one_v] σ2014) (.mk fun v2015 σ2016 =>
 .ok v2015 σ2016))) (.mk (@qk _ _ (eE AV) (cf lv "greatest" [one_v] σ2014) (.mk fun v2017 σ2018 =>
 @qk _ _ (eE AV) (item v2017 (.int 2) σ2018) (.mk fun v2019 σ2020 =>
 @qk _ _ (eE AV) (cf lv "cut_at" [one_v, v2019] σ2020) (.mk fun v2021 σ2022 =>
 @qk _ _ (eE AV) (item v2021 (.int 0) σ2022) (.mk fun v2023 σ2024 =>
 @qk _ _ (eE AV) (item v2017 (.int 2) σ2024) (.mk fun v2025 σ2026 =>
 @qk _ _ (eE AV) (item v2017 (.int 3) σ2026) (.mk fun v2027 σ2028 =>
 @qk _ _ (eE AV) (cf lv "bound" [v2023, v2025, v2027, other_v] σ2028) (.mk fun v2029 σ2030 =>
 .ok v2029 σ2030))))))))))))) : Out AV) := by
  rw [callBody_K PP cf lv "bound_alone" _ _ _ _ _ rfl rfl]
  kernel_rfl

theorem laid_K (cf : Calls) (lv : Nat) (one_v other_v : AV) (σ : Sto) : callBody PP cf lv "laid" [one_v, other_v] σ =
 (@qk _ _ (eE AV) (@qk _ _ (eE Bool) (cmpop .IsNot one_v .none σ) (.mk fun v1001 σ1002 =>
 @qk _ _ (eE Bool) (truthO v1001 σ1002) (.mk fun b1003 σ1004 =>
 @bq _ (b1003) (.mk (@qk _ _ (eE Bool) (cmpop .IsNot other_v .none σ1004) (.mk fun v1005 σ1006 =>
 @qk _ _ (eE Bool) (truthO v1005 σ1006) (.mk fun b1007 σ1008 =>
 @bq _ (b1007) (.mk (@qk _ _ (eE Bool) (cf lv "greatest" [one_v] σ1008) (.mk fun v1009 σ1010 =>
 @qk _ _ (eE Bool) (item v1009 (.int 2) σ1010) (.mk fun v1011 σ1012 =>
 @qk _ _ (eE Bool) (cf lv "least" [other_v] σ1012) (.mk fun v1013 σ1014 =>
 @qk _ _ (eE Bool) (item v1013 (.int 2) σ1014) (.mk fun v1015 σ1016 =>
 @qk _ _ (eE Bool) (cmpop .GtE v1011 v1015 σ1016) (.mk fun v1017 σ1018 =>
 @qk _ _ (eE Bool) (truthO v1017 σ1018) (.mk fun b1019 σ1020 =>
 @bq _ (b1019) (.mk (.ok true σ1020)) (.mk (.ok false σ1020)))))))))) (.mk (.ok false σ1008)))))) (.mk (.ok false σ1004))))) (.mk fun c1021 σ1022 =>
 @bq _ (c1021) (.mk (@bq _ (Nat.ble lv 1) (.mk (.exc "NotApart" σ1022)) (.mk (.bad)))) (.mk (@qk _ _ (eE AV) (cf lv "bound_alone" [one_v, other_v] σ1022) (.mk fun v1023 σ1024 =>
 .ok v1023 σ1024)))) : Out AV) := by
  rw [callBody_K PP cf lv "laid" _ _ _ _ _ rfl rfl]
  kernel_rfl

theorem cut_at_K (cf : Calls) (lv : Nat) (tree_v key_v : AV) (σ : Sto) : callBody PP cf lv "cut_at" [tree_v, key_v] σ =
 (@qk _ _ (eE AV) (@qk _ _ (eE Bool) (cmpop .Is tree_v .none σ) (.mk fun v1001 σ1002 =>
 @qk _ _ (eE Bool) (truthO v1001 σ1002) (.mk fun b1003 σ1004 =>
 .ok b1003 σ1004))) (.mk fun c1005 σ1006 =>
 @bq _ (c1005) (.mk (.ok (.tup [.none, .none, .none]) σ1006)) (.mk (@qk _ _ (eE AV) (@qk _ _ (eE Bool) (item tree_v (.int 2) σ1006) (.mk fun v2007 σ2008 =>
 @qk _ _ (eE Bool) (cmpop .Eq key_v v2007 σ2008) (.mk fun v2009 σ2010 =>
 @qk _ _ (eE Bool) (truthO v2009 σ2010) (.mk fun b2011 σ2012 =>
 .ok b2011 σ2012)))) (.mk fun c2013 σ2014 =>
 @bq _ (c2013) (.mk (@qk _ _ (eE AV) (item tree_v (.int 1) σ2014) (.mk fun v2015 σ2016 =>
 @qk _ _ (eE AV) (cf lv "unpainted" [v2015] σ2016) (.mk fun v2017 σ2018 =>
 @qk _ _ (eE AV) (item tree_v (.int 2) σ2018) (.mk fun v2019 σ2020 =>
 @qk _ _ (eE AV) (item tree_v (.int 3) σ2020) (.mk fun v2021 σ2022 =>
 @qk _ _ (eE AV) (item tree_v (.int 4) σ2022) (.mk fun v2023 σ2024 =>
 @qk _ _ (eE AV) (cf lv "unpainted" [v2023] σ2024) (.mk fun v2025 σ2026 =>
 .ok (.tup [v2017, (.tup [v2019, v2021]), v2025]) σ2026)))))))) (.mk (@qk _ _ (eE AV) (@qk _ _ (eE Bool) (item tree_v (.int 2) σ2014) (.mk fun v3027 σ3028 =>
 @qk _ _ (eE Bool) (cmpop .Lt key_v v3027 σ3028) (.mk fun v3029 σ3030 =>
 @qk _ _ (eE Bool) (truthO v3029 σ3030) (.mk fun b3031 σ3032 =>
 .ok b3031 σ3032)))) (.mk fun c3033 σ3034 =>
 @bq _ (c3033) (.mk (@qk _ _ (eE AV) (item tree_v (.int 1) σ3034) (.mk fun v3035 σ3036 =>
 @qk _ _ (eE AV) (cf lv "cut_at" [v3035, key_v] σ3036) (.mk fun v3037 σ3038 =>
 @qk _ _ (eE AV) (item v3037 (.int 0) σ3038) (.mk fun v3039 σ3040 =>
 @qk _ _ (eE AV) (item v3037 (.int 1) σ3040) (.mk fun v3041 σ3042 =>
 @qk _ _ (eE AV) (item v3037 (.int 2) σ3042) (.mk fun v3043 σ3044 =>
 @qk _ _ (eE AV) (item tree_v (.int 2) σ3044) (.mk fun v3045 σ3046 =>
 @qk _ _ (eE AV) (item tree_v (.int 3) σ3046) (.mk fun v3047 σ3048 =>
 @qk _ _ (eE AV) (item tree_v (.int 4) σ3048) (.mk fun v3049 σ3050 =>
 @qk _ _ (eE AV) (cf lv "bound" [v3043, v3045, v3047, v3049] σ3050) (.mk fun v3051 σ3052 =>
 .ok (.tup [v3039, v3041, v3051]) σ3052))))))))))) (.mk (@qk _ _ (eE AV) (item tree_v (.int 4) σ3034) (.mk fun v3053 σ3054 =>
 @qk _ _ (eE AV) (cf lv "cut_at" [v3053, key_v] σ3054) (.mk fun v3055 σ3056 =>
 @qk _ _ (eE AV) (item tree_v (.int 1) σ3056) (.mk fun v3057 σ3058 =>
 @qk _ _ (eE AV) (item tree_v (.int 2) σ3058) (.mk fun v3059 σ3060 =>
 @qk _ _ (eE AV) (item tree_v (.int 3) σ3060) (.mk fun v3061 σ3062 =>
 @qk _ _ (eE AV) (item v3055 (.int 0) σ3062) (.mk fun v3063 σ3064 =>
 @qk _ _ (eE AV) (cf lv "bound" [v3057, v3059, v3061, v3063] σ3064) (.mk fun v3065 σ3066 =>
 @qk _ _ (eE AV) (item v3055 (.int 1) σ3066) (.mk fun v3067 σ3068 =>
 @qk _ _ (eE AV) (item v3055 (.int 2) σ3068) (.mk fun v3069 σ3070 =>
 .ok (.tup [v3065, v3067, v3069]) σ3070)))))))))))))))))) : Out AV) := by
  rw [callBody_K PP cf lv "cut_at" _ _ _ _ _ rfl rfl]
  kernel_rfl

theorem built_K (cf : Calls) (lv : Nat) (pairs_v low_v high_v levels_v : AV) (σ : Sto) : callBody PP cf lv "built" [pairs_v, low_v, high_v, levels_v] σ =
 (@qk _ _ (eE AV) (@qk _ _ (eE Bool) (cmpop .Eq low_v high_v σ) (.mk fun v1001 σ1002 =>
 @qk _ _ (eE Bool) (truthO v1001 σ1002) (.mk fun b1003 σ1004 =>
 .ok b1003 σ1004))) (.mk fun c1005 σ1006 =>
 @bq _ (c1005) (.mk (.ok .none σ1006)) (.mk (@qk _ _ (eE AV) (binop .Add low_v high_v σ1006) (.mk fun v1007 σ1008 =>
 @qk _ _ (eE AV) (binop .FloorDiv v1007 (.int 2) σ1008) (.mk fun v1009 σ1010 =>
 @qk _ _ (eE AV) (@qk _ _ (eE Bool) (cmpop .Eq levels_v (.int 0) σ1010) (.mk fun v2011 σ2012 =>
 @qk _ _ (eE Bool) (truthO v2011 σ2012) (.mk fun b2013 σ2014 =>
 .ok b2013 σ2014))) (.mk fun c2015 σ2016 =>
 @bq _ (c2015) (.mk (@qk _ _ (eE AV) (item pairs_v v1009 σ2016) (.mk fun v2017 σ2018 =>
 @qk _ _ (eE AV) (item v2017 (.int 0) σ2018) (.mk fun v2019 σ2020 =>
 @qk _ _ (eE AV) (item pairs_v v1009 σ2020) (.mk fun v2021 σ2022 =>
 @qk _ _ (eE AV) (item v2021 (.int 1) σ2022) (.mk fun v2023 σ2024 =>
 @qk _ _ (eE AV) (cf lv "knot" [(.bool true), .none, v2019, v2023, .none] σ2024) (.mk fun v2025 σ2026 =>
 .ok v2025 σ2026))))))) (.mk (@qk _ _ (eE AV) (binop .Sub levels_v (.int 1) σ2016) (.mk fun v2027 σ2028 =>
 @qk _ _ (eE AV) (cf lv "built" [pairs_v, low_v, v1009, v2027] σ2028) (.mk fun v2029 σ2030 =>
 @qk _ _ (eE AV) (binop .Add v1009 (.int 1) σ2030) (.mk fun v2031 σ2032 =>
 @qk _ _ (eE AV) (binop .Sub levels_v (.int 1) σ2032) (.mk fun v2033 σ2034 =>
 @qk _ _ (eE AV) (cf lv "built" [pairs_v, v2031, high_v, v2033] σ2034) (.mk fun v2035 σ2036 =>
 @qk _ _ (eE AV) (item pairs_v v1009 σ2036) (.mk fun v2037 σ2038 =>
 @qk _ _ (eE AV) (item v2037 (.int 0) σ2038) (.mk fun v2039 σ2040 =>
 @qk _ _ (eE AV) (item pairs_v v1009 σ2040) (.mk fun v2041 σ2042 =>
 @qk _ _ (eE AV) (item v2041 (.int 1) σ2042) (.mk fun v2043 σ2044 =>
 @qk _ _ (eE AV) (cf lv "knot" [(.bool false), v2029, v2039, v2043, v2035] σ2044) (.mk fun v2045 σ2046 =>
 .ok v2045 σ2046)))))))))))))))))) : Out AV) := by
  rw [callBody_K PP cf lv "built" _ _ _ _ _ rfl rfl]
  kernel_rfl

theorem law_cell_at_K (cf : Calls) (lv : Nat) (law_script_v law_k_v : AV) (σ : Sto) : callBody PP cf lv "_law_cell_at" [law_script_v, law_k_v] σ =
 (@qk _ _ (eE AV) (@qk _ _ (eE Bool) (callA PP cf lv "len" [law_script_v] σ) (.mk fun v1001 σ1002 =>
 @qk _ _ (eE Bool) (cmpop .Lt law_k_v v1001 σ1002) (.mk fun v1003 σ1004 =>
 @qk _ _ (eE Bool) (truthO v1003 σ1004) (.mk fun b1005 σ1006 =>
 .ok b1005 σ1006)))) (.mk fun c1007 σ1008 =>
 @bq _ (c1007) (.mk (@qk _ _ (eE AV) (item law_script_v law_k_v σ1008) (.mk fun v1009 σ1010 =>
 .ok v1009 σ1010))) (.mk (.ok (.int 0) σ1008))) : Out AV) := by
  rw [callBody_K PP cf lv "_law_cell_at" _ _ _ _ _ rfl rfl]
  kernel_rfl

theorem law_whole_K (cf : Calls) (lv : Nat) (law_told_v : AV) (σ : Sto) : callBody PP cf lv "_law_whole" [law_told_v] σ =
 (@qk _ _ (eE AV) (callA PP cf lv "isinstance" [law_told_v, (.typ "int")] σ) (.mk fun v1 σ2 =>
 @qk _ _ (eE AV) (truthO v1 σ2) (.mk fun b3 σ4 =>
 @bq _ (b3) (.mk (@qk _ _ (eE AV) (callA PP cf lv "isinstance" [law_told_v, (.typ "bool")] σ4) (.mk fun v5 σ6 =>
 @qk _ _ (eE AV) (unop .Not v5 σ6) (.mk fun v7 σ8 =>
 .ok v7 σ8)))) (.mk (.ok v1 σ4)))) : Out AV) := by
  rw [callBody_K PP cf lv "_law_whole" _ _ _ _ _ rfl rfl]
  kernel_rfl

theorem law_text_K (cf : Calls) (lv : Nat) (law_cell_v law_size_v : AV) (σ : Sto) : callBody PP cf lv "_law_text" [law_cell_v, law_size_v] σ =
 (@qk _ _ (eE AV) (binop .Add (.str " !\"#$&'()*+,-./0123456789:;<=>?@ABCDEFGHIJKLMNOPQRSTUVWXYZ[\\]^_`") (.str "abcdefghijklmnopqrstuvwxyz{|}~\n\t") σ) (.mk fun v1 σ2 =>
 @qk _ _ (eE AV) (binop .Add v1 v1 σ2) (.mk fun v3 σ4 =>
 @qk _ _ (eE AV) (binop .Mod law_cell_v (.int 96) σ4) (.mk fun v5 σ6 =>
 @qk _ _ (eE AV) (binop .Mod law_cell_v (.int 96) σ6) (.mk fun v7 σ8 =>
 @qk _ _ (eE AV) (binop .Add v7 law_size_v σ8) (.mk fun v9 σ10 =>
 @qk _ _ (eE AV) (slA v5 v9 σ10) (.mk fun v11 σ12 =>
 @qk _ _ (eE AV) (item v3 v11 σ12) (.mk fun v13 σ14 =>
 @qk _ _ (eE AV) (@qk _ _ (eE Bool) (binop .FloorDiv law_cell_v (.int 96) σ14) (.mk fun v1015 σ1016 =>
 @qk _ _ (eE Bool) (binop .Mod v1015 (.int 3) σ1016) (.mk fun v1017 σ1018 =>
 @qk _ _ (eE Bool) (cmpop .Eq v1017 (.int 1) σ1018) (.mk fun v1019 σ1020 =>
 @qk _ _ (eE Bool) (truthO v1019 σ1020) (.mk fun b1021 σ1022 =>
 .ok b1021 σ1022))))) (.mk fun c1023 σ1024 =>
 @bq _ (c1023) (.mk (@qk _ _ (eE AV) (unop .USub (.int 1) σ1024) (.mk fun v1025 σ1026 =>
 @qk _ _ (eE AV) (slA v1025 .none σ1026) (.mk fun v1027 σ1028 =>
 @qk _ _ (eE AV) (item v13 v1027 σ1028) (.mk fun v1029 σ1030 =>
 @qk _ _ (eE AV) (binop .Mult v1029 (.int 3) σ1030) (.mk fun v1031 σ1032 =>
 @qk _ _ (eE AV) (binop .Add v13 v1031 σ1032) (.mk fun v1033 σ1034 =>
 @qk _ _ (eE AV) (slA .none (.int 9) σ1034) (.mk fun v1035 σ1036 =>
 @qk _ _ (eE AV) (item v13 v1035 σ1036) (.mk fun v1037 σ1038 =>
 @qk _ _ (eE AV) (binop .Add v1033 v1037 σ1038) (.mk fun v1039 σ1040 =>
 .ok v1039 σ1040)))))))))) (.mk (.ok v13 σ1024)))))))))) : Out AV) := by
  rw [callBody_K PP cf lv "_law_text" _ _ _ _ _ rfl rfl]
  kernel_rfl

theorem law_rising_K (cf : Calls) (lv : Nat) (law_cell_v law_many_v : AV) (σ : Sto) : callBody PP cf lv "_law_rising" [law_cell_v, law_many_v] σ =
 (@qk _ _ (eE AV) (binop .FloorDiv law_cell_v (.int 7) σ) (.mk fun v1 σ2 =>
 @qk _ _ (eE AV) (binop .Mod v1 (.int 90) σ2) (.mk fun v3 σ4 =>
 @qk _ _ (eE AV) (binop .Add (.int 1) v3 σ4) (.mk fun v5 σ6 =>
 @qk _ _ (eE AV) (binop .FloorDiv law_cell_v (.int 7) σ6) (.mk fun v7 σ8 =>
 @qk _ _ (eE AV) (binop .Pow (.int 10) (.int 56) σ8) (.mk fun v9 σ10 =>
 @qk _ _ (eE AV) (binop .Mod v7 v9 σ10) (.mk fun v11 σ12 =>
 @qk _ _ (eE AV) (binop .Add (.int 1) v11 σ12) (.mk fun v13 σ14 =>
 @qk _ _ (eE AV) (newL [(.int 1), (.int 2), v5, v13] σ14) (.mk fun v15 σ16 =>
 @qk _ _ (eE AV) (binop .Mod law_cell_v (.int 4) σ16) (.mk fun v17 σ18 =>
 @qk _ _ (eE AV) (item v15 v17 σ18) (.mk fun v19 σ20 =>
 @qk _ _ (eE AV) (binop .FloorDiv law_cell_v (.int 4) σ20) (.mk fun v21 σ22 =>
 @qk _ _ (eE AV) (binop .Mod v21 (.int 41) σ22) (.mk fun v23 σ24 =>
 @qk _ _ (eE AV) (binop .Sub v23 (.int 20) σ24) (.mk fun v25 σ26 =>
 @qk _ _ (eE AV) (unop .USub (.int 7) σ26) (.mk fun v27 σ28 =>
 @qk _ _ (eE AV) (binop .FloorDiv law_cell_v (.int 4) σ28) (.mk fun v29 σ30 =>
 @qk _ _ (eE AV) (binop .Pow (.int 10) (.int 59) σ30) (.mk fun v31 σ32 =>
 @qk _ _ (eE AV) (binop .Mod v29 v31 σ32) (.mk fun v33 σ34 =>
 @qk _ _ (eE AV) (binop .Pow (.int 10) (.int 58) σ34) (.mk fun v35 σ36 =>
 @qk _ _ (eE AV) (binop .Mult (.int 5) v35 σ36) (.mk fun v37 σ38 =>
 @qk _ _ (eE AV) (binop .Sub v33 v37 σ38) (.mk fun v39 σ40 =>
 @qk _ _ (eE AV) (binop .Pow (.int 10) (.int 59) σ40) (.mk fun v41 σ42 =>
 @qk _ _ (eE AV) (unop .USub v41 σ42) (.mk fun v43 σ44 =>
 @qk _ _ (eE AV) (newL [v25, v27, v39, v43] σ44) (.mk fun v45 σ46 =>
 @qk _ _ (eE AV) (binop .FloorDiv law_cell_v (.int 5) σ46) (.mk fun v47 σ48 =>
 @qk _ _ (eE AV) (binop .Mod v47 (.int 4) σ48) (.mk fun v49 σ50 =>
 @qk _ _ (eE AV) (item v45 v49 σ50) (.mk fun v51 σ52 =>
 @qk _ _ (eE AV) (binop .FloorDiv law_cell_v (.int 11) σ52) (.mk fun v53 σ54 =>
 @qk _ _ (eE AV) (binop .Mod v53 (.int 9) σ54) (.mk fun v55 σ56 =>
 @qk _ _ (eE AV) (rangeOf [law_many_v] σ56) (.mk fun s57 σ58 =>
 @qk _ _ (eE AV) (cpSrc lv (fun x59 σ60 =>
 (@qk _ _ (eE (Option AV)) (binop .Mult v19 x59 σ60) (.mk fun v161 σ162 =>
 @qk _ _ (eE (Option AV)) (binop .Add v51 v161 σ162) (.mk fun v163 σ164 =>
 @qk _ _ (eE (Option AV)) (binop .Mult x59 x59 σ164) (.mk fun v165 σ166 =>
 @qk _ _ (eE (Option AV)) (binop .Mult v165 v55 σ166) (.mk fun v167 σ168 =>
 @qk _ _ (eE (Option AV)) (binop .FloorDiv v167 (.int 7) σ168) (.mk fun v169 σ170 =>
 @qk _ _ (eE (Option AV)) (binop .Add v163 v169 σ170) (.mk fun v171 σ172 =>
 @qk _ _ (eE (Option AV)) (binop .Add law_cell_v x59 σ172) (.mk fun v173 σ174 =>
 @qk _ _ (eE (Option AV)) (cf lv "_law_thing" [v173] σ174) (.mk fun v175 σ176 =>
 .ok (some (.tup [v171, v175])) σ176)))))))))) s57 σ58) (.mk fun xs177 σ178 =>
 @qk _ _ (eE AV) (newL xs177 σ178) (.mk fun v179 σ180 =>
 .ok v179 σ180))))))))))))))))))))))))))))))) : Out AV) := by
  rw [callBody_K PP cf lv "_law_rising" _ _ _ _ _ rfl rfl]
  kernel_rfl

theorem law_alike_K (cf : Calls) (lv : Nat) (law_told_v law_due_v : AV) (σ : Sto) : callBody PP cf lv "_law_alike" [law_told_v, law_due_v] σ =
 (@qk _ _ (eE AV) (@qk _ _ (eE Bool) (callA PP cf lv "isinstance" [law_due_v, (.typ "tuple")] σ) (.mk fun v1001 σ1002 =>
 @qk _ _ (eE Bool) (truthO v1001 σ1002) (.mk fun b1003 σ1004 =>
 .ok b1003 σ1004))) (.mk fun c1005 σ1006 =>
 @bq _ (c1005) (.mk (@qk _ _ (eE AV) (@qk _ _ (eE Bool) (callA PP cf lv "isinstance" [law_told_v, (.typ "tuple")] σ1006) (.mk fun v2007 σ2008 =>
 @qk _ _ (eE Bool) (truthO v2007 σ2008) (.mk fun b2009 σ2010 =>
 @bq _ ((!b2009)) (.mk (.ok true σ2010)) (.mk (@qk _ _ (eE Bool) (callA PP cf lv "len" [law_told_v] σ2010) (.mk fun v2011 σ2012 =>
 @qk _ _ (eE Bool) (callA PP cf lv "len" [law_due_v] σ2012) (.mk fun v2013 σ2014 =>
 @qk _ _ (eE Bool) (cmpop .NotEq v2011 v2013 σ2014) (.mk fun v2015 σ2016 =>
 @qk _ _ (eE Bool) (truthO v2015 σ2016) (.mk fun b2017 σ2018 =>
 @bq _ (b2017) (.mk (.ok true σ2018)) (.mk (.ok false σ2018))))))))))) (.mk fun c2019 σ2020 =>
 @bq _ (c2019) (.mk (.ok (.bool false) σ2020)) (.mk (@qk _ _ (eE AV) (callA PP cf lv "len" [law_due_v] σ2020) (.mk fun v2021 σ2022 =>
 @qk _ _ (eE AV) (rangeOf [v2021] σ2022) (.mk fun s2023 σ2024 =>
 @qk _ _ (eE AV) (cpSrc lv (fun x2025 σ2026 =>
 @qk _ _ (eE (Option AV)) (item law_told_v x2025 σ2026) (.mk fun v2127 σ2128 =>
 @qk _ _ (eE (Option AV)) (item law_due_v x2025 σ2128) (.mk fun v2129 σ2130 =>
 @qk _ _ (eE (Option AV)) (cf lv "_law_alike" [v2127, v2129] σ2130) (.mk fun v2131 σ2132 =>
 @qk _ _ (eE (Option AV)) (truthO v2131 σ2132) (.mk fun b2133 σ2134 =>
 @bq _ ((!b2133)) (.mk (.ok (some x2025) σ2134)) (.mk (.ok Option.none σ2134))))))) s2023 σ2024) (.mk fun xs2135 σ2136 =>
 @qk _ _ (eE AV) (newL xs2135 σ2136) (.mk fun v2137 σ2138 =>
 @qk _ _ (eE AV) (newL [] σ2138) (.mk fun v2139 σ2140 =>
 @qk _ _ (eE AV) (cmpop .Eq v2137 v2139 σ2140) (.mk fun v2141 σ2142 =>
 .ok v2141 σ2142))))))))))) (.mk (@qk _ _ (eE AV) (callA PP cf lv "isinstance" [law_told_v, (.typ "bool")] σ1006) (.mk fun v2143 σ2144 =>
 @qk _ _ (eE AV) (callA PP cf lv "isinstance" [law_due_v, (.typ "bool")] σ2144) (.mk fun v2145 σ2146 =>
 @qk _ _ (eE AV) (cmpop .Eq v2143 v2145 σ2146) (.mk fun v2147 σ2148 =>
 @qk _ _ (eE AV) (truthO v2147 σ2148) (.mk fun b2149 σ2150 =>
 @bq _ (b2149) (.mk (@qk _ _ (eE AV) (cmpop .Eq law_told_v law_due_v σ2150) (.mk fun v2151 σ2152 =>
 .ok v2151 σ2152))) (.mk (.ok v2147 σ2150))))))))) : Out AV) := by
  rw [callBody_K PP cf lv "_law_alike" _ _ _ _ _ rfl rfl]
  kernel_rfl

theorem law_same_K (cf : Calls) (lv : Nat) (law_pairs_here_v law_due_v : AV) (σ : Sto) : callBody PP cf lv "_law_same" [law_pairs_here_v, law_due_v] σ =
 (@qk _ _ (eE AV) (@qk _ _ (eE Bool) (callA PP cf lv "len" [law_pairs_here_v] σ) (.mk fun v1001 σ1002 =>
 @qk _ _ (eE Bool) (callA PP cf lv "len" [law_due_v] σ1002) (.mk fun v1003 σ1004 =>
 @qk _ _ (eE Bool) (cmpop .NotEq v1001 v1003 σ1004) (.mk fun v1005 σ1006 =>
 @qk _ _ (eE Bool) (truthO v1005 σ1006) (.mk fun b1007 σ1008 =>
 .ok b1007 σ1008))))) (.mk fun c1009 σ1010 =>
 @bq _ (c1009) (.mk (.ok (.bool false) σ1010)) (.mk (@qk _ _ (eE AV) (callA PP cf lv "len" [law_due_v] σ1010) (.mk fun v1011 σ1012 =>
 @qk _ _ (eE AV) (rangeOf [v1011] σ1012) (.mk fun s1013 σ1014 =>
 @qk _ _ (eE AV) (cpSrc lv (fun x1015 σ1016 =>
 @qk _ _ (eE (Option AV)) (item law_pairs_here_v x1015 σ1016) (.mk fun v1117 σ1118 =>
 @qk _ _ (eE (Option AV)) (item law_due_v x1015 σ1118) (.mk fun v1119 σ1120 =>
 @qk _ _ (eE (Option AV)) (cf lv "_law_alike" [v1117, v1119] σ1120) (.mk fun v1121 σ1122 =>
 @qk _ _ (eE (Option AV)) (truthO v1121 σ1122) (.mk fun b1123 σ1124 =>
 @bq _ ((!b1123)) (.mk (.ok (some x1015) σ1124)) (.mk (.ok Option.none σ1124))))))) s1013 σ1014) (.mk fun xs1125 σ1126 =>
 @qk _ _ (eE AV) (newL xs1125 σ1126) (.mk fun v1127 σ1128 =>
 @qk _ _ (eE AV) (newL [] σ1128) (.mk fun v1129 σ1130 =>
 @qk _ _ (eE AV) (cmpop .Eq v1127 v1129 σ1130) (.mk fun v1131 σ1132 =>
 .ok v1131 σ1132))))))))) : Out AV) := by
  rw [callBody_K PP cf lv "_law_same" _ _ _ _ _ rfl rfl]
  kernel_rfl

theorem law_seen_K (cf : Calls) (lv : Nat) (law_tree_v law_under_v law_pairs_here_v : AV) (σ : Sto) : callBody PP cf lv "_law_seen" [law_tree_v, law_under_v, law_pairs_here_v] σ =
 (@qk _ _ (eE AV) (@qk _ _ (eE Bool) (cmpop .Is law_tree_v .none σ) (.mk fun v1001 σ1002 =>
 @qk _ _ (eE Bool) (truthO v1001 σ1002) (.mk fun b1003 σ1004 =>
 .ok b1003 σ1004))) (.mk fun c1005 σ1006 =>
 @bq _ (c1005) (.mk (.ok (.int 0) σ1006)) (.mk (@qk _ _ (eE AV) (@qk _ _ (eE Bool) (callA PP cf lv "isinstance" [law_tree_v, (.typ "tuple")] σ1006) (.mk fun v2007 σ2008 =>
 @qk _ _ (eE Bool) (truthO v2007 σ2008) (.mk fun b2009 σ2010 =>
 @bq _ ((!b2009)) (.mk (.ok true σ2010)) (.mk (@qk _ _ (eE Bool) (callA PP cf lv "len" [law_tree_v] σ2010) (.mk fun v2011 σ2012 =>
 @qk _ _ (eE Bool) (cmpop .NotEq v2011 (.int 6) σ2012) (.mk fun v2013 σ2014 =>
 @qk _ _ (eE Bool) (truthO v2013 σ2014) (.mk fun b2015 σ2016 =>
 @bq _ (b2015) (.mk (.ok true σ2016)) (.mk (@qk _ _ (eE Bool) (item law_tree_v (.int 0) σ2016) (.mk fun v2017 σ2018 =>
 @qk _ _ (eE Bool) (callA PP cf lv "isinstance" [v2017, (.typ "bool")] σ2018) (.mk fun v2019 σ2020 =>
 @qk _ _ (eE Bool) (truthO v2019 σ2020) (.mk fun b2021 σ2022 =>
 @bq _ ((!b2021)) (.mk (.ok true σ2022)) (.mk (.ok false σ2022))))))))))))))) (.mk fun c2023 σ2024 =>
 @bq _ (c2023) (.mk (@qk _ _ (eE AV) (unop .USub (.int 1) σ2024) (.mk fun v2025 σ2026 =>
 .ok v2025 σ2026))) (.mk (@qk _ _ (eE AV) (@qk _ _ (eE Bool) (item law_tree_v (.int 0) σ2024) (.mk fun v3027 σ3028 =>
 @qk _ _ (eE Bool) (truthO v3027 σ3028) (.mk fun b3029 σ3030 =>
 @bq _ (b3029) (.mk (@qk _ _ (eE Bool) (truthO law_under_v σ3030) (.mk fun b3031 σ3032 =>
 @bq _ (b3031) (.mk ((.ok true σ3032))) (.mk (@bq _ (false) (.mk (.ok true σ3032)) (.mk (@qk _ _ (eE Bool) (item law_tree_v (.int 2) σ3032) (.mk fun v3045 σ3046 =>
 @qk _ _ (eE Bool) (cf lv "_law_whole" [v3045] σ3046) (.mk fun v3047 σ3048 =>
 @qk _ _ (eE Bool) (truthO v3047 σ3048) (.mk fun b3049 σ3050 =>
 @bq _ ((!b3049)) (.mk (.ok true σ3050)) (.mk (@qk _ _ (eE Bool) (item law_tree_v (.int 5) σ3050) (.mk fun v3051 σ3052 =>
 @qk _ _ (eE Bool) (cf lv "_law_whole" [v3051] σ3052) (.mk fun v3053 σ3054 =>
 @qk _ _ (eE Bool) (truthO v3053 σ3054) (.mk fun b3055 σ3056 =>
 @bq _ ((!b3055)) (.mk (.ok true σ3056)) (.mk (.ok false σ3056))))))))))))))))) (.mk (@bq _ (false) (.mk (.ok true σ3030)) (.mk (@qk _ _ (eE Bool) (item law_tree_v (.int 2) σ3030) (.mk fun v3057 σ3058 =>
 @qk _ _ (eE Bool) (cf lv "_law_whole" [v3057] σ3058) (.mk fun v3059 σ3060 =>
 @qk _ _ (eE Bool) (truthO v3059 σ3060) (.mk fun b3061 σ3062 =>
 @bq _ ((!b3061)) (.mk (.ok true σ3062)) (.mk (@qk _ _ (eE Bool) (item law_tree_v (.int 5) σ3062) (.mk fun v3063 σ3064 =>
 @qk _ _ (eE Bool) (cf lv "_law_whole" [v3063] σ3064) (.mk fun v3065 σ3066 =>
 @qk _ _ (eE Bool) (truthO v3065 σ3066) (.mk fun b3067 σ3068 =>
 @bq _ ((!b3067)) (.mk (.ok true σ3068)) (.mk (.ok false σ3068))))))))))))))))) (.mk fun c3069 σ3070 =>
 @bq _ (c3069) (.mk (@qk _ _ (eE AV) (unop .USub (.int 1) σ3070) (.mk fun v3071 σ3072 =>
 .ok v3071 σ3072))) (.mk (@qk _ _ (eE AV) (callA PP cf lv "len" [law_pairs_here_v] σ3070) (.mk fun v3073 σ3074 =>
 @qk _ _ (eE AV) (item law_tree_v (.int 1) σ3074) (.mk fun v3075 σ3076 =>
 @qk _ _ (eE AV) (item law_tree_v (.int 0) σ3076) (.mk fun v3077 σ3078 =>
 @qk _ _ (eE AV) (cf lv "_law_seen" [v3075, v3077, law_pairs_here_v] σ3078) (.mk fun v3079 σ3080 =>
 @bq _ (listB σ3080 law_pairs_here_v) (.mk (@qk _ _ (eE AV) (item law_tree_v (.int 2) σ3080) (.mk fun v3081 σ3082 =>
 @qk _ _ (eE AV) (item law_tree_v (.int 3) σ3082) (.mk fun v3083 σ3084 =>
 @qk _ _ (eE AV) (append law_pairs_here_v (.tup [v3081, v3083]) σ3084) (.mk fun v3085 σ3086 =>
 @qk _ _ (eE AV) (item law_tree_v (.int 4) σ3086) (.mk fun v3087 σ3088 =>
 @qk _ _ (eE AV) (item law_tree_v (.int 0) σ3088) (.mk fun v3089 σ3090 =>
 @qk _ _ (eE AV) (cf lv "_law_seen" [v3087, v3089, law_pairs_here_v] σ3090) (.mk fun v3091 σ3092 =>
 @qk _ _ (eE AV) (@qk _ _ (eE Bool) (cmpop .Lt v3079 (.int 0) σ3092) (.mk fun v4093 σ4094 =>
 @qk _ _ (eE Bool) (truthO v4093 σ4094) (.mk fun b4095 σ4096 =>
 @bq _ (b4095) (.mk (.ok true σ4096)) (.mk (@qk _ _ (eE Bool) (cmpop .NotEq v3079 v3091 σ4096) (.mk fun v4097 σ4098 =>
 @qk _ _ (eE Bool) (truthO v4097 σ4098) (.mk fun b4099 σ4100 =>
 @bq _ (b4099) (.mk (.ok true σ4100)) (.mk (@qk _ _ (eE Bool) (item law_tree_v (.int 5) σ4100) (.mk fun v4101 σ4102 =>
 @qk _ _ (eE Bool) (callA PP cf lv "len" [law_pairs_here_v] σ4102) (.mk fun v4103 σ4104 =>
 @qk _ _ (eE Bool) (binop .Sub v4103 v3073 σ4104) (.mk fun v4105 σ4106 =>
 @qk _ _ (eE Bool) (cmpop .NotEq v4101 v4105 σ4106) (.mk fun v4107 σ4108 =>
 @qk _ _ (eE Bool) (truthO v4107 σ4108) (.mk fun b4109 σ4110 =>
 @bq _ (b4109) (.mk (.ok true σ4110)) (.mk (.ok false σ4110)))))))))))))))) (.mk fun c4111 σ4112 =>
 @bq _ (c4111) (.mk (@qk _ _ (eE AV) (unop .USub (.int 1) σ4112) (.mk fun v4113 σ4114 =>
 .ok v4113 σ4114))) (.mk (@qk _ _ (eE AV) (item law_tree_v (.int 0) σ4112) (.mk fun v4115 σ4116 =>
 @qk _ _ (eE AV) (unop .Not v4115 σ4116) (.mk fun v4117 σ4118 =>
 @qk _ _ (eE AV) (callA PP cf lv "int" [v4117] σ4118) (.mk fun v4119 σ4120 =>
 @qk _ _ (eE AV) (binop .Add v3079 v4119 σ4120) (.mk fun v4121 σ4122 =>
 .ok v4121 σ4122))))))))))))))) (.mk (.bad))))))))))))))) : Out AV) := by
  rw [callBody_K PP cf lv "_law_seen" _ _ _ _ _ rfl rfl]
  kernel_rfl

theorem law_sound_K (cf : Calls) (lv : Nat) (law_tree_v law_due_v : AV) (σ : Sto) : callBody PP cf lv "_law_sound" [law_tree_v, law_due_v] σ =
 (@qk _ _ (eE AV) (newL [] σ) (.mk fun v1 σ2 =>
 @qk _ _ (eE AV) (cf lv "_law_seen" [law_tree_v, (.bool true), v1] σ2) (.mk fun v3 σ4 =>
 @qk _ _ (eE AV) (cmpop .GtE v3 (.int 0) σ4) (.mk fun v5 σ6 =>
 @qk _ _ (eE AV) (truthO v5 σ6) (.mk fun b7 σ8 =>
 @bq _ (b7) (.mk (@qk _ _ (eE AV) (cf lv "_law_same" [v1, law_due_v] σ8) (.mk fun v9 σ10 =>
 .ok v9 σ10))) (.mk (.ok v5 σ8)))))) : Out AV) := by
  rw [callBody_K PP cf lv "_law_sound" _ _ _ _ _ rfl rfl]
  kernel_rfl

theorem law_rise_K (cf : Calls) (lv : Nat) (law_pairs_here_v : AV) (σ : Sto) : callBody PP cf lv "_law_rise" [law_pairs_here_v] σ =
 (@qk _ _ (eE AV) (callA PP cf lv "len" [law_pairs_here_v] σ) (.mk fun v1 σ2 =>
 @qk _ _ (eE AV) (rangeOf [(.int 1), v1] σ2) (.mk fun s3 σ4 =>
 @qk _ _ (eE AV) (cpSrc lv (fun x5 σ6 =>
 @qk _ _ (eE (Option AV)) (binop .Sub x5 (.int 1) σ6) (.mk fun v107 σ108 =>
 @qk _ _ (eE (Option AV)) (item law_pairs_here_v v107 σ108) (.mk fun v109 σ110 =>
 @qk _ _ (eE (Option AV)) (item v109 (.int 0) σ110) (.mk fun v111 σ112 =>
 @qk _ _ (eE (Option AV)) (item law_pairs_here_v x5 σ112) (.mk fun v113 σ114 =>
 @qk _ _ (eE (Option AV)) (item v113 (.int 0) σ114) (.mk fun v115 σ116 =>
 @qk _ _ (eE (Option AV)) (cmpop .GtE v111 v115 σ116) (.mk fun v117 σ118 =>
 @qk _ _ (eE (Option AV)) (truthO v117 σ118) (.mk fun b119 σ120 =>
 @bq _ (b119) (.mk (.ok (some (.int 1)) σ120)) (.mk (.ok Option.none σ120)))))))))) s3 σ4) (.mk fun xs121 σ122 =>
 @qk _ _ (eE AV) (newL xs121 σ122) (.mk fun v123 σ124 =>
 @qk _ _ (eE AV) (newL [] σ124) (.mk fun v125 σ126 =>
 @qk _ _ (eE AV) (cmpop .Eq v123 v125 σ126) (.mk fun v127 σ128 =>
 .ok v127 σ128)))))) : Out AV) := by
  rw [callBody_K PP cf lv "_law_rise" _ _ _ _ _ rfl rfl]
  kernel_rfl

theorem law_alone_K (cf : Calls) (lv : Nat) (law_e_v law_other_v : AV) (σ : Sto) : callBody PP cf lv "_law_alone" [law_e_v, law_other_v] σ =
 (@qk _ _ (eE AV) (@qk _ _ (eE Bool) (callA PP cf lv "isinstance" [law_e_v, (.typ "NoKey")] σ) (.mk fun v1001 σ1002 =>
 @qk _ _ (eE Bool) (truthO v1001 σ1002) (.mk fun b1003 σ1004 =>
 @bq _ (b1003) (.mk (.ok true σ1004)) (.mk (@qk _ _ (eE Bool) (callA PP cf lv "isinstance" [law_e_v, (.typ "NoPlace")] σ1004) (.mk fun v1005 σ1006 =>
 @qk _ _ (eE Bool) (truthO v1005 σ1006) (.mk fun b1007 σ1008 =>
 @bq _ (b1007) (.mk (.ok true σ1008)) (.mk (@qk _ _ (eE Bool) (truthO law_other_v σ1008) (.mk fun b1009 σ1010 =>
 @bq _ (b1009) (.mk (.ok true σ1010)) (.mk (.ok false σ1010)))))))))))) (.mk fun c1011 σ1012 =>
 @bq _ (c1011) (.mk (.ok (.bool false) σ1012)) (.mk (@qk _ _ (eE AV) (callA PP cf lv "isinstance" [law_e_v, (.typ "TreeError")] σ1012) (.mk fun v1013 σ1014 =>
 @qk _ _ (eE AV) (truthO v1013 σ1014) (.mk fun b1015 σ1016 =>
 @bq _ (b1015) (.mk (@qk _ _ (eE AV) (callA PP cf lv "isinstance" [law_e_v, (.typ "ValueError")] σ1016) (.mk fun v1017 σ1018 =>
 .ok v1017 σ1018))) (.mk (.ok v1013 σ1016))))))) : Out AV) := by
  rw [callBody_K PP cf lv "_law_alone" _ _ _ _ _ rfl rfl]
  kernel_rfl

noncomputable def pairsC (v3 v1023 key : AV) (σ : Sto) : Out AV :=
 @qk _ _ (eE AV) (item v3 v1023 σ) (.mk fun v1 σ1 =>
 @qk _ _ (eE AV) (item v1 (.int 1) σ1) (.mk fun v2 σ2 =>
 match setItem v3 v1023 (.tup [key, v2]) σ2 with
 | some σ3 => (.ok v3 σ3)
 | Option.none => .bad))
noncomputable def pairsB (cf : Calls) (lv : Nat) (law_script_v v3 v5 v1023 key : AV) (σ2048 : Sto) : Out AV :=
 @qk _ _ (eE AV) (@qk _ _ (eE Bool) (cf lv "_law_cell_at" [law_script_v, (.int 5)] σ2048) (.mk fun v4103 σ4104 =>
 @qk _ _ (eE Bool) (binop .Mod v4103 (.int 4) σ4104) (.mk fun v4105 σ4106 =>
 @qk _ _ (eE Bool) (cmpop .Eq v4105 (.int 1) σ4106) (.mk fun v4107 σ4108 =>
 @qk _ _ (eE Bool) (truthO v4107 σ4108) (.mk fun b4109 σ4110 =>
 @bq _ (b4109) (.mk (@qk _ _ (eE Bool) (binop .Mod v5 (.int 2) σ4110) (.mk fun v4111 σ4112 =>
 @qk _ _ (eE Bool) (cmpop .Eq v4111 (.int 0) σ4112) (.mk fun v4113 σ4114 =>
 @qk _ _ (eE Bool) (truthO v4113 σ4114) (.mk fun b4115 σ4116 =>
 @bq _ (b4115) (.mk (.ok true σ4116)) (.mk (.ok false σ4116))))))) (.mk (.ok false σ4110))))))) (.mk fun c4117 σ4118 =>
 @bq _ (c4117) (.mk (@qk _ _ (eE AV) (binop .Sub v1023 (.int 1) σ4118) (.mk fun v4119 σ4120 =>
 @qk _ _ (eE AV) (callA PP cf lv "max" [v4119, (.int 0)] σ4120) (.mk fun v4121 σ4122 =>
 @qk _ _ (eE AV) (item v3 v4121 σ4122) (.mk fun v4123 σ4124 =>
 @qk _ _ (eE AV) (item v4123 (.int 0) σ4124) (.mk fun v4125 σ4126 =>
 pairsC v3 v1023 v4125 σ4126)))))) (.mk (pairsC v3 v1023 key σ4118)))
noncomputable def pairsA (cf : Calls) (lv : Nat) (law_script_v law_many_v v3 v5 v1023 key : AV) (σ1038 : Sto) : Out AV :=
 @qk _ _ (eE AV) (@qk _ _ (eE Bool) (cf lv "_law_cell_at" [law_script_v, (.int 5)] σ1038) (.mk fun v2039 σ2040 =>
 @qk _ _ (eE Bool) (binop .Mod v2039 (.int 4) σ2040) (.mk fun v2041 σ2042 =>
 @qk _ _ (eE Bool) (cmpop .Gt v2041 (.int 0) σ2042) (.mk fun v2043 σ2044 =>
 @qk _ _ (eE Bool) (truthO v2043 σ2044) (.mk fun b2045 σ2046 =>
 .ok b2045 σ2046))))) (.mk fun c2047 σ2048 =>
 @bq _ (c2047) (.mk (@qk _ _ (eE AV) (binop .Mod v5 law_many_v σ2048) (.mk fun v2049 σ2050 =>
 @qk _ _ (eE AV) (item v3 v2049 σ2050) (.mk fun v2051 σ2052 =>
 @qk _ _ (eE AV) (item v2051 (.int 0) σ2052) (.mk fun v2053 σ2054 =>
 @qk _ _ (eE AV) (unop .USub (.int 1) σ2054) (.mk fun v2055 σ2056 =>
 @qk _ _ (eE AV) (newL [(.int 0), (.int 1), v2055] σ2056) (.mk fun v2057 σ2058 =>
 @qk _ _ (eE AV) (cf lv "_law_cell_at" [law_script_v, (.int 5)] σ2058) (.mk fun v2059 σ2060 =>
 @qk _ _ (eE AV) (binop .Mod v2059 (.int 4) σ2060) (.mk fun v2061 σ2062 =>
 @qk _ _ (eE AV) (binop .Sub v2061 (.int 1) σ2062) (.mk fun v2063 σ2064 =>
 @qk _ _ (eE AV) (item v2057 v2063 σ2064) (.mk fun v2065 σ2066 =>
 @qk _ _ (eE AV) (binop .Add v2053 v2065 σ2066) (.mk fun v2067 σ2068 =>
 pairsB cf lv law_script_v v3 v5 v1023 v2067 σ2068)))))))))))) (.mk (pairsB cf lv law_script_v v3 v5 v1023 key σ2048)))
theorem law_pairs_K (cf : Calls) (lv : Nat) (law_script_v law_many_v : AV) (σ : Sto) : callBody PP cf lv "_law_pairs" [law_script_v, law_many_v] σ =
 (@qk _ _ (eE AV) (cf lv "_law_cell_at" [law_script_v, (.int 0)] σ) (.mk fun v1 σ2 =>
 @qk _ _ (eE AV) (cf lv "_law_rising" [v1, law_many_v] σ2) (.mk fun v3 σ4 =>
 @qk _ _ (eE AV) (cf lv "_law_cell_at" [law_script_v, (.int 3)] σ4) (.mk fun v5 σ6 =>
 @qk _ _ (eE AV) (@qk _ _ (eE Bool) (cmpop .Gt law_many_v (.int 0) σ6) (.mk fun v1007 σ1008 =>
 @qk _ _ (eE Bool) (truthO v1007 σ1008) (.mk fun b1009 σ1010 =>
 @bq _ (b1009) (.mk (@qk _ _ (eE Bool) (cf lv "_law_cell_at" [law_script_v, (.int 2)] σ1010) (.mk fun v1011 σ1012 =>
 @qk _ _ (eE Bool) (binop .Mod v1011 (.int 3) σ1012) (.mk fun v1013 σ1014 =>
 @qk _ _ (eE Bool) (cmpop .Eq v1013 (.int 1) σ1014) (.mk fun v1015 σ1016 =>
 @qk _ _ (eE Bool) (truthO v1015 σ1016) (.mk fun b1017 σ1018 =>
 @bq _ (b1017) (.mk (.ok true σ1018)) (.mk (.ok false σ1018)))))))) (.mk (.ok false σ1010))))) (.mk fun c1019 σ1020 =>
 @bq _ (c1019) (.mk (@qk _ _ (eE AV) (cf lv "_law_cell_at" [law_script_v, (.int 4)] σ1020) (.mk fun v1021 σ1022 =>
 @qk _ _ (eE AV) (binop .Mod v1021 law_many_v σ1022) (.mk fun v1023 σ1024 =>
 @qk _ _ (eE AV) (binop .Pow (.int 10) (.int 60) σ1024) (.mk fun v1025 σ1026 =>
 @qk _ _ (eE AV) (binop .Mult (.int 2) v1025 σ1026) (.mk fun v1027 σ1028 =>
 @qk _ _ (eE AV) (binop .Sub v1027 (.int 3) σ1028) (.mk fun v1029 σ1030 =>
 @qk _ _ (eE AV) (binop .Mod v5 v1029 σ1030) (.mk fun v1031 σ1032 =>
 @qk _ _ (eE AV) (binop .Pow (.int 10) (.int 60) σ1032) (.mk fun v1033 σ1034 =>
 @qk _ _ (eE AV) (binop .Sub v1033 (.int 2) σ1034) (.mk fun v1035 σ1036 =>
 @qk _ _ (eE AV) (binop .Sub v1031 v1035 σ1036) (.mk fun v1037 σ1038 =>
 pairsA cf lv law_script_v law_many_v v3 v5 v1023 v1037 σ1038))))))))))) (.mk (.ok v3 σ1020)))))) : Out AV) := by
  rw [callBody_K PP cf lv "_law_pairs" _ _ _ _ _ rfl rfl]
  kernel_rfl

end Mine

/- S1 -/
set_option tactic.hygienic false
/-! Mine: what the mini-interpreter's states mean in the model. -/
namespace Mine
open PySem PySem.Spec PySem.Calls PyProof.Rows

/-- what stands under the whole run: the heap before the law's call, and the values of the names of types and classes -/
structure Cx where
  base : Heap
  tv : Str → Option Value

noncomputable def IsPartV (v : Value) : Option Int → Prop
  | Option.none => v = .none
  | some i => ∃ t, v = .int i t

mutual
inductive Rep (X : Cx) (ρ : List Addr) (h : Heap) : Value → AV → Prop
  | none : Rep X ρ h .none .none
  | bool (b : Bool) : Rep X ρ h (.bool b) (.bool b)
  | int (i : Int) (t : Tok) : Rep X ρ h (.int i t) (.int i)
  | str (x : Str) (t : Tok) : Rep X ρ h (.str x t) (.str x)
  | tup {a : Addr} {vs : List Value} {xs : List AV} : vs.length ≤ bigN → h.IsTuple a vs.toArray → RepAll X ρ h vs xs → Rep X ρ h (.ref a) (.tup xs)
  | ref {a : Addr} {n : Nat} : ρ[n]? = some a → Rep X ρ h (.ref a) (.ref n)
  | frozen {a : Addr} {vs : List Value} {ns : List Int} : ns.length ≤ bigN → X.base.IsList a vs.toArray → IntsAre vs ns → Rep X ρ h (.ref a) (.frozen (ns.map .int))
  | exc {a C : Addr} {o : Obj} {fs : Array Value} {c : Str} : h.get? a = some o → o.cls = .ref C → o.data = .fields fs → X.tv c = some (.ref C) → Rep X ρ h (.ref a) (.exc c)
  | typ {v : Value} {t : Str} : X.tv t = some v → ((∃ n, v = .type n) ∨ ∃ C, v = .ref C) → Rep X ρ h v (.typ t)
  | sl {a : Addr} {o : Obj} {u v : Value} {p q : Option Int} : h.get? a = some o → o.cls = .type "slice" → o.data = .fields #[u, v, .none] → IsPartV u p → IsPartV v q → Rep X ρ h (.ref a) (.sl p q)
inductive RepAll (X : Cx) (ρ : List Addr) (h : Heap) : List Value → List AV → Prop
  | nil : RepAll X ρ h [] []
  | cons {v : Value} {vs : List Value} {x : AV} {xs : List AV} : Rep X ρ h v x → RepAll X ρ h vs xs → RepAll X ρ h (v :: vs) (x :: xs)
end

/-- an object that a run may change -/
noncomputable def MutO (o : Obj) : Prop := (∃ c, o.cls = .type c ∧ (c = "list" ∨ c = "list_iterator" ∨ c = "range_iterator" ∨ c = "traceback")) ∨ (∃ es n, o.data = .dict es n) ∨ (∃ v, o.data = .cell v)
theorem MutO.list {o : Obj} (h : o.cls = .type "list") : MutO o := .inl ⟨_, h, .inl rfl⟩
/-- what is turned is no tuple or slice, or is an exception and stays one -/
noncomputable def Sane (h h' : Heap) (S : List Addr) : Prop := ∀ b ∈ S, ∀ o, h.get? b = some o → MutO o ∨ ∃ C fs o' fs', o.cls = .ref C ∧ o.data = .fields fs ∧ h'.get? b = some o' ∧ o'.cls = .ref C ∧ o'.data = .fields fs'

noncomputable def Keep (S : List Addr) (h h' : Heap) : Prop := ∀ b o, h.get? b = some o → b ∉ S → ∃ sl, h'.get? b = some { o with slots := sl } ∧ ((∀ es n, o.data ≠ .dict es n) → sl = o.slots)
theorem Keep.refl (S : List Addr) (h : Heap) : Keep S h h := fun _ o e _ => ⟨o.slots, e, fun _ => rfl⟩
theorem Keep.trans {S : List Addr} {h₁ h₂ h₃ : Heap} (x : Keep S h₁ h₂) (y : Keep S h₂ h₃) : Keep S h₁ h₃ := fun b o e n =>
  let ⟨_, e₁, q₁⟩ := x b o e n; let ⟨sl, e₂, q₂⟩ := y b _ e₁ n; ⟨sl, e₂, fun z => (q₂ z).trans (q₁ z)⟩
theorem Keep.mono {S T : List Addr} {h h' : Heap} (x : Keep S h h') (hs : ∀ b ∈ S, b ∈ T) : Keep T h h' := fun b o e n => x b o e fun q => n (hs b q)
/-- what is new in T is not in the elder heap -/
theorem Keep.less {S T : List Addr} {h h' : Heap} (x : Keep T h h') (hs : ∀ b ∈ T, b ∈ S ∨ h.get? b = none) : Keep S h h' := fun b o e n =>
  x b o e fun q => (hs b q).elim n fun z => by rw [z] at e; cases e
theorem Keep.of_stays {S : List Addr} {h h' : Heap} (x : h.StaysIn h') : Keep S h h' := fun b o e _ => ⟨o.slots, x b o e, fun _ => rfl⟩
theorem Keep.of_sameBut {a : Addr} {h h' : Heap} (x : Heap.SameBut a h h') : Keep [a] h h' := fun b o e n => ⟨o.slots, (x.2 b (fun q => n (by simp [q]))).trans e, fun _ => rfl⟩
/-- what is no namespace stays to the letter -/
theorem Keep.exact {S : List Addr} {h h' : Heap} (x : Keep S h h') {b : Addr} {o : Obj} (e : h.get? b = some o) (n : b ∉ S) (d : ∀ es n, o.data ≠ .dict es n) : h'.get? b = some o := by
  obtain ⟨sl, e', q⟩ := x b o e n
  rw [e', q d]

noncomputable def SOk (h : Heap) (S : List Addr) : Prop := ∀ b ∈ S, ∀ o, h.get? b = some o → MutO o
theorem SOk.sane {h : Heap} {S : List Addr} (x : SOk h S) (h' : Heap) : Sane h h' S := fun b hb o ho => .inl (x b hb o ho)
theorem SOk.nil {h : Heap} : SOk h [] := fun _ hb => (nomatch hb)
theorem SOk.app {h : Heap} {S T : List Addr} (x : SOk h S) (y : SOk h T) : SOk h (S ++ T) := fun b hb o ho => (List.mem_append.mp hb).elim (fun q => x b q o ho) fun q => y b q o ho
theorem Sane.app {h h' : Heap} {S T : List Addr} (x : Sane h h' S) (y : Sane h h' T) : Sane h h' (S ++ T) := fun b hb o ho => (List.mem_append.mp hb).elim (fun q => x b q o ho) fun q => y b q o ho

noncomputable def Ext (ρ ρ' : List Addr) : Prop := ∀ (n : Nat) (a : Addr), ρ[n]? = some a → ρ'[n]? = some a
theorem Ext.refl (ρ : List Addr) : Ext ρ ρ := fun _ _ e => e
theorem Ext.trans {a b c : List Addr} (x : Ext a b) (y : Ext b c) : Ext a c := fun n z e => y n z (x n z e)
theorem Ext.app (ρ τ : List Addr) : Ext ρ (ρ ++ τ) := fun n a e => by
  rw [List.getElem?_append_left]
  · exact e
  · exact (List.getElem?_eq_some_iff.mp e).1

theorem IsTuple.keepS {S : List Addr} {h h' : Heap} {a : Addr} {its : Array Value} (hk : Keep S h h') (hs : Sane h h' S) (t : h.IsTuple a its) : h'.IsTuple a its := by
  obtain ⟨o, ho, hc, n, hd⟩ := t
  have hn : a ∉ S := fun q => by
    rcases hs a q o ho with (⟨c, e, z⟩ | ⟨es, k, e⟩ | ⟨v, e⟩) | ⟨C, fs, o', fs', e, _⟩
    · rw [hc] at e; cases e; exact absurd z (by decide)
    · rw [hd] at e; cases e
    · rw [hd] at e; cases e
    · rw [hc] at e; cases e
  obtain ⟨sl, e, _⟩ := hk a o ho hn
  exact ⟨_, e, hc, n, hd⟩
theorem fields_keepS {S : List Addr} {h h' : Heap} {a : Addr} {o : Obj} {fs : Array Value} (hk : Keep S h h') (hs : Sane h h' S) (ho : h.get? a = some o) (hd : o.data = .fields fs) (hc : (∃ C, o.cls = .ref C) ∨ o.cls = .type "slice") :
    h'.get? a = some o ∨ ∃ C o' fs', o.cls = .ref C ∧ h'.get? a = some o' ∧ o'.cls = .ref C ∧ o'.data = .fields fs' := by
  by_cases hq : a ∈ S
  · rcases hs a hq o ho with (⟨c, e, z⟩ | ⟨es, k, e⟩ | ⟨v, e⟩) | ⟨C, fs, o', fs', e, _, e', e2, e3⟩
    · rcases hc with ⟨C, hc⟩ | hc
      · rw [hc] at e; cases e
      · rw [hc] at e; cases e; exact absurd z (by decide)
    · rw [hd] at e; cases e
    · rw [hd] at e; cases e
    · exact .inr ⟨C, o', fs', e, e', e2, e3⟩
  · exact .inl (hk.exact ho hq fun es n e => by rw [hd] at e; cases e)
theorem fields_keep {S : List Addr} {h h' : Heap} {a : Addr} {o : Obj} {fs : Array Value} {C : Addr} (hk : Keep S h h') (hs : SOk h S) (ho : h.get? a = some o) (hd : o.data = .fields fs) (hc : o.cls = .ref C) : h'.get? a = some o := by
  refine hk.exact ho (fun q => ?_) fun es n e => by rw [hd] at e; cases e
  rcases hs a q o ho with ⟨c, e, _⟩ | ⟨es, k, e⟩ | ⟨v, e⟩
  · rw [hc] at e; cases e
  · rw [hd] at e; cases e
  · rw [hd] at e; cases e

mutual
theorem Rep.monoS {X : Cx} {ρ ρ' : List Addr} {S : List Addr} {h h' : Heap} (hk : Keep S h h') (hs : Sane h h' S) (hr : Ext ρ ρ') : ∀ {v : Value} {a : AV}, Rep X ρ h v a → Rep X ρ' h' v a
  | _, _, .none => .none
  | _, _, .bool b => .bool b
  | _, _, .int i t => .int i t
  | _, _, .str x t => .str x t
  | _, _, .tup z t r => .tup z (IsTuple.keepS hk hs t) (RepAll.monoS hk hs hr r)
  | _, _, .ref e => .ref (hr _ _ e)
  | _, _, .frozen z b i => .frozen z b i
  | _, _, .exc (o := o) e c d t => by
    rcases fields_keepS hk hs e d (.inl ⟨_, c⟩) with q | ⟨C, o', fs', e1, e2, e3, e4⟩
    · exact .exc q c d t
    · rw [c] at e1; cases e1; exact .exc e2 e3 e4 t
  | _, _, .typ t q => .typ t q
  | _, _, .sl (o := o) e c d p q => by
    rcases fields_keepS hk hs e d (.inr c) with z | ⟨C, o', fs', e1, e2, e3, e4⟩
    · exact .sl z c d p q
    · rw [c] at e1; cases e1
theorem RepAll.monoS {X : Cx} {ρ ρ' : List Addr} {S : List Addr} {h h' : Heap} (hk : Keep S h h') (hs : Sane h h' S) (hr : Ext ρ ρ') : ∀ {vs : List Value} {xs : List AV}, RepAll X ρ h vs xs → RepAll X ρ' h' vs xs
  | _, _, .nil => .nil
  | _, _, .cons r rs => .cons (Rep.monoS hk hs hr r) (RepAll.monoS hk hs hr rs)
end
theorem Rep.mono {X : Cx} {ρ ρ' : List Addr} {S : List Addr} {h h' : Heap} (hk : Keep S h h') (hs : SOk h S) (hr : Ext ρ ρ') {v : Value} {a : AV} (r : Rep X ρ h v a) : Rep X ρ' h' v a := r.monoS hk (hs.sane h') hr
theorem RepAll.mono {X : Cx} {ρ ρ' : List Addr} {S : List Addr} {h h' : Heap} (hk : Keep S h h') (hs : SOk h S) (hr : Ext ρ ρ') {vs : List Value} {xs : List AV} (r : RepAll X ρ h vs xs) : RepAll X ρ' h' vs xs := r.monoS hk (hs.sane h') hr
theorem RepAll.length {X : Cx} {ρ : List Addr} {h : Heap} : ∀ {vs : List Value} {xs : List AV}, RepAll X ρ h vs xs → vs.length = xs.length
  | _, _, .nil => rfl
  | _, _, .cons _ rs => by rw [List.length_cons, List.length_cons, RepAll.length rs]
theorem RepAll.get {X : Cx} {ρ : List Addr} {h : Heap} : ∀ {vs : List Value} {xs : List AV}, RepAll X ρ h vs xs → ∀ {n : Nat} {x : AV}, xs[n]? = some x → ∃ v, vs[n]? = some v ∧ Rep X ρ h v x
  | _, _, .nil, _, _, e => by cases e
  | _, _, .cons r rs, 0, _, e => by cases e; exact ⟨_, rfl, r⟩
  | _, _, .cons r rs, n + 1, _, e => by
    obtain ⟨v, e', q⟩ := RepAll.get rs (n := n) (by simpa using e)
    exact ⟨v, by simpa using e', q⟩
theorem RepAll.append {X : Cx} {ρ : List Addr} {h : Heap} : ∀ {vs ws : List Value} {xs ys : List AV}, RepAll X ρ h vs xs → RepAll X ρ h ws ys → RepAll X ρ h (vs ++ ws) (xs ++ ys)
  | _, _, _, _, .nil, q => q
  | _, _, _, _, .cons r rs, q => .cons r (RepAll.append rs q)
theorem RepAll.set {X : Cx} {ρ : List Addr} {h : Heap} {v : Value} {x : AV} (r : Rep X ρ h v x) : ∀ {vs : List Value} {xs : List AV}, RepAll X ρ h vs xs → ∀ n, RepAll X ρ h (vs.set n v) (xs.set n x)
  | _, _, .nil, n => by simpa using RepAll.nil
  | _, _, .cons _ rs, 0 => .cons r rs
  | _, _, .cons q rs, n + 1 => .cons q (RepAll.set r rs n)
theorem RepAll.take {X : Cx} {ρ : List Addr} {h : Heap} : ∀ {vs : List Value} {xs : List AV}, RepAll X ρ h vs xs → ∀ n, RepAll X ρ h (vs.take n) (xs.take n)
  | _, _, .nil, n => by simpa using RepAll.nil
  | _, _, .cons r rs, 0 => .nil
  | _, _, .cons r rs, n + 1 => .cons r (RepAll.take rs n)
theorem RepAll.drop {X : Cx} {ρ : List Addr} {h : Heap} : ∀ {vs : List Value} {xs : List AV}, RepAll X ρ h vs xs → ∀ n, RepAll X ρ h (vs.drop n) (xs.drop n)
  | _, _, .nil, n => by simpa using RepAll.nil
  | _, _, .cons r rs, 0 => .cons r rs
  | _, _, .cons r rs, n + 1 => RepAll.drop rs n
theorem RepAll.replicate {X : Cx} {ρ : List Addr} {h : Heap} {v : Value} {x : AV} (r : Rep X ρ h v x) : ∀ n, RepAll X ρ h (List.replicate n v) (List.replicate n x)
  | 0 => .nil
  | n + 1 => .cons r (RepAll.replicate r n)

/-- a plain list -/
noncomputable def IsL (h : Heap) (a : Addr) (vs : List Value) : Prop := ∃ o n, h.get? a = some o ∧ o.cls = .type "list" ∧ o.dict = none ∧ o.data = .seq vs.toArray n
theorem IsL.is {h : Heap} {a : Addr} {vs : List Value} (x : IsL h a vs) : h.IsList a vs.toArray := let ⟨o, n, e, c, _, d⟩ := x; ⟨o, e, c, n, d⟩

noncomputable def ObjRep (X : Cx) (ρ : List Addr) (h : Heap) (a : Addr) : AO → Prop
  | .list xs => ∃ vs : List Value, IsL h a vs ∧ vs.length ≤ bigN + 1 ∧ RepAll X ρ h vs xs
  | .dict _ => False

structure Wd (X : Cx) (ρ : List Addr) (σ : Sto) (h : Heap) : Prop where
  stays : X.base.StaysIn h
  new : ∀ a ∈ ρ, X.base.get? a = none
  nodup : ρ.Nodup
  len : ρ.length = σ.length
  objs : ∀ (n : Nat) (o : AO), σ[n]? = some o → ∃ a, ρ[n]? = some a ∧ ObjRep X ρ h a o

theorem ObjRep.mut {X : Cx} {ρ : List Addr} {h : Heap} {a : Addr} {o : AO} (r : ObjRep X ρ h a o) : ∃ ob, h.get? a = some ob ∧ MutO ob := by
  cases o with
  | list xs =>
    obtain ⟨vs, ⟨ob, _, e, c, _⟩, _, _⟩ := r
    exact ⟨ob, e, .list c⟩
  | dict es => exact r.elim

theorem Wd.at {X : Cx} {ρ : List Addr} {σ : Sto} {h : Heap} (w : Wd X ρ σ h) {b : Addr} (hb : b ∈ ρ) : ∃ ob, h.get? b = some ob ∧ MutO ob := by
  obtain ⟨n, hn, rfl⟩ := List.getElem_of_mem hb
  have hn' : n < σ.length := w.len ▸ hn
  obtain ⟨a, ha, r⟩ := w.objs n σ[n] (List.getElem?_eq_getElem hn')
  rw [List.getElem?_eq_getElem hn] at ha
  cases ha
  exact r.mut
theorem Wd.sok {X : Cx} {ρ : List Addr} {σ : Sto} {h : Heap} (w : Wd X ρ σ h) : SOk h ρ := fun b hb o ho => by
  obtain ⟨ob, e, m⟩ := w.at hb
  rw [ho] at e; cases e; exact m

/-- the elder lists stay, if nothing but what is off them is turned -/
theorem Wd.stepS {X : Cx} {ρ : List Addr} {σ : Sto} {h h' : Heap} {S : List Addr} (w : Wd X ρ σ h) (hk : Keep S h h') (hs : Sane h h' S) (hb : X.base.StaysIn h') (hd : ∀ b ∈ S, b ∉ ρ) : Wd X ρ σ h' :=
  ⟨hb, w.new, w.nodup, w.len, fun n o e => by
    obtain ⟨a, ha, r⟩ := w.objs n o e
    refine ⟨a, ha, ?_⟩
    cases o with
    | dict es => exact r.elim
    | list xs =>
      obtain ⟨vs, ⟨ob, k, e, c, dn, d⟩, z, ra⟩ := r
      obtain ⟨sl, e', _⟩ := hk a ob e fun q => hd a q (List.mem_of_getElem? ha)
      exact ⟨vs, ⟨_, k, e', c, dn, d⟩, z, ra.monoS hk hs (.refl _)⟩⟩
theorem Wd.step {X : Cx} {ρ : List Addr} {σ : Sto} {h h' : Heap} {S : List Addr} (w : Wd X ρ σ h) (hk : Keep S h h') (hs : SOk h S) (hb : X.base.StaysIn h') (hd : ∀ b ∈ S, b ∉ ρ) : Wd X ρ σ h' := w.stepS hk (hs.sane h') hb hd

/-- a new list -/
theorem Wd.newList {X : Cx} {ρ : List Addr} {σ : Sto} {h h' : Heap} {a : Addr} {vs : List Value} {xs : List AV} (w : Wd X ρ σ h) (hk : Keep [] h h') (hb : X.base.StaysIn h') (hn : h.get? a = none)
    (hl : IsL h' a vs) (hz : vs.length ≤ bigN + 1) (ra : RepAll X ρ h vs xs) : Wd X (ρ ++ [a]) (σ ++ [.list xs]) h' := by
  have sn : SOk h [] := fun b hb => (nomatch hb)
  have na : a ∉ ρ := fun q => by obtain ⟨o, e, _⟩ := w.at q; rw [hn] at e; cases e
  have w' := w.step hk sn hb (fun b hb => (nomatch hb))
  refine ⟨hb, fun b hb' => ?_, ?_, ?_, fun n o e => ?_⟩
  · rcases List.mem_append.mp hb' with q | q
    · exact w.new b q
    · rw [List.mem_singleton.mp q]
      cases z : X.base.get? a with
      | none => rfl
      | some o => have := w.stays a o z; rw [hn] at this; cases this
  · exact List.nodup_append.mpr ⟨w.nodup, by simp, fun x hx y hy e => na (by rw [List.mem_singleton.mp hy] at e; exact e ▸ hx)⟩
  · simp [w.len]
  · by_cases hlt : n < σ.length
    · rw [List.getElem?_append_left hlt] at e
      obtain ⟨b, hb, r⟩ := w'.objs n o e
      refine ⟨b, Ext.app ρ [a] n b hb, ?_⟩
      cases o with
      | dict es => exact r.elim
      | list ys =>
        obtain ⟨ws, il, z, rr⟩ := r
        exact ⟨ws, il, z, rr.mono (Keep.refl [] _) (fun b hb => (nomatch hb)) (Ext.app _ _)⟩
    · rw [List.getElem?_append_right (by omega)] at e
      have hz0 : n - σ.length = 0 := by
        cases q : n - σ.length with
        | zero => rfl
        | succ k => rw [q] at e; simp at e
      rw [hz0] at e
      cases e
      refine ⟨a, ?_, vs, hl, hz, ra.mono hk sn (Ext.app _ _)⟩
      rw [List.getElem?_append_right (by rw [w.len]; omega), w.len, hz0]; rfl

section
variable {X : Cx} {ρ : List Addr} {h : Heap} {v : Value}
theorem Rep.int_inv {i : Int} (r : Rep X ρ h v (.int i)) : ∃ t, v = .int i t := by cases r; exact ⟨_, rfl⟩
theorem Rep.str_inv {x : Str} (r : Rep X ρ h v (.str x)) : ∃ t, v = .str x t := by cases r; exact ⟨_, rfl⟩
theorem Rep.bool_inv {b : Bool} (r : Rep X ρ h v (.bool b)) : v = .bool b := by cases r; rfl
theorem Rep.none_inv (r : Rep X ρ h v .none) : v = .none := by cases r; rfl
theorem Rep.ref_inv {n : Nat} (r : Rep X ρ h v (.ref n)) : ∃ a, v = .ref a ∧ ρ[n]? = some a := by cases r; exact ⟨_, rfl, by assumption⟩
theorem Rep.tup_inv {xs : List AV} (r : Rep X ρ h v (.tup xs)) : ∃ a vs, v = .ref a ∧ vs.length ≤ bigN ∧ h.IsTuple a vs.toArray ∧ RepAll X ρ h vs xs := by
  cases r with | tup z it rr => exact ⟨_, _, rfl, z, it, rr⟩
theorem Rep.frozen_inv {xs : List AV} (r : Rep X ρ h v (.frozen xs)) : ∃ a vs ns, v = .ref a ∧ xs = ns.map .int ∧ ns.length ≤ bigN ∧ X.base.IsList a vs.toArray ∧ IntsAre vs ns := by
  cases r with | frozen z b i => exact ⟨_, _, _, rfl, rfl, z, b, i⟩
theorem Rep.sl_inv {p q : Option Int} (r : Rep X ρ h v (.sl p q)) : ∃ a o u u', v = .ref a ∧ h.get? a = some o ∧ o.cls = .type "slice" ∧ o.data = .fields #[u, u', .none] ∧ IsPartV u p ∧ IsPartV u' q := by
  cases r with | sl e c d p q => exact ⟨_, _, _, _, rfl, e, c, d, p, q⟩
theorem Rep.isNone_inv {a : AV} (r : Rep X ρ h v a) (e : isNone a = true) : v = .none ∧ a = .none := by
  cases a with
  | none => exact ⟨r.none_inv, rfl⟩
  | _ => cases e
theorem Rep.typ_inv {t : Str} (r : Rep X ρ h v (.typ t)) : X.tv t = some v := by cases r; assumption
theorem RepAll.nil_inv {vs : List Value} (r : RepAll X ρ h vs []) : vs = [] := by cases r; rfl
theorem RepAll.cons_inv {vs : List Value} {x : AV} {xs : List AV} (r : RepAll X ρ h vs (x :: xs)) : ∃ v vs', vs = v :: vs' ∧ Rep X ρ h v x ∧ RepAll X ρ h vs' xs := by
  cases r with | cons a b => exact ⟨_, _, rfl, a, b⟩
theorem RepAll.one_inv {vs : List Value} {x : AV} (r : RepAll X ρ h vs [x]) : ∃ v, vs = [v] ∧ Rep X ρ h v x := by
  obtain ⟨v, vs', rfl, a, b⟩ := r.cons_inv
  cases b.nil_inv
  exact ⟨v, rfl, a⟩
theorem RepAll.two_inv {vs : List Value} {x y : AV} (r : RepAll X ρ h vs [x, y]) : ∃ v u, vs = [v, u] ∧ Rep X ρ h v x ∧ Rep X ρ h u y := by
  obtain ⟨v, vs', rfl, a, b⟩ := r.cons_inv
  obtain ⟨u, rfl, c⟩ := b.one_inv
  exact ⟨v, u, rfl, a, c⟩
end
end Mine

/- S2 -/
set_option tactic.hygienic false
/-! Mine: the frame at hand, and what a step leaves. -/
namespace Mine
open PySem PySem.Spec PySem.Calls PyProof.Rows

noncomputable def own (env : Env) : List Addr := env.locals :: env.cells.map (·.2)

structure LocR (X : Cx) (ρ : List Addr) (env : Env) (h : Heap) (l : Loc) : Prop where
  ns : ∃ m, h.Ns env.locals m ∧ ∀ x a, getL x l = some a → x ≠ (".0" : Str) → env.kindOf x = some .local → ∃ v, m x = some v ∧ Rep X ρ h v a
  cell : ∀ c ∈ env.cells.map (·.2), ∃ v₀, h.IsCell c v₀
  val : ∀ x a, getL x l = some a → (env.kindOf x = some .cell ∨ env.kindOf x = some .free) → ∃ c v, env.cells.lookup x = some c ∧ h.IsCell c (some v) ∧ Rep X ρ h v a

theorem mem_of_lookup' {x : Str} {c : Addr} : ∀ {l : List (Str × Addr)}, l.lookup x = some c → (x, c) ∈ l
  | [], e => by cases e
  | (y, d) :: r, e => by
    rw [List.lookup_cons] at e
    split at e
    · rename_i q; cases e; rw [beq_iff_eq.mp q]; exact .head _
    · exact .tail _ (mem_of_lookup' e)
theorem LocR.cellMem {env : Env} {x : Str} {c : Addr} (e : env.cells.lookup x = some c) : c ∈ own env := List.mem_cons_of_mem _ (List.mem_map.mpr ⟨_, mem_of_lookup' e, rfl⟩)

theorem LocR.mut {X : Cx} {ρ : List Addr} {env : Env} {h : Heap} {l : Loc} (r : LocR X ρ env h l) : SOk h (own env) := fun b hb o ho => by
  rcases List.mem_cons.mp hb with rfl | hb
  · obtain ⟨m, ⟨o', es, n, e, d, _⟩, _⟩ := r.ns
    rw [ho] at e; cases e; exact .inr (.inl ⟨es, n, d⟩)
  · obtain ⟨v₀, o', e, d⟩ := r.cell b hb
    rw [ho] at e; cases e; exact .inr (.inr ⟨v₀, d⟩)
theorem LocR.there {X : Cx} {ρ : List Addr} {env : Env} {h : Heap} {l : Loc} (r : LocR X ρ env h l) : ∀ b ∈ own env, ∃ o, h.get? b = some o := fun b hb => by
  rcases List.mem_cons.mp hb with rfl | hb
  · obtain ⟨m, ⟨o', es, n, e, d, _⟩, _⟩ := r.ns
    exact ⟨o', e⟩
  · obtain ⟨v₀, o', e, d⟩ := r.cell b hb
    exact ⟨o', e⟩

theorem Ns.keep {S : List Addr} {h h' : Heap} {a : Addr} {m : Str → Option Value} (hk : Keep S h h') (n : a ∉ S) (x : h.Ns a m) : h'.Ns a m := by
  obtain ⟨o, es, ep, e, d, k, f⟩ := x
  obtain ⟨sl, e', _⟩ := hk a o e n
  exact ⟨_, es, ep, e', d, k, f⟩
theorem IsCell.keep {S : List Addr} {h h' : Heap} {a : Addr} {v : Option Value} (hk : Keep S h h') (n : a ∉ S) (x : h.IsCell a v) : h'.IsCell a v := by
  obtain ⟨o, e, d⟩ := x
  obtain ⟨sl, e', _⟩ := hk a o e n
  exact ⟨_, e', d⟩

theorem LocR.keep {X : Cx} {ρ ρ' : List Addr} {env : Env} {h h' : Heap} {l : Loc} {S : List Addr} (r : LocR X ρ env h l) (hk : Keep S h h') (hs : SOk h S) (hr : Ext ρ ρ') (hn : ∀ b ∈ own env, b ∉ S) : LocR X ρ' env h' l := by
  refine ⟨?_, fun c hc => ?_, fun x a e k => ?_⟩
  · obtain ⟨m, n, f⟩ := r.ns
    refine ⟨m, Ns.keep hk (hn _ (.head _)) n, fun x a e z k => ?_⟩
    obtain ⟨v, hv, q⟩ := f x a e z k
    exact ⟨v, hv, q.mono hk hs hr⟩
  · obtain ⟨v₀, q⟩ := r.cell c hc
    exact ⟨v₀, IsCell.keep hk (hn c (.tail _ hc)) q⟩
  · obtain ⟨c, v, hc, q, z⟩ := r.val x a e k
    exact ⟨c, v, hc, IsCell.keep hk (hn c (LocR.cellMem hc)) q, z.mono hk hs hr⟩

noncomputable def Room (n : Nat) (A : Around) : Prop := A.depth + n < recursionLimit ∧ A.units + 16 * n + 200 < cLine

noncomputable def Hand (lv : Nat) (A : Around) (h : Heap) : Prop := match lv with
  | 0 => A.handled = none
  | 1 => ∃ e oe C vs, A.handled = some (.ref e) ∧ h.get? e = some oe ∧ oe.cls = .ref C ∧ oe.data = .fields vs ∧ vs[2]? = some .none
  | _ => True
theorem Hand.keep {lv : Nat} {A : Around} {h h' : Heap} {S : List Addr} (x : Hand lv A h) (hk : Keep S h h') (hs : SOk h S) : Hand lv A h' := by
  match lv, x with
  | 0, x => exact x
  | 1, ⟨e, oe, C, vs, h1, h2, h3, h4, h5⟩ =>
    exact ⟨e, _, C, vs, h1, fields_keep hk hs h2 h4 h3, h3, h4, h5⟩
  | _ + 2, _ => trivial

/-- the frames on the stack: functions' own, each a namespace -/
noncomputable def Frs (h base : Heap) (es : List Env) : Prop := ∀ e ∈ es, e.scope.kind ≠ .module ∧ ∃ L o ds n, e.frame = some L ∧ base.get? L = none ∧ h.get? L = some o ∧ o.data = .dict ds n
theorem Frs.funs {h base : Heap} : ∀ {es : List Env}, Frs h base es → h.FunFrames base es
  | [], _ => trivial
  | e :: r, x => by
    obtain ⟨k, L, o, ds, n, e1, e2, e3, e4⟩ := x e (.head _)
    exact ⟨k, ⟨L, o, e1, e2, e3, fun vs q => by rw [e4] at q; cases q⟩, Frs.funs fun e' he' => x e' (.tail _ he')⟩
theorem Frs.keep {base h h' : Heap} {S : List Addr} {es : List Env} (x : Frs h base es) (hk : Keep S h h') (hs : ∀ L ∈ es.filterMap (·.frame), L ∉ S ∨ ∃ o ds n, h'.get? L = some o ∧ o.data = .dict ds n) : Frs h' base es := fun e he => by
  obtain ⟨k, L, o, ds, n, e1, e2, e3, e4⟩ := x e he
  rcases hs L (List.mem_filterMap.mpr ⟨e, he, e1⟩) with q | ⟨o', ds', n', q1, q2⟩
  · obtain ⟨sl, e', _⟩ := hk L o e3 q
    exact ⟨k, L, _, ds, n, e1, e2, e', e4⟩
  · exact ⟨k, L, o', ds', n', e1, e2, q1, q2⟩

structure Ct (X : Cx) (n lv : Nat) (A : Around) (env : Env) (es : List Env) (ρ : List Addr) (l : Loc) (σ : Sto) (s : Shared) : Prop where
  wd : Wd X ρ σ s.heap
  kind : env.scope.kind = .function
  glob : env.globals = mainGlobals
  blt : env.builtins = builtinsNs
  loc : LocR X ρ env s.heap l
  ownr : ∀ b ∈ own env, b ∉ ρ
  ownb : ∀ b ∈ own env, X.base.get? b = none
  frame : ∃ hv r, es = hv :: r ∧ hv.frame = env.frame ∧ A.frames = some es ∧ Frs s.heap X.base es
  offr : ∀ L ∈ es.filterMap (·.frame), L ∉ ρ
  room : Room n A
  hand : Hand lv A s.heap

structure After (X : Cx) (ρ : List Addr) (s : Shared) (ρ' : List Addr) (σ' : Sto) (s' : Shared) : Prop where
  ext : Ext ρ ρ'
  new : ∀ b ∈ ρ', b ∈ ρ ∨ s.heap.get? b = none
  wd : Wd X ρ' σ' s'.heap
  keep : Keep ρ s.heap s'.heap
  same : ∃ h tk, s' = { s with heap := h, toks := tk }

theorem After.refl {X : Cx} {ρ : List Addr} {σ : Sto} {s : Shared} (w : Wd X ρ σ s.heap) : After X ρ s ρ σ s := ⟨.refl _, fun _ h => .inl h, w, .refl _ _, ⟨s.heap, s.toks, rfl⟩⟩
theorem After.tok {X : Cx} {ρ : List Addr} {σ : Sto} {s : Shared} (w : Wd X ρ σ s.heap) (t : Nat) : After X ρ s ρ σ { s with toks := t } := ⟨.refl _, fun _ h => .inl h, w, .refl _ _, ⟨s.heap, t, rfl⟩⟩
theorem After.trans {X : Cx} {ρ ρ₁ ρ₂ : List Addr} {σ₁ σ₂ : Sto} {s s₁ s₂ : Shared} (x : After X ρ s ρ₁ σ₁ s₁) (y : After X ρ₁ s₁ ρ₂ σ₂ s₂) : After X ρ s ρ₂ σ₂ s₂ := by
  refine ⟨x.ext.trans y.ext, fun b hb => ?_, y.wd, ?_, ?_⟩
  · rcases y.new b hb with q | q
    · exact x.new b q
    · by_cases hr : b ∈ ρ
      · exact .inl hr
      · refine .inr ?_
        cases z : s.heap.get? b with
        | none => rfl
        | some o => obtain ⟨sl, e, _⟩ := x.keep b o z hr; rw [q] at e; cases e
  · intro b o e n
    obtain ⟨sl, e₁, q₁⟩ := x.keep b o e n
    obtain ⟨sl', e₂, q₂⟩ := y.keep b _ e₁ fun q => (x.new b q).elim n fun z => by rw [z] at e; cases e
    exact ⟨sl', e₂, fun z => (q₂ z).trans (q₁ z)⟩
  · obtain ⟨h, tk, rfl⟩ := x.same
    obtain ⟨h', tk', rfl⟩ := y.same
    exact ⟨h', tk', rfl⟩

theorem After.rep {X : Cx} {ρ ρ' : List Addr} {σ σ' : Sto} {s s' : Shared} {v : Value} {a : AV} (x : After X ρ s ρ' σ' s') (w : Wd X ρ σ s.heap) (r : Rep X ρ s.heap v a) : Rep X ρ' s'.heap v a := r.mono x.keep w.sok x.ext
theorem After.repAll {X : Cx} {ρ ρ' : List Addr} {σ σ' : Sto} {s s' : Shared} {v : List Value} {a : List AV} (x : After X ρ s ρ' σ' s') (w : Wd X ρ σ s.heap) (r : RepAll X ρ s.heap v a) : RepAll X ρ' s'.heap v a := r.mono x.keep w.sok x.ext

theorem Frs.there {h base : Heap} {es : List Env} (x : Frs h base es) : ∀ L ∈ es.filterMap (·.frame), ∃ o, h.get? L = some o := fun L hL => by
  obtain ⟨e, he, q⟩ := List.mem_filterMap.mp hL
  obtain ⟨_, L', o, _, _, e1, _, e3, _⟩ := x e he
  rw [q] at e1; cases e1; exact ⟨o, e3⟩

theorem Ct.after {X : Cx} {n lv : Nat} {A : Around} {env : Env} {es : List Env} {ρ ρ' : List Addr} {l : Loc} {σ σ' : Sto} {s s' : Shared} (c : Ct X n lv A env es ρ l σ s) (x : After X ρ s ρ' σ' s') : Ct X n lv A env es ρ' l σ' s' := by
  obtain ⟨hv, r, e1, e2, e3, e4⟩ := c.frame
  have on : ∀ b ∈ own env, b ∉ ρ' := fun b hb q => by
    rcases x.new b q with z | z
    · exact c.ownr b hb z
    · obtain ⟨o, e⟩ := c.loc.there b hb; rw [z] at e; cases e
  refine ⟨x.wd, c.kind, c.glob, c.blt, c.loc.keep x.keep c.wd.sok x.ext c.ownr, on, c.ownb, ⟨hv, r, e1, e2, e3, e4.keep x.keep fun L hL => .inl (c.offr L hL)⟩, fun L hL q => ?_, c.room, c.hand.keep x.keep c.wd.sok⟩
  rcases x.new L q with z | z
  · exact c.offr L hL z
  · obtain ⟨o, e⟩ := e4.there L hL; rw [z] at e; cases e

theorem Ct.tok {X : Cx} {n lv : Nat} {A : Around} {env : Env} {es : List Env} {ρ : List Addr} {l : Loc} {σ : Sto} {s : Shared} (c : Ct X n lv A env es ρ l σ s) (t : Nat) : Ct X n lv A env es ρ l σ { s with toks := t } :=
  c.after (After.tok c.wd t)

/-- a new immutable or private object -/
theorem After.push {X : Cx} {ρ : List Addr} {σ : Sto} {s : Shared} (w : Wd X ρ σ s.heap) (o : Obj) (t : Nat) : After X ρ s ρ σ { s with heap := s.heap.push o, toks := t } := by
  have st : s.heap.StaysIn (s.heap.push o) := fun b o' e => Heap.get?_push_of_some _ e
  have k : Keep [] s.heap (s.heap.push o) := Keep.of_stays st
  exact ⟨.refl _, fun _ h => .inl h, w.step k (fun b hb => (nomatch hb)) (fun b o' e => st b o' (w.stays b o' e)) (fun b hb => (nomatch hb)), k.mono (fun b hb => (nomatch hb)), ⟨_, _, rfl⟩⟩
/-- heaps that only grow -/
theorem After.grow {X : Cx} {ρ : List Addr} {σ : Sto} {s : Shared} {h' : Heap} (w : Wd X ρ σ s.heap) (st : s.heap.StaysIn h') (t : Nat) : After X ρ s ρ σ { s with heap := h', toks := t } := by
  have k : Keep [] s.heap h' := Keep.of_stays st
  exact ⟨.refl _, fun _ h => .inl h, w.step k (fun b hb => (nomatch hb)) (fun b o' e => st b o' (w.stays b o' e)) (fun b hb => (nomatch hb)), k.mono (fun b hb => (nomatch hb)), ⟨_, _, rfl⟩⟩
/-- a new list -/
theorem After.list {X : Cx} {ρ : List Addr} {σ : Sto} {s : Shared} {h' : Heap} {a : Addr} {vs : List Value} {xs : List AV} (w : Wd X ρ σ s.heap) (st : s.heap.StaysIn h') (hn : s.heap.get? a = none) (hl : IsL h' a vs) (hz : vs.length ≤ bigN + 1) (ra : RepAll X ρ s.heap vs xs) (t : Nat) :
    After X ρ s (ρ ++ [a]) (σ ++ [.list xs]) { s with heap := h', toks := t } := by
  have k : Keep [] s.heap h' := Keep.of_stays st
  refine ⟨Ext.app _ _, fun b hb => ?_, w.newList k (fun b o' e => st b o' (w.stays b o' e)) hn hl hz ra, k.mono (fun b hb => (nomatch hb)), ⟨_, _, rfl⟩⟩
  rcases List.mem_append.mp hb with q | q
  · exact .inl q
  · rw [List.mem_singleton.mp q]; exact .inr hn
theorem ref_new {X : Cx} {ρ : List Addr} {σ : Sto} {h h' : Heap} {a : Addr} (w : Wd X ρ σ h) : Rep X (ρ ++ [a]) h' (.ref a) (.ref σ.length) := .ref (by rw [← w.len]; simp)

end Mine

/- S3 -/
set_option tactic.hygienic true
/-! Mine: the operators. -/
namespace Mine
open PySem PySem.Spec PySem.Calls PyProof.Rows

section
variable {prog : Program} {w : World} {A : Around} {E : Value → Shared → Prop} {s : Shared} {X : Cx} {ρ : List Addr} {σ σ' : Sto} {mg mb : Str → Option Value}

/-- the globals at hand -/
structure Gl (mg mb : Str → Option Value) (h : Heap) : Prop where
  g : h.Ns mainGlobals mg
  b : h.Ns builtinsNs mb
/-- what an operator gives -/
noncomputable def Gv (X : Cx) (ρ : List Addr) (s : Shared) (a : AV) (σ' : Sto) (v : Value) (s' : Shared) : Prop := ∃ ρ', After X ρ s ρ' σ' s' ∧ Rep X ρ' s'.heap v a

theorem Gv.same (w : Wd X ρ σ s.heap) {v : Value} {a : AV} (r : Rep X ρ s.heap v a) : Gv X ρ s a σ v s := ⟨ρ, .refl w, r⟩
theorem Gv.tok (w : Wd X ρ σ s.heap) {v : Value} {a : AV} (t : Nat) (r : Rep X ρ s.heap v a) : Gv X ρ s a σ v { s with toks := t } := ⟨ρ, .tok w t, r⟩

theorem repInts {h : Heap} : ∀ {vs : List Value} {ns : List Int}, IntsAre vs ns → RepAll X ρ h vs (ns.map .int)
  | _, _, .nil => .nil
  | _, _, .cons _ _ r => .cons (.int _ _) (repInts r)
theorem Rep.isList {v : Value} {xs : List AV} (w : Wd X ρ σ s.heap) {a : AV} (r : Rep X ρ s.heap v a) (e : listOf? σ a = some xs) : ∃ l vs, v = .ref l ∧ s.heap.IsList l vs.toArray ∧ vs.length ≤ bigN + 1 ∧ RepAll X ρ s.heap vs xs := by
  cases r with
  | ref h =>
    rename_i a n
    simp only [listOf?] at e
    split at e
    · rename_i ys hy
      cases e
      obtain ⟨b, hb, vs, il, z, ra⟩ := w.objs n _ hy
      rw [h] at hb; cases hb
      exact ⟨a, vs, rfl, il.is, z, ra⟩
    · cases e
  | frozen z b i =>
    rename_i a vs ns
    simp only [listOf?] at e
    cases e
    obtain ⟨o, ho, hc, hd⟩ := b
    exact ⟨a, vs, rfl, ⟨o, w.stays _ _ ho, hc, hd⟩, by rw [i.length]; omega, repInts i⟩
  | _ => simp [listOf?] at e

theorem truth_ok {v : Value} {a : AV} {b : Bool} (W : Wd X ρ σ s.heap) (r : Rep X ρ s.heap v a) (e : truth σ a = some b) {Q : Bool → Shared → Prop} (h : ∀ t, Q b { s with toks := t }) :
    wpAny (model prog w) A (truthy v) Q E s := by
  have lists : (listOf? σ a).map (fun xs => !xs.isEmpty) = some b → wpAny (model prog w) A (truthy v) Q E s := fun e => by
    cases q : listOf? σ a with
    | none => rw [q] at e; cases e
    | some xs =>
      rw [q] at e; cases e
      obtain ⟨l, vs, rfl, il, hl, ra⟩ := r.isList W q
      have hv := ra.length
      refine wpAny_truthy_list il (by simp only [List.size_toArray]; unfold bigN at hl; omega) ?_
      have : (!vs.toArray.isEmpty) = !xs.isEmpty := by
        cases vs <;> cases xs <;> simp_all
      rw [this]; exact h _
  cases r with
  | none => cases e; exact truthy_none (h s.toks)
  | bool b' => cases e; exact wpAny_truthy_bool (h s.toks)
  | ref h' => exact lists e
  | frozen z b i => exact lists e
  | _ => exact lists e

theorem newL_ok {vs : List Value} {xs : List AV} {a : AV} (W : Wd X ρ σ s.heap) (r : RepAll X ρ s.heap vs xs) (e : newL xs σ = .ok a σ') : wpAny (model prog w) A (newList vs) (Gv X ρ s a σ') E s := by
  unfold newL at e
  cases hb : Nat.ble xs.length bigN with
  | false => rw [hb] at e; cases e
  | true =>
    rw [hb] at e; cases e
    have hl := Nat.le_of_ble_eq_true hb
    have hv := r.length
    have hn : s.heap.get? s.heap.objs.size = none := by cases q : s.heap.get? s.heap.objs.size with | none => rfl | some o => exact absurd (Heap.lt_size q) (Nat.lt_irrefl _)
    refine wpAny_newObj_type ?_ (by show vs.toArray.size ≤ sizeLine; rw [List.size_toArray, hv]; unfold bigN at hl; rw [sizeLine_eq]; omega)
    exact ⟨_, After.list W (fun b o e => Heap.get?_push_of_some _ e) hn ⟨_, 0, Heap.get?_push_size _ rfl, rfl, rfl, rfl⟩ (by omega) r s.toks, ref_new W⟩

/-- a list that a rule has made, all else kept -/
theorem made_list {vs : List Value} {xs : List AV} {a : AV} {l : Addr} {s' : Shared} (W : Wd X ρ σ s.heap) (r : RepAll X ρ s.heap vs xs) (e : newL xs σ = .ok a σ') (hk : s.heap.StaysIn s'.heap) (hn : s.heap.get? l = none) (hl : IsL s'.heap l vs)
    (hs : ∃ h t, s' = { s with heap := h, toks := t }) : Gv X ρ s a σ' (.ref l) s' := by
  unfold newL at e
  cases hb : Nat.ble xs.length bigN with
  | false => rw [hb] at e; cases e
  | true =>
    rw [hb] at e; cases e
    have hz := Nat.le_of_ble_eq_true hb
    have hv := r.length
    obtain ⟨h, t, rfl⟩ := hs
    exact ⟨_, After.list W hk hn hl (by omega) r t, ref_new W⟩

theorem size_none (h : Heap) : h.get? h.objs.size = none := by
  cases q : h.get? h.objs.size with
  | none => rfl
  | some o => exact absurd (Heap.lt_size q) (Nat.lt_irrefl _)

theorem newL_len {xs : List AV} {a : AV} (e : newL xs σ = .ok a σ') : xs.length ≤ bigN := by
  unfold newL at e
  cases hb : Nat.ble xs.length bigN with
  | false => rw [hb] at e; cases e
  | true => exact Nat.le_of_ble_eq_true hb

theorem bits_small {x : Int} (h : small x = true) : Builtin.Int.intBits x ≤ 2 ^ 20 := by
  unfold small at h
  have h := of_decide_eq_true h
  unfold Builtin.Int.intBits
  split
  · omega
  · rename_i h0
    have : x.natAbs.log2 < 1000 := (Nat.log2_lt (by simpa using h0)).mpr h
    omega
theorem log_small {x : Int} (h : small x = true) : x.natAbs.log2 < 9000 := by
  unfold small at h
  have h := of_decide_eq_true h
  by_cases h0 : x.natAbs = 0
  · rw [h0]; decide
  · have : x.natAbs.log2 < 1000 := (Nat.log2_lt h0).mpr h
    omega

theorem intR_inv {b a : AV} {f : Int → Out AV} (e : intR b f = .ok a σ') : ∃ y, b = .int y ∧ f y = .ok a σ' := by
  cases b with
  | int y => exact ⟨y, rfl, e⟩
  | _ => exact nomatch (show Out.bad = .ok a σ' from e)
theorem strR_inv {b a : AV} {f : Str → Out AV} (e : strR b f = .ok a σ') : ∃ y, b = .str y ∧ f y = .ok a σ' := by
  cases b with
  | str y => exact ⟨y, rfl, e⟩
  | _ => exact nomatch (show Out.bad = .ok a σ' from e)
theorem lstR_inv {b a : AV} {f : List AV → Out AV} (e : lstR σ b f = .ok a σ') : ∃ ys, listOf? σ b = some ys ∧ f ys = .ok a σ' := by
  unfold lstR at e
  cases h : listOf? σ b with
  | none => rw [h] at e; exact nomatch e
  | some ys => rw [h] at e; exact ⟨ys, rfl, e⟩
theorem cond_inv {c : Bool} {a b : AV} {τ : Sto} (e : (bif c then Out.ok b τ else .bad) = .ok a σ') : c = true ∧ b = a ∧ τ = σ' := by
  cases c with
  | false => exact nomatch (show Out.bad = .ok a σ' from e)
  | true => cases (show Out.ok b τ = .ok a σ' from e); exact ⟨rfl, rfl, rfl⟩
theorem add_ok {vx vy : Value} {x y a : AV} (g : Gl mg mb s.heap) (W : Wd X ρ σ s.heap) (rx : Rep X ρ s.heap vx x) (ry : Rep X ρ s.heap vy y) (e : addA x y σ = .ok a σ') : wpAny (model prog w) A (binaryOp .Add vx vy) (Gv X ρ s a σ') E s := by
  cases x with
  | int i =>
    obtain ⟨j, rfl, q⟩ := intR_inv (show intR y _ = _ from e)
    obtain ⟨_, rfl⟩ := rx.int_inv; obtain ⟨_, rfl⟩ := ry.int_inv; cases q
    exact P.add_int (Gv.tok W _ (.int _ _))
  | str i =>
    obtain ⟨j, rfl, q⟩ := strR_inv (show strR y _ = _ from e)
    obtain ⟨hc, rfl, rfl⟩ := cond_inv q
    obtain ⟨_, rfl⟩ := rx.str_inv; obtain ⟨_, rfl⟩ := ry.str_inv
    have hz := Nat.le_of_ble_eq_true hc
    exact PyProof.Rows.add_str (fun t' k => Gv.tok W _ (.str _ _)) (by unfold bigN at hz; rw [sizeLine_eq]; omega)
  | ref m =>
    obtain ⟨xs, hm, q⟩ := lstR_inv (show lstR σ (.ref m) _ = _ from e)
    obtain ⟨ys, hn, q⟩ := lstR_inv q
    obtain ⟨l₁, vs, rfl, il, _, ra⟩ := rx.isList W hm
    obtain ⟨l₂, ws, rfl, il', _, ra'⟩ := ry.isList W hn
    have hz := newL_len q
    rw [List.length_append, ← ra.length, ← ra'.length] at hz
    obtain ⟨⟨cls, dd, data, sl⟩, ho, hc, n₁, hd⟩ := id il
    obtain ⟨⟨cls2, dd2, data2, sl2⟩, ho2, hc2, n₂, hd2⟩ := id il'
    simp only at hc hd hc2 hd2
    subst hc hd hc2 hd2
    refine concat_meets ⟨_, ho, rfl⟩ ⟨_, ho2, rfl⟩ noFill_list_add seq_list_add PySem.F.slot_list_add PySem.F.entry_list_add (PySem.F.args_list_add_2 _ _) (list_addW l₁ l₂ vs.toArray ws.toArray n₁ n₂ dd dd2 sl sl2 (by unfold bigN at hz; rw [sizeLine_eq]; simp only [List.size_toArray]; omega)) ⟨ho, ho2, ?_⟩
    rw [show vs.toArray ++ ws.toArray = (vs ++ ws).toArray by simp]
    exact made_list W (ra.append ra') q (fun b o e => Heap.get?_push_of_some _ e) (size_none _) ⟨_, 0, Heap.get?_push_size _ rfl, rfl, rfl, rfl⟩ ⟨_, s.toks, rfl⟩
  | _ => exact nomatch (show Out.bad = .ok a σ' from e)
theorem mul_ok {vx vy : Value} {x y a : AV} (W : Wd X ρ σ s.heap) (rx : Rep X ρ s.heap vx x) (ry : Rep X ρ s.heap vy y) (e : mulA x y σ = .ok a σ') : wpAny (model prog w) A (binaryOp .Mult vx vy) (Gv X ρ s a σ') E s := by
  cases x with
  | int i =>
    obtain ⟨j, rfl, q⟩ := intR_inv (f := fun y => bif small i && small y then .ok (.int (i * y)) σ else .bad) e
    obtain ⟨hs, rfl, rfl⟩ := cond_inv q
    obtain ⟨_, rfl⟩ := rx.int_inv; obtain ⟨_, rfl⟩ := ry.int_inv
    have hb := Bool.and_eq_true_iff.mp hs
    exact P.mul_int (Gv.tok W _ (.int _ _)) (IntMulOk.of_bits (bits_small hb.1) (bits_small hb.2))
  | str i =>
    obtain ⟨j, rfl, q⟩ := intR_inv (show (intR y fun y => bif decide (y = 3) && Nat.ble i.length bigN then .ok (.str (Txt.mul i y)) σ else .bad) = _ from e)
    obtain ⟨hc, rfl, rfl⟩ := cond_inv q
    obtain ⟨_, rfl⟩ := rx.str_inv; obtain ⟨_, rfl⟩ := ry.int_inv
    have hb := Bool.and_eq_true_iff.mp hc
    have h1 := of_decide_eq_true hb.1
    have hz := Nat.le_of_ble_eq_true hb.2
    subst h1
    refine SB.mul ?_ (fun t' k => Gv.tok W _ (.str _ _))
    unfold bigN at hz
    refine ⟨by decide, fun _ _ => ?_, fun _ _ => ?_⟩
    · omega
    · have h6 : i.length * (3 : Int).toNat ≤ 2 ^ 20 * 3 := Nat.mul_le_mul hz (by decide)
      simp only [Builtin.Str.tooLong, decide_eq_false_iff_not, sizeLine_eq]
      omega
  | _ => exact nomatch (show Out.bad = .ok a σ' from e)
theorem binop_ok {op : Operator} {vx vy : Value} {x y a : AV} (g : Gl mg mb s.heap) (W : Wd X ρ σ s.heap) (rx : Rep X ρ s.heap vx x) (ry : Rep X ρ s.heap vy y) (e : binop op x y σ = .ok a σ') : wpAny (model prog w) A (binaryOp op vx vy) (Gv X ρ s a σ') E s := by
  cases op with
  | Add => exact add_ok g W rx ry e
  | Mult => exact mul_ok W rx ry e
  | Sub =>
    obtain ⟨i, rfl, q⟩ := intR_inv (show intR x _ = _ from e)
    obtain ⟨j, rfl, q⟩ := intR_inv q
    obtain ⟨_, rfl⟩ := rx.int_inv; obtain ⟨_, rfl⟩ := ry.int_inv; cases q
    exact P.sub_int (Gv.tok W _ (.int _ _))
  | Mod =>
    obtain ⟨i, rfl, q⟩ := intR_inv (show intR x _ = _ from e)
    obtain ⟨j, rfl, q⟩ := intR_inv q
    obtain ⟨hc, rfl, rfl⟩ := cond_inv q
    obtain ⟨_, rfl⟩ := rx.int_inv; obtain ⟨_, rfl⟩ := ry.int_inv
    exact mod_int' (Int.ne_of_gt (of_decide_eq_true hc)) (Gv.tok W _ (.int _ _))
  | FloorDiv =>
    obtain ⟨i, rfl, q⟩ := intR_inv (f := fun x => intR y fun y => bif decide (0 < y) && small y then .ok (.int (x.fdiv y)) σ else .bad) e
    obtain ⟨j, rfl, q⟩ := intR_inv (f := fun y => bif decide (0 < y) && small y then .ok (.int (i.fdiv y)) σ else .bad) e
    obtain ⟨hs, rfl, rfl⟩ := cond_inv q
    obtain ⟨_, rfl⟩ := rx.int_inv; obtain ⟨_, rfl⟩ := ry.int_inv
    have hb := Bool.and_eq_true_iff.mp hs
    exact PyProof.Rows.floordiv_int (Int.ne_of_gt (of_decide_eq_true hb.1)) (Gv.tok W _ (.int _ _)) (.inl (PyProof.noPylong_of_log2 (log_small hb.2)))
  | Pow =>
    obtain ⟨i, rfl, q⟩ := intR_inv (show intR x _ = _ from e)
    obtain ⟨j, rfl, q⟩ := intR_inv q
    obtain ⟨hc, rfl, rfl⟩ := cond_inv q
    obtain ⟨_, rfl⟩ := rx.int_inv; obtain ⟨_, rfl⟩ := ry.int_inv
    have hb := Bool.and_eq_true_iff.mp hc
    have h1 := of_decide_eq_true hb.1
    have h2 := of_decide_eq_true hb.2
    exact PyProof.Rows.pow_int (by omega) h2 (Gv.tok W _ (.int _ _))
  | _ => exact nomatch (show Out.bad = .ok a σ' from e)
end
end Mine

/- S4 -/
set_option tactic.hygienic true
/-! Mine: comparisons, items, unary operators. -/
namespace Mine
open PySem PySem.Spec PySem.Calls PyProof.Rows
section
variable {prog : Program} {w : World} {A : Around} {E : Value → Shared → Prop} {s : Shared} {X : Cx} {ρ : List Addr} {σ σ' : Sto} {mg mb : Str → Option Value}

theorem allP_all {h : Heap} {f : AV → Option PyData} {d : Nat} (hf : ∀ v a p, Rep X ρ h v a → f a = some p → (∃ as, Reads h v p as) ∧ p.canLay0 = true ∧ p.depth ≤ d) :
    ∀ {vs : List Value} {xs : List AV} {ps : List PyData}, RepAll X ρ h vs xs → allP f xs = some ps → (∃ as, ReadsAll h vs ps as) ∧ PyData.canLayAll0 ps = true ∧ PyData.depthAll ps ≤ d
  | _, _, _, .nil, e => by
    simp only [allP] at e; cases e
    exact ⟨⟨_, .nil⟩, by simp [PyData.canLayAll0], by simp [PyData.depthAll]⟩
  | _, _, _, .cons (x := x) (xs := xs) r rs, e => by
    simp only [allP] at e
    cases q : f x with
    | none => rw [q] at e; cases e
    | some p =>
      cases q' : allP f xs with
      | none => rw [q, q'] at e; cases e
      | some ps =>
        rw [q, q'] at e; cases e
        obtain ⟨⟨as, a1⟩, a2, a3⟩ := hf _ _ _ r q
        obtain ⟨⟨bs, b1⟩, b2, b3⟩ := allP_all hf rs q'
        exact ⟨⟨_, .cons a1 b1⟩, by simp [PyData.canLayAll0, a2, b2], by simp only [PyData.depthAll]; omega⟩

theorem plain_reads (W : Wd X ρ σ s.heap) : ∀ (d : Nat) (v : Value) (a : AV) (p : PyData), Rep X ρ s.heap v a → plainD σ d a = some p → (∃ as, Reads s.heap v p as) ∧ p.canLay0 = true ∧ p.depth ≤ d
  | 0, v, a, p, r, e => by simp [plainD] at e
  | d + 1, v, a, p, r, e => by
    cases r with
    | none => simp only [plainD] at e; cases e; exact ⟨⟨_, .none⟩, by simp [PyData.canLay0], by simp [PyData.depth]⟩
    | bool b => simp only [plainD] at e; cases e; exact ⟨⟨_, .bool _⟩, by simp [PyData.canLay0], by simp [PyData.depth]⟩
    | int i t => simp only [plainD] at e; cases e; exact ⟨⟨_, .int _ _⟩, by simp [PyData.canLay0], by simp [PyData.depth]⟩
    | str x t =>
      simp only [plainD] at e
      cases hx : PyData.strOk x with
      | false => rw [hx] at e; cases e
      | true => rw [hx] at e; cases e; exact ⟨⟨_, .str _ _⟩, by simp [PyData.canLay0, hx], by simp [PyData.depth]⟩
    | tup z t ra =>
      rename_i a vs xs
      simp only [plainD] at e
      cases q : allP (plainD σ d) xs with
      | none => rw [q] at e; cases e
      | some ps =>
        rw [q] at e; cases e
        obtain ⟨⟨as, a1⟩, a2, a3⟩ := allP_all (plain_reads W d) ra q
        obtain ⟨o, ho, hc, n, hd⟩ := t
        exact ⟨⟨_, .tuple ho hc hd (by simpa using a1)⟩, by simpa [PyData.canLay0] using a2, by simp only [PyData.depth]; omega⟩
    | ref hr =>
      rename_i b n
      simp only [plainD] at e
      cases hn : σ[n]? with
      | none => rw [hn] at e; cases e
      | some ob =>
        cases ob with
        | dict es => rw [hn] at e; cases e
        | list xs =>
          rw [hn] at e
          simp only at e
          cases q : allP (plainD σ d) xs with
          | none => rw [q] at e; cases e
          | some ps =>
            rw [q] at e; cases e
            obtain ⟨b', hb', vs, il, z, ra⟩ := W.objs n _ hn
            rw [hr] at hb'; cases hb'
            obtain ⟨⟨as, a1⟩, a2, a3⟩ := allP_all (plain_reads W d) ra q
            obtain ⟨o, ho, hc, k, hd⟩ := il.is
            exact ⟨⟨_, .list ho hc hd (by simpa using a1)⟩, by simpa [PyData.canLay0] using a2, by simp only [PyData.depth]; omega⟩
    | _ => simp [plainD] at e

theorem isNone_rep {v : Value} {a : AV} {h : Heap} (r : Rep X ρ h v a) : plainIs v .none = true ∧ (v == .none) = isNone a := by
  cases r with
  | typ t q => rcases q with ⟨n, rfl⟩ | ⟨C, rfl⟩ <;> exact ⟨rfl, rfl⟩
  | _ => exact ⟨rfl, rfl⟩

theorem cmpop_ok {op : CmpOp} {vx vy : Value} {x y a : AV} (W : Wd X ρ σ s.heap) (rx : Rep X ρ s.heap vx x) (ry : Rep X ρ s.heap vy y) (hu : A.units + 64 < cLine) (e : cmpop op x y σ = .ok a σ') : wpAny (model prog w) A (compareOp op vx vy) (Gv X ρ s a σ') E s := by
  unfold cmpop at e
  split at e
  · cases hy : isNone y with
    | false => rw [hy] at e; cases e
    | true =>
      rw [hy] at e; cases e
      obtain ⟨rfl, rfl⟩ := ry.isNone_inv hy
      have q := isNone_rep rx
      refine wpAny_is_plain q.1 ?_
      rw [q.2]; exact Gv.same W (.bool _)
  · cases hy : isNone y with
    | false => rw [hy] at e; cases e
    | true =>
      rw [hy] at e; cases e
      obtain ⟨rfl, rfl⟩ := ry.isNone_inv hy
      have q := isNone_rep rx
      refine wpAny_isNot_plain q.1 ?_
      rw [q.2]; exact Gv.same W (.bool _)
  · unfold eqv at e
    cases hx : plainD σ 16 x with
    | none => rw [hx] at e; cases e
    | some p =>
      cases hy : plainD σ 16 y with
      | none => rw [hx, hy] at e; cases e
      | some q =>
        rw [hx, hy] at e; cases e
        obtain ⟨⟨as, a1⟩, a2, a3⟩ := plain_reads W 16 _ _ _ rx hx
        obtain ⟨⟨bs, b1⟩, b2, b3⟩ := plain_reads W 16 _ _ _ ry hy
        show wpAny _ _ (richCompare .Eq vx vy) _ _ _
        exact SeqAt.eqOverData prog w A E s _ _ _ _ _ _ _ a1 b1 a2 b2 (by have := Nat.min_le_left p.depth q.depth; omega) (Gv.same W (.bool _))
  · unfold eqv at e
    cases hx : plainD σ 16 x with
    | none => rw [hx] at e; cases e
    | some p =>
      cases hy : plainD σ 16 y with
      | none => rw [hx, hy] at e; cases e
      | some q =>
        rw [hx, hy] at e; cases e
        obtain ⟨⟨as, a1⟩, a2, a3⟩ := plain_reads W 16 _ _ _ rx hx
        obtain ⟨⟨bs, b1⟩, b2, b3⟩ := plain_reads W 16 _ _ _ ry hy
        show wpAny _ _ (richCompare .NotEq vx vy) _ _ _
        exact SeqAt.neOverData prog w A E s _ _ _ _ _ _ _ a1 b1 a2 b2 (by have := Nat.min_le_left p.depth q.depth; omega) (Gv.same W (.bool _))
  · split at e
    · obtain ⟨_, rfl⟩ := rx.int_inv; obtain ⟨_, rfl⟩ := ry.int_inv; cases e; exact P.lt_int (Gv.same W (.bool _))
    · cases e
  · split at e
    · obtain ⟨_, rfl⟩ := rx.int_inv; obtain ⟨_, rfl⟩ := ry.int_inv; cases e; exact P.le_int (Gv.same W (.bool _))
    · cases e
  · split at e
    · obtain ⟨_, rfl⟩ := rx.int_inv; obtain ⟨_, rfl⟩ := ry.int_inv; cases e; exact P.gt_int (Gv.same W (.bool _))
    · cases e
  · split at e
    · obtain ⟨_, rfl⟩ := rx.int_inv; obtain ⟨_, rfl⟩ := ry.int_inv; cases e; exact P.ge_int (Gv.same W (.bool _))
    · cases e
  · split at e
    · rename_i i es hd
      exfalso
      unfold dictOf? at hd
      split at hd
      · rename_i n
        split at hd
        · rename_i hn
          obtain ⟨_, _, q⟩ := W.objs n _ hn
          exact q
        · cases hd
      · cases hd
    · cases e
  · split at e
    · rename_i i es hd
      exfalso
      unfold dictOf? at hd
      split at hd
      · rename_i n
        split at hd
        · rename_i hn
          obtain ⟨_, _, q⟩ := W.objs n _ hn
          exact q
        · cases hd
      · cases hd
    · cases e

theorem unop_ok {op : UnaryOp} {vx : Value} {x a : AV} (W : Wd X ρ σ s.heap) (rx : Rep X ρ s.heap vx x) (e : unop op x σ = .ok a σ') : wpAny (model prog w) A (unaryOp op vx) (Gv X ρ s a σ') E s := by
  unfold unop at e
  split at e
  · obtain ⟨_, rfl⟩ := rx.int_inv; cases e
    exact P.neg_int (Gv.tok W _ (.int _ _))
  · cases ht : truth σ x with
    | none => rw [ht] at e; cases e
    | some b =>
      rw [ht] at e; cases e
      exact not_of (truth_ok W rx ht fun t => Gv.tok W _ (.bool _))
  · cases e

theorem truthO_ok {vx : Value} {x : AV} {b : Bool} (W : Wd X ρ σ s.heap) (rx : Rep X ρ s.heap vx x) (e : truthO x σ = .ok b σ') : wpAny (model prog w) A (truthy vx) (fun r s' => r = b ∧ ∃ t, s' = { s with toks := t } ∧ σ' = σ) E s := by
  unfold truthO at e
  cases ht : truth σ x with
  | none => rw [ht] at e; cases e
  | some b' =>
    rw [ht] at e; cases e
    exact truth_ok W rx ht fun t => ⟨rfl, t, rfl, rfl⟩
end
end Mine

/- S5 -/
set_option tactic.hygienic false
/-! Mine: o[i]. -/
namespace Mine
open PySem PySem.Spec PySem.Calls PyProof.Rows
section
variable {prog : Program} {w : World} {A : Around} {E : Value → Shared → Prop} {s : Shared} {X : Cx} {ρ : List Addr} {σ σ' : Sto} {mg mb : Str → Option Value}

theorem subscripted_ops (slice : Expr) (o i : Value) : ∃ ops, subscripted slice false o i = operate ops (getItem o i) := by
  cases slice with
  | Slice l u st p => cases st <;> exact ⟨_, rfl⟩
  | _ => exact ⟨_, rfl⟩

theorem IsPartV.is {v : Value} {p : Option Int} (h : IsPartV v p) : IsPart v p := by
  cases p with
  | none => rw [show v = .none from h]; exact .none
  | some i => obtain ⟨t, rfl⟩ := h; exact .int i t

theorem pick_from (vs : List Value) {a : Int} (h : 0 ≤ a) : (slicePick vs.toArray (some a) none none) = (vs.drop a.toNat).toArray := by
  have e : sliceBounds (some a) none none vs.toArray.size = (((min a.toNat vs.length : Nat) : Int), ((vs.length : Nat) : Int), 1) := by
    simp only [sliceBounds, Option.getD_none, List.size_toArray, show (1 : Int) > 0 by decide, if_true]
    rw [if_neg (by omega)]
    refine Prod.ext ?_ (Prod.ext rfl rfl)
    show max 0 (min a (vs.length : Int)) = _
    omega
  rw [PySem.W.kmk_pick_nat _ e]
  simp only [List.take_of_length_le, List.length_drop, Nat.le_refl]
  rw [PySem.W.kmk_drop_min]
theorem pick_upto (vs : List Value) {b : Int} (h : 0 ≤ b) : (slicePick vs.toArray none (some b) none) = (vs.take b.toNat).toArray := by
  have e : sliceBounds none (some b) none vs.toArray.size = (((0 : Nat) : Int), ((min b.toNat vs.length : Nat) : Int), 1) := by
    simp only [sliceBounds, Option.getD_none, List.size_toArray, show (1 : Int) > 0 by decide, if_true]
    rw [if_neg (by omega)]
    refine Prod.ext rfl (Prod.ext ?_ rfl)
    show max 0 (min b (vs.length : Int)) = ((min b.toNat vs.length : Nat) : Int)
    omega
  rw [PySem.W.kmk_pick_nat _ e]
  simp only [List.drop_zero, Nat.sub_zero]
  rw [PySem.W.kmk_take_min]

theorem getItem_str_sl {x : Str} {t : Tok} {a : Addr} {o : Obj} {u v : Value} {p q : Option Int} {Q : Value → Shared → Prop} (ho : s.heap.get? a = some o) (hc : o.cls = .type "slice") (hd : o.data = .fields #[u, v, .none]) (hu : IsPartV u p) (hv : IsPartV v q) (hz : x.length ≤ bigN)
    (h : ∀ t' k, Q (.str (Txt.slice x p q) t') { s with toks := k }) : wpAny (model prog w) A (getItem (.str x t) (.ref a)) Q E s := by
  have hz' : x.length ≤ sizeLine := by unfold bigN at hz; rw [sizeLine_eq]; omega
  cases p with
  | none =>
    have e1 : u = .none := hu
    subst e1
    cases q with
    | none =>
      have e2 : v = .none := hv
      subst e2
      exact wpAny_getItem_str_slice (l := none) (u := none) (st := none) ⟨_, ho, hc, hd⟩ rfl (post_val_or_str ⟨Nat.le_trans (Txt.slice_le x _ _) hz', h⟩)
    | some j =>
      obtain ⟨uj, rfl⟩ := hv
      exact wpAny_getItem_str_slice (l := none) (u := some (j, uj)) (st := none) ⟨_, ho, hc, hd⟩ rfl (post_val_or_str ⟨Nat.le_trans (Txt.slice_le x _ _) hz', h⟩)
  | some i =>
    obtain ⟨ui, rfl⟩ := hu
    cases q with
    | none =>
      have e2 : v = .none := hv
      subst e2
      exact wpAny_getItem_str_slice (l := some (i, ui)) (u := none) (st := none) ⟨_, ho, hc, hd⟩ rfl (post_val_or_str ⟨Nat.le_trans (Txt.slice_le x _ _) hz', h⟩)
    | some j =>
      obtain ⟨uj, rfl⟩ := hv
      exact wpAny_getItem_str_slice (l := some (i, ui)) (u := some (j, uj)) (st := none) ⟨_, ho, hc, hd⟩ rfl (post_val_or_str ⟨Nat.le_trans (Txt.slice_le x _ _) hz', h⟩)

/-- an item's look at a type and its road -/
theorem tail_on {value slice : Expr} {o i : Value} {T id : String} {Q : Value → Shared → Prop} (hT : s.TypeIs o T) (hl : typeLookup (.type T) "__getitem__" = pure (some (.builtin id))) (hg : wpAny (model prog w) A (getItem o i) Q E s) :
    wpAny (model prog w) A (subscriptTail value slice o i) Q E s := by
  obtain ⟨ops, e⟩ := subscripted_ops slice o i
  exact tail_any hT hl hg e

theorem optA_ok {r : Option AV} {a : AV} (e : optA r σ = .ok a σ') : r = some a ∧ σ' = σ := by
  unfold optA at e
  cases r with
  | none => cases e
  | some v => cases e; exact ⟨rfl, rfl⟩

theorem item_ok {value sl : Expr} {vo vi : Value} {o i a : AV} (W : Wd X ρ σ s.heap) (ro : Rep X ρ s.heap vo o) (ri : Rep X ρ s.heap vi i) (e : item o i σ = .ok a σ') : wpAny (model prog w) A (subscriptTail value sl vo vi) (Gv X ρ s a σ') E s := by
  have lists : ∀ (l : Addr) (vs : List Value) (xs : List AV) (k : Int) (t : Tok), s.heap.IsList l vs.toArray → vs.length ≤ bigN + 1 → RepAll X ρ s.heap vs xs → at? xs k = some a → σ' = σ → wpAny (model prog w) A (subscriptTail value sl (.ref l) (.int k t)) (Gv X ρ s a σ') E s := by
    intro l vs xs k t il z ra e' hs
    clear e
    rename _ = some a => e
    subst hs
    refine tail_on il.typeIs slot_list_getitem.lookup ?_
    have hlen := ra.length
    unfold bigN at z
    unfold at? at e
    cases h0 : decide (0 ≤ k) with
    | true =>
      rw [h0] at e
      simp only [cond_true] at e
      obtain ⟨v, hv, r⟩ := ra.get e
      have hk := (List.getElem?_eq_some_iff.mp hv).1
      have h0 := of_decide_eq_true h0
      exact wpAny_getItem_list il h0 (by omega) (by simpa using hv) (Gv.same W r)
    | false =>
      rw [h0] at e
      simp only [cond_false] at e
      have h0 := of_decide_eq_false h0
      cases h1 : decide (0 ≤ k + (xs.length : Int)) with
      | false => rw [h1] at e; cases e
      | true =>
        rw [h1] at e
        simp only [cond_true] at e
        have h1 := of_decide_eq_true h1
        obtain ⟨v, hv, r⟩ := ra.get e
        exact wpAny_getItem_list_neg il (by omega) (by rw [List.size_toArray, hlen]; omega) (by omega) (by simpa [hlen] using hv) (Gv.same W r)
  unfold item at e
  set_option tactic.hygienic true in split at e
  · rename_i k
    obtain ⟨t, rfl⟩ := ri.int_inv
    set_option tactic.hygienic true in split at e
    · rename_i xs
      obtain ⟨b, vs, rfl, z, it, ra⟩ := ro.tup_inv
      · skip
        cases h0 : decide (0 ≤ k) with
        | false => rw [h0] at e; cases e
        | true =>
          rw [h0] at e
          simp only [cond_true] at e
          obtain ⟨e1, rfl⟩ := optA_ok e
          obtain ⟨v, hv, r⟩ := ra.get e1
          have hk := (List.getElem?_eq_some_iff.mp hv).1
          have h0 := of_decide_eq_true h0
          unfold bigN at z
          have hit : IsTup s.heap b vs.toArray := it
          refine tail_on hit.typeIs slot_tuple_getitem.lookup (PyProof.Rows.getItem_tuple hit (by omega) (by omega) (j := k.toNat) ?_ (by simpa using hv) (Gv.same W r))
          unfold seqIndex?
          rw [List.size_toArray]
          simp only [show ¬ k < 0 by omega, if_false]
          first | rw [if_pos (by omega)] | (simp; omega)
    · rename_i n
      obtain ⟨b, rfl, hr⟩ := ro.ref_inv
      · skip
        cases hn : σ[n]? with
        | none => rw [hn] at e; cases e
        | some ob =>
          cases ob with
          | dict es => obtain ⟨_, _, q⟩ := W.objs n _ hn; exact q.elim
          | list xs =>
            rw [hn] at e
            simp only at e
            obtain ⟨e1, e2⟩ := optA_ok e
            obtain ⟨b', hb', vs, il, z, ra⟩ := W.objs n _ hn
            rw [hr] at hb'; cases hb'
            exact lists _ _ _ _ _ il.is z ra e1 e2
    · rename_i xs
      cases h0 : decide (0 ≤ k) with
      | false => rw [h0] at e; cases e
      | true =>
        rw [h0] at e
        simp only [cond_true] at e
        obtain ⟨e1, e2⟩ := optA_ok e
        obtain ⟨l, vs, rfl, il, z, ra⟩ := ro.isList (xs := xs) W rfl
        exact lists _ _ _ _ _ il z ra (by unfold at?; rw [h0]; exact e1) e2
    · cases e
  · rename_i p q
    unfold slice at e
    set_option tactic.hygienic true in split at e
    · rename_i x
      obtain ⟨t, rfl⟩ := ro.str_inv
      cases hb : Nat.ble x.length bigN with
      | false => rw [hb] at e; cases e
      | true =>
        rw [hb] at e; cases e
        obtain ⟨_, _, _, _, rfl, ho, hc, hd, hu, hv⟩ := ri.sl_inv
        exact tail_on (typeIs_str _ _ _) F.slot_str_getitem.lookup (getItem_str_sl ho hc hd hu hv (Nat.le_of_ble_eq_true hb) fun t' k => Gv.tok W _ (.str _ _))
    · rename_i n
      obtain ⟨b, rfl, hr⟩ := ro.ref_inv
      · skip
        cases hn : σ[n]? with
        | none => rw [hn] at e; cases e
        | some ob =>
          cases ob with
          | dict es => obtain ⟨_, _, q⟩ := W.objs n _ hn; exact q.elim
          | list xs =>
            rw [hn] at e
            simp only at e
            obtain ⟨b', hb', vs, il, z, ra⟩ := W.objs n _ hn
            rw [hr] at hb'; cases hb'
            unfold bigN at z
            have hz : vs.toArray.size ≤ sizeLine := by rw [List.size_toArray, sizeLine_eq]; omega
            obtain ⟨_, _, _, _, rfl, ho, hc, hd, hu, hv⟩ := ri.sl_inv
            · skip
              refine tail_on il.is.typeIs slot_list_getitem.lookup (wpAny_getItem_list_slice il.is ⟨_, ho, hc, hd⟩ hu.is hv.is .none (by simp) ?_ hz)
              set_option tactic.hygienic true in split at e
              · rename_i a0
                cases h0 : decide (0 ≤ a0) with
                | false => rw [h0] at e; cases e
                | true =>
                  rw [h0] at e
                  simp only [cond_true] at e
                  rw [pick_from vs (of_decide_eq_true h0)]
                  exact made_list W (ra.drop _) e (fun b o e => Heap.get?_push_of_some _ e) (size_none _) ⟨_, 0, Heap.get?_push_size _ rfl, rfl, rfl, rfl⟩ ⟨_, s.toks, rfl⟩
              · rename_i b0
                cases h0 : decide (0 ≤ b0) with
                | false => rw [h0] at e; cases e
                | true =>
                  rw [h0] at e
                  simp only [cond_true] at e
                  rw [pick_upto vs (of_decide_eq_true h0)]
                  exact made_list W (ra.take _) e (fun b o e => Heap.get?_push_of_some _ e) (size_none _) ⟨_, 0, Heap.get?_push_size _ rfl, rfl, rfl, rfl⟩ ⟨_, s.toks, rfl⟩
              · cases e
    · cases e
  · cases e
end
end Mine

/- S6 -/
set_option tactic.hygienic false
/-! Mine: the program's ground, and built-in functions. -/
namespace Mine
open PySem PySem.Spec PySem.Calls PyProof.Rows

/-- the value that stands at a built-in's name -/
noncomputable def bval (f : Str) : Option Value :=
  bif f == "len" then some (.builtin "len")
  else bif f == "isinstance" then some (.builtin "isinstance")
  else bif f == "int" then some (.type "int")
  else bif f == "tuple" then some (.type "tuple")
  else bif f == "list" then some (.type "list")
  else bif f == "max" then some (.builtin "max")
  else bif f == "sorted" then some (.builtin "sorted")
  else bif f == "dict" then some (.type "dict")
  else none

structure Gd (prog : Program) (w : World) (X : Cx) (P : Prog) (mg mb : Str → Option Value) : Prop where
  gl : Gl mg mb X.base
  nolimit : X.base.NoLimit
  nodict : P.dicts = false
  isi : ∀ (A : Around) (E : Value → Shared → Prop) (s : Shared) (ρ : List Addr) (v c : Value) (a : AV) (t : Str) (b : Bool) (Q : Value → Shared → Prop), X.base.StaysIn s.heap → Rep X ρ s.heap v a → X.tv t = some c → isInst P t a = some b →
    (∀ tk, Q (.bool b) { s with toks := tk }) → wpAny (model prog w) A (call (.builtin "isinstance") [v, c]) Q E s
  blt : ∀ f v, bval f = some v → mg f = none ∧ mb f = some v
  known : ∀ g, P.known g = true → (∃ v, bval g = some v) ∨ ((∀ lv vs σ, builtin P lv g vs σ = none) ∧ ∃ a o fd, mg g = some (.ref a) ∧ X.base.get? a = some o ∧ o.data = .func fd)
  range : mg "range" = none ∧ mb "range" = some (.type "range")
  fn : ∀ f ps body sc a o fd, P.fn f = some (ps, body, sc) → mg f = some (.ref a) → X.base.get? a = some o → o.data = .func fd → fd.body = .stmts body ∧ fd.scope = sc ∧ fd.closure = [] ∧ fd.globals = mainGlobals ∧ fd.builtins = builtinsNs ∧
    (∀ vals : List Value, vals.length = ps.length → bindArgs fd ⟨vals, []⟩ = pure (ps.zip vals)) ∧ X.base.CodeRec fd.code fd.qualname
  cls : ∀ c, P.cls c = true → ∃ C newId bmB Bn inN bmN B nid initId, X.tv c = some (.ref C) ∧ OwnCls c C bmB newId mg X.base ∧ ExcBaseFacts Bn newId inN bmN ∧ bmB.contains (.type Bn) = true ∧ ExcBaseFacts B nid initId bmB
  exm : ∀ (A : Around) (E : Value → Shared → Prop) (s : Shared) (c t : Str) (a : Addr) (oe : Obj) (C : Addr) (vt : Value) (Q : Bool → Shared → Prop), X.base.StaysIn s.heap → s.heap.get? a = some oe → oe.cls = .ref C → X.tv c = some (.ref C) → P.cls t = true → X.tv t = some vt → Q (P.sub c t) s →
    wpAny (model prog w) A (excMatches (.ref a) vt) Q E s
  typ : ∀ t, P.typ t = true → ∃ v, X.tv t = some v ∧ ((∃ n, v = .type n) ∨ ∃ C, v = .ref C) ∧ (mg t = some v ∨ (mg t = none ∧ mb t = some v))

section
variable {prog : Program} {w : World} {A : Around} {E : Value → Shared → Prop} {s : Shared} {X : Cx} {P : Prog} {ρ : List Addr} {σ σ' : Sto} {mg mb : Str → Option Value}

theorem Gl.keeps {h h' : Heap} (g : Gl mg mb h) (k : h.StaysIn h') : Gl mg mb h' := ⟨g.g.keeps k, g.b.keeps k⟩

theorem builtin_ok {lv : Nat} {f : Str} {vs : List Value} {xs : List AV} {a : AV} (G : Gd prog w X P mg mb) (W : Wd X ρ σ s.heap) (hh : lv = 0 → A.handled = none) (ra : RepAll X ρ s.heap vs xs) (e : builtin P lv f xs σ = some (.ok a σ')) :
    ∃ v, bval f = some v ∧ wpAny (model prog w) A (call v vs) (Gv X ρ s a σ') E s := by
  unfold builtin at e
  unfold bval
  cases h1 : (f == "len") with
  | true =>
    rw [h1] at e
    refine ⟨_, rfl, ?_⟩
    simp only [cond_true, Option.some.injEq] at e
    set_option tactic.hygienic true in split at e
    · obtain ⟨_, rfl, r⟩ := ra.one_inv
      obtain ⟨_, _, rfl, z, it, rr⟩ := r.tup_inv
      · skip
        cases e
        have hl := rr.length
        unfold bigN at z
        refine len_tuple (show IsTup s.heap _ _ from it) (by simp only [List.size_toArray]; omega) ?_
        simp only [List.size_toArray, hl]
        exact Gv.tok W _ (.int _ _)
    · obtain ⟨_, rfl, r⟩ := ra.one_inv
      · skip
        set_option tactic.hygienic true in split at e
        · rename_i ys hy
          cases e
          obtain ⟨l, ws, rfl, il, z, rr⟩ := r.isList W hy
          have hl := rr.length
          unfold bigN at z
          refine call_len_list il (by simp only [List.size_toArray]; omega) ?_
          simp only [List.size_toArray, hl]
          exact Gv.tok W _ (.int _ _)
        · cases e
    · cases e
  | false =>
  rw [h1] at e
  simp only [cond_false] at e ⊢
  cases h2 : (f == "isinstance") with
  | true =>
    rw [h2] at e
    refine ⟨_, rfl, ?_⟩
    simp only [cond_true, Option.some.injEq] at e
    set_option tactic.hygienic true in split at e
    · rename_i v t
      obtain ⟨_, _, rfl, r, r'⟩ := ra.two_inv
      have ht := r'.typ_inv
      · skip
        unfold okB at e
        cases hi : isInst P t v with
        | none => rw [hi] at e; cases e
        | some b =>
          rw [hi] at e; cases e
          exact G.isi A E s ρ _ _ _ _ _ _ W.stays r ht hi fun tk => Gv.tok W _ (.bool _)
    · cases e
  | false =>
  rw [h2] at e
  simp only [cond_false] at e ⊢
  cases h3 : (f == "int") with
  | true =>
    rw [h3] at e
    refine ⟨_, rfl, ?_⟩
    simp only [cond_true, Option.some.injEq] at e
    set_option tactic.hygienic true in split at e
    · rename_i b
      obtain ⟨_, rfl, r⟩ := ra.one_inv
      cases r.bool_inv
      · cases e
        refine call_int_bool ?_
        cases b <;> exact Gv.tok W _ (.int _ _)
    · cases e
  | false =>
  rw [h3] at e
  simp only [cond_false] at e ⊢
  cases h4 : (f == "tuple") with
  | true =>
    rw [h4] at e
    refine ⟨_, rfl, ?_⟩
    simp only [cond_true, Option.some.injEq] at e
    set_option tactic.hygienic true in split at e
    · obtain ⟨_, rfl, r⟩ := ra.one_inv
      · skip
        set_option tactic.hygienic true in split at e
        · rename_i ys hy
          cases hb : Nat.ble ys.length bigN with
          | false => rw [hb] at e; cases e
          | true =>
            rw [hb] at e; cases e
            obtain ⟨l, ws, rfl, il, z, rr⟩ := r.isList W hy
            have hl := rr.length
            have hz := Nat.le_of_ble_eq_true hb
            refine call_tuple_list il (fun h' hk => ?_) (by simp only [List.size_toArray]; unfold bigN at z; rw [sizeLine_eq]; omega)
            have af := After.grow W (h' := h'.push { cls := .type "tuple", data := .seq ws.toArray }) (fun b o e => Heap.get?_push_of_some _ (hk b o e)) s.toks
            exact ⟨ρ, af, .tup (by omega) ⟨_, Heap.get?_push_size _ rfl, rfl, 0, rfl⟩ (af.repAll W rr)⟩
        · cases e
    · cases e
  | false =>
  rw [h4] at e
  simp only [cond_false] at e ⊢
  cases h5 : (f == "list") with
  | true =>
    rw [h5] at e
    refine ⟨_, rfl, ?_⟩
    simp only [cond_true, Option.some.injEq] at e
    set_option tactic.hygienic true in split at e
    · obtain ⟨_, rfl, r⟩ := ra.one_inv
      · skip
        set_option tactic.hygienic true in split at e
        · rename_i ys hy
          obtain ⟨l, ws, rfl, il, z, rr⟩ := r.isList W hy
          unfold bigN at z
          obtain ⟨o, ho, hc, k, hd⟩ := il
          refine call_list_seq (hsz := by simp only [List.size_toArray]; rw [sizeLine_eq]; omega) l (.inl rfl) ho hc hd fun h' c' hk hD => made_list W rr e hk (size_none _) ⟨_, c', hD, rfl, rfl, rfl⟩ ⟨_, s.toks, rfl⟩
        · cases e
    · cases e
  | false =>
  rw [h5] at e
  simp only [cond_false] at e ⊢
  cases h6 : (f == "max") with
  | true =>
    rw [h6] at e
    refine ⟨_, rfl, ?_⟩
    simp only [cond_true, Option.some.injEq] at e
    set_option tactic.hygienic true in split at e
    · rename_i x y
      obtain ⟨_, _, rfl, r, r'⟩ := ra.two_inv
      obtain ⟨_, rfl⟩ := r.int_inv
      obtain ⟨_, rfl⟩ := r'.int_inv
      · skip
        cases hl : (lv == 0) with
        | false => rw [hl] at e; cases e
        | true =>
          rw [hl] at e; cases e
          refine max_two_ints (hh (by simpa using hl)) fun h' tk hk => ?_
          have af := After.grow W hk tk
          by_cases hg : y > x
          · rw [if_pos hg, decide_eq_true hg]; exact ⟨ρ, af, .int _ _⟩
          · rw [if_neg hg, decide_eq_false hg]; exact ⟨ρ, af, .int _ _⟩
    · cases e
  | false =>
  rw [h6] at e
  simp only [cond_false] at e ⊢
  cases h7 : (f == "sorted") with
  | true =>
    rw [h7] at e
    refine ⟨_, rfl, ?_⟩
    simp only [cond_true, Option.some.injEq, G.nodict, cond_false] at e
    set_option tactic.hygienic true in split at e
    · split at e <;> cases e
    · cases e
  | false =>
  rw [h7] at e
  simp only [cond_false] at e ⊢
  cases h8 : (f == "dict") with
  | true =>
    rw [h8] at e
    simp only [cond_true, Option.some.injEq, G.nodict, Bool.false_and, cond_false] at e
    set_option tactic.hygienic true in split at e
    · split at e <;> cases e
    · cases e
  | false =>
    rw [h8] at e
    cases e
end
end Mine

/- S7 -/
set_option tactic.hygienic false
/-! Mine: expressions. -/
namespace Mine
open PySem PySem.Spec PySem.Calls PyProof.Rows

/-- an exception on its way: it and its traceback (if it has one yet; it has, where q is False) are new -/
noncomputable def FlyG (X : Cx) (lv : Nat) (q : Prop) (s : Shared) (c : Str) (e : Value) (s' : Shared) : Prop :=
  ∃ (a : Addr) (oe : Obj) (C : Addr) (vs : Array Value), e = .ref a ∧ s.heap.get? a = none ∧ s'.heap.get? a = some oe ∧ oe.cls = .ref C ∧ X.tv c = some (.ref C) ∧ oe.data = .fields vs ∧ 2 < vs.size ∧ (lv = 0 → vs[2]? = some .none) ∧
    ((q ∧ vs[1]? = some .none) ∨ ∃ (T : Addr) (oT : Obj) (ts : Array Value), vs[1]? = some (.ref T) ∧ s.heap.get? T = none ∧ T ≠ a ∧ s'.heap.get? T = some oT ∧ oT.cls = .type "traceback" ∧ oT.data = .fields ts ∧ 3 < ts.size)
abbrev Fly (X : Cx) (lv : Nat) := FlyG X lv True
theorem FlyG.weak {X : Cx} {lv : Nat} {q : Prop} {s s' : Shared} {c : Str} {e : Value} (x : FlyG X lv q s c e s') : Fly X lv s c e s' := by
  obtain ⟨a, oe, C, vs, h1, h2, h3, h4, h5, h6, h7, h8, h9⟩ := x
  exact ⟨a, oe, C, vs, h1, h2, h3, h4, h5, h6, h7, h8, h9.imp (fun z => ⟨trivial, z.2⟩) id⟩

noncomputable def OkG {α γ : Type} (Rl : List Addr → Heap → α → γ → Prop) (X : Cx) (ρ : List Addr) (s : Shared) (r : Out γ) (v : α) (s' : Shared) : Prop := ∃ a σ' ρ', r = .ok a σ' ∧ After X ρ s ρ' σ' s' ∧ Rl ρ' s'.heap v a
noncomputable def ExV {γ : Type} (X : Cx) (lv : Nat) (ρ : List Addr) (s : Shared) (r : Out γ) (e : Value) (s' : Shared) : Prop := ∃ c σ' ρ', r = .exc c σ' ∧ After X ρ s ρ' σ' s' ∧ Fly X lv s c e s'
abbrev OkV (X : Cx) := OkG (fun ρ h v a => Rep X ρ h v a) X
abbrev OkL (X : Cx) := OkG (fun ρ h v a => RepAll X ρ h v a) X
abbrev OkB (X : Cx) := OkG (fun _ _ (v b : Bool) => v = b) X

theorem After.fresh {X : Cx} {ρ ρ' : List Addr} {σ σ' : Sto} {s s' : Shared} (W : Wd X ρ σ s.heap) (x : After X ρ s ρ' σ' s') {a : Addr} (e : s'.heap.get? a = none) : s.heap.get? a = none := by
  cases q : s.heap.get? a with
  | none => rfl
  | some o =>
    by_cases h : a ∈ ρ
    · obtain ⟨n, hn, rfl⟩ := List.getElem_of_mem h
      have h2 := List.mem_of_getElem? (x.ext n _ (List.getElem?_eq_getElem hn))
      obtain ⟨ob, e', _⟩ := x.wd.at h2
      rw [e] at e'; cases e'
    · obtain ⟨sl, e', _⟩ := x.keep a o q h
      rw [e] at e'; cases e'

theorem Fly.lift' {X : Cx} {lv : Nat} {s₀ s s' : Shared} {c : Str} {e : Value} (hn : ∀ a, s.heap.get? a = Option.none → s₀.heap.get? a = Option.none) (f : Fly X lv s c e s') : Fly X lv s₀ c e s' := by
  obtain ⟨a, oe, C, vs, h1, h2, h3, h4, h5, h6, h7, h8, h9⟩ := f
  refine ⟨a, oe, C, vs, h1, hn a h2, h3, h4, h5, h6, h7, h8, h9.imp id fun ⟨T, oT, ts, z1, z2, z3⟩ => ⟨T, oT, ts, z1, hn T z2, z3⟩⟩
theorem Fly.lift {X : Cx} {lv : Nat} {ρ ρ' : List Addr} {σ σ' : Sto} {s₀ s s' : Shared} {c : Str} {e : Value} (W : Wd X ρ σ s₀.heap) (x : After X ρ s₀ ρ' σ' s) (f : Fly X lv s c e s') : Fly X lv s₀ c e s' :=
  f.lift' fun _ h => x.fresh W h

/-- one step's end, seen from the start -/
theorem lift {α γ δ : Type} {M : Model} {A : Around} {Rl : List Addr → Heap → α → γ → Prop} {X : Cx} {lv : Nat} {ρ₀ ρ : List Addr} {σ₀ σ : Sto} {s₀ s : Shared} {t : Sem α} {r : Out γ} {R : Out δ} {K : α → Shared → Prop}
    (W : Wd X ρ₀ σ₀ s₀.heap) (x : After X ρ₀ s₀ ρ σ s) (h : wpAny M A t (OkG Rl X ρ s r) (ExV X lv ρ s r) s) (hE : ∀ c σ', r = .exc c σ' → R = .exc c σ')
    (hK : ∀ a σ' ρ' v s', r = .ok a σ' → After X ρ₀ s₀ ρ' σ' s' → After X ρ s ρ' σ' s' → Rl ρ' s'.heap v a → K v s') : wpAny M A t K (ExV X lv ρ₀ s₀ R) s := by
  refine wpAny_mono h (fun v s' q => ?_) fun e s' q => ?_
  · obtain ⟨a, σ', ρ', e1, e2, e3⟩ := q
    exact hK a σ' ρ' v s' e1 (x.trans e2) e2 e3
  · obtain ⟨c, σ', ρ', e1, e2, e3⟩ := q
    exact ⟨c, σ', ρ', hE c σ' e1, x.trans e2, e3.lift W x⟩

theorem bind_ok' {α β : Type} {m : Out α} {f : α → Sto → Out β} {a : α} {σ : Sto} (h : m = .ok a σ) : m.bind f = f a σ := by rw [h]; rfl
theorem bind_exc' {α β : Type} {m : Out α} {f : α → Sto → Out β} {c : Str} {σ : Sto} (h : m = .exc c σ) : m.bind f = .exc c σ := by rw [h]; rfl
theorem bind_ne {α β : Type} {m : Out α} {f : α → Sto → Out β} (h : m.bind f ≠ .bad) : m ≠ .bad := fun q => h (by rw [q]; rfl)

/-- an operator at the end -/
theorem fin_ok {X : Cx} {ρ₀ ρ : List Addr} {σ : Sto} {s₀ s : Shared} {M : Model} {A : Around} {E : Value → Shared → Prop} {t : Sem Value} {r R : Out AV} (x : After X ρ₀ s₀ ρ σ s) (hR : R = r) (hb : r ≠ .bad)
    (hx : ∀ c σ', r ≠ .exc c σ') (h : ∀ a σ', r = .ok a σ' → wpAny M A t (Gv X ρ s a σ') E s) : wpAny M A t (OkV X ρ₀ s₀ R) E s := by
  cases q : r with
  | bad => exact absurd q hb
  | exc c σ' => exact absurd q (hx c σ')
  | ok a σ' =>
    refine wpAny_mono (h a σ' q) (fun v s' g => ?_) fun _ _ z => z
    obtain ⟨ρ', x', r'⟩ := g
    exact ⟨a, σ', ρ', hR.trans q, x.trans x', r'⟩

noncomputable def NoX {α : Type} (o : Out α) : Prop := ∀ c σ', o ≠ .exc c σ'
theorem NoX.ok {α : Type} {a : α} {σ : Sto} : NoX (.ok a σ) := fun _ _ h => by cases h
theorem NoX.bad {α : Type} : NoX (.bad : Out α) := fun _ _ h => by cases h
theorem NoX.cond {α : Type} {b : Bool} {x y : Out α} (h1 : NoX x) (h2 : NoX y) : NoX (bif b then x else y) := by cases b <;> assumption
theorem NoX.newL {xs : List AV} {σ : Sto} : NoX (newL xs σ) := NoX.cond .ok .bad
theorem NoX.optA {r : Option AV} {σ : Sto} : NoX (optA r σ) := by cases r <;> first | exact .ok | exact .bad
theorem NoX.okB {r : Option Bool} {σ : Sto} : NoX (okB r σ) := by cases r <;> first | exact .ok | exact .bad
theorem NoX.intR {b : AV} {f : Int → Out AV} (h : ∀ y, NoX (f y)) : NoX (intR b f) := by cases b <;> first | exact .bad | exact h _
theorem NoX.strR {b : AV} {f : Str → Out AV} (h : ∀ y, NoX (f y)) : NoX (strR b f) := by cases b <;> first | exact .bad | exact h _
theorem NoX.lstR {b : AV} {σ : Sto} {f : List AV → Out AV} (h : ∀ y, NoX (f y)) : NoX (lstR σ b f) := by
  unfold Mine.lstR
  cases listOf? σ b <;> first | exact .bad | exact h _
theorem binop_nx {op : Operator} {x y : AV} {σ : Sto} : NoX (binop op x y σ) := by
  cases op with
  | Add => cases x with
    | int i => exact .intR fun _ => .ok
    | str i => exact .strR fun _ => .cond .ok .bad
    | ref m => exact .lstR fun _ => .lstR fun _ => .newL
    | _ => exact .bad
  | Mult => cases x with
    | int i => exact .intR fun _ => .cond .ok .bad
    | str i => exact .intR fun _ => .cond .ok .bad
    | _ => exact .bad
  | Sub => exact .intR fun _ => .intR fun _ => .ok
  | Mod => exact .intR fun _ => .intR fun _ => .cond .ok .bad
  | FloorDiv => exact .intR fun _ => .intR fun _ => .cond .ok .bad
  | Pow => exact .intR fun _ => .intR fun _ => .cond .ok .bad
  | _ => exact .bad
theorem cmpop_nx {op : CmpOp} {x y : AV} {σ : Sto} : NoX (cmpop op x y σ) := by
  unfold cmpop
  split
  all_goals first | exact NoX.cond .ok .bad | exact .okB | (split <;> first | exact .ok | exact .bad)
theorem unop_nx {op : UnaryOp} {x : AV} {σ : Sto} : NoX (unop op x σ) := by
  unfold unop
  split
  · exact .ok
  · split <;> first | exact .ok | exact .bad
  · exact .bad
theorem truthO_nx {x : AV} {σ : Sto} : NoX (truthO x σ) := by
  unfold truthO
  split <;> first | exact .ok | exact .bad
theorem slice_nx {o : AV} {a b : Option Int} {σ : Sto} : NoX (slice o a b σ) := by
  unfold slice
  split
  · exact NoX.cond .ok .bad
  · split
    · split <;> first | exact NoX.cond .newL .bad | exact .bad
    · exact .bad
  · exact .bad
theorem item_nx {o i : AV} {σ : Sto} : NoX (item o i σ) := by
  unfold item
  split
  · split
    · exact NoX.cond .optA .bad
    · split <;> first | exact .optA | exact .bad
    · exact NoX.cond .optA .bad
    · exact .bad
  · exact slice_nx
  · exact .bad
theorem constA_nx {c : Const} {σ : Sto} : NoX (constA c σ) := by
  unfold constA
  split <;> first | exact .ok | exact NoX.cond .ok .bad | exact .bad
theorem evName_nx {P : Prog} {sc : Scope} {x : Str} {l : Loc} {σ : Sto} : NoX (evName P sc x l σ) := NoX.cond .optA (NoX.cond .ok .bad)
theorem slA_nx {a b : AV} {σ : Sto} : NoX (slA a b σ) := by unfold slA; split <;> first | exact .ok | exact .bad
theorem tupA_nx {vs : List AV} {σ : Sto} : NoX (tupA vs σ) := NoX.cond .ok .bad
theorem append_nx {o v : AV} {σ : Sto} : NoX (append o v σ) := by
  unfold append
  split
  · split <;> first | exact NoX.cond .ok .bad | exact .bad
  · exact .bad
theorem methA_nx {m : Str} {o : AV} {vs : List AV} {σ : Sto} : NoX (methA m o vs σ) := by
  unfold methA
  split <;> first | exact NoX.cond append_nx .bad | exact .bad
theorem srcOf_nx {v : AV} {σ : Sto} : NoX (srcOf v σ) := by
  unfold srcOf
  split
  · split <;> first | exact .ok | exact .bad
  · exact .ok
  · exact .bad
theorem rangeOf_nx {vs : List AV} {σ : Sto} : NoX (rangeOf vs σ) := by
  unfold rangeOf
  split <;> first | exact NoX.cond .ok .bad | exact .bad
theorem builtin_nx {P : Prog} {lv : Nat} {f : Str} {vs : List AV} {σ : Sto} {r : Out AV} (h : builtin P lv f vs σ = some r) : NoX r := by
  unfold builtin at h
  generalize (f == "len") = b1 at h
  generalize (f == "isinstance") = b2 at h
  generalize (f == "int") = b3 at h
  generalize (f == "tuple") = b4 at h
  generalize (f == "list") = b5 at h
  generalize (f == "max") = b6 at h
  generalize (f == "sorted") = b7 at h
  generalize (f == "dict") = b8 at h
  cases b1 with
  | true => simp only [cond_true, Option.some.injEq] at h; subst h; split <;> first | exact .ok | exact .bad | (split <;> first | exact .ok | exact .bad)
  | false =>
  simp only [cond_false] at h
  cases b2 with
  | true => simp only [cond_true, Option.some.injEq] at h; subst h; split <;> first | exact .okB | exact .bad
  | false =>
  simp only [cond_false] at h
  cases b3 with
  | true => simp only [cond_true, Option.some.injEq] at h; subst h; split <;> first | exact .ok | exact .bad
  | false =>
  simp only [cond_false] at h
  cases b4 with
  | true => simp only [cond_true, Option.some.injEq] at h; subst h; split <;> first | exact .bad | (split <;> first | exact NoX.cond .ok .bad | exact .bad)
  | false =>
  simp only [cond_false] at h
  cases b5 with
  | true => simp only [cond_true, Option.some.injEq] at h; subst h; split <;> first | exact .bad | (split <;> first | exact .newL | exact .bad)
  | false =>
  simp only [cond_false] at h
  cases b6 with
  | true => simp only [cond_true, Option.some.injEq] at h; subst h; split <;> first | exact NoX.cond .ok .bad | exact .bad
  | false =>
  simp only [cond_false] at h
  cases b7 with
  | true => simp only [cond_true, Option.some.injEq] at h; subst h; split <;> first | exact .bad | (split <;> first | exact NoX.cond .newL .bad | exact .bad)
  | false =>
  simp only [cond_false] at h
  cases b8 with
  | true => simp only [cond_true, Option.some.injEq] at h; subst h; split <;> first | exact .bad | (split <;> first | exact NoX.cond .ok .bad | exact .bad)
  | false => cases h
end Mine

/- S8 -/
set_option tactic.hygienic false
/-! Mine: exceptions through frames; what a statement leaves. -/
namespace Mine
open PySem PySem.Spec PySem.Calls PyProof.Rows

structure Step (X : Cx) (env : Env) (ρ : List Addr) (s : Shared) (ρ' : List Addr) (σ' : Sto) (s' : Shared) : Prop where
  ext : Ext ρ ρ'
  new : ∀ b ∈ ρ', b ∈ ρ ∨ s.heap.get? b = none
  wd : Wd X ρ' σ' s'.heap
  keep : Keep (own env ++ ρ) s.heap s'.heap
  there : ∀ b ∈ own env ++ ρ, ∀ o, s.heap.get? b = some o → ∃ o', s'.heap.get? b = some o'
  same : ∃ h tk, s' = { s with heap := h, toks := tk }

theorem After.gone {X : Cx} {ρ ρ' : List Addr} {σ' : Sto} {s s' : Shared} (x : After X ρ s ρ' σ' s') {a : Addr} (e : s'.heap.get? a = none) : s.heap.get? a = none := by
  cases q : s.heap.get? a with
  | none => rfl
  | some o =>
    by_cases h : a ∈ ρ
    · obtain ⟨n, hn, rfl⟩ := List.getElem_of_mem h
      have h2 := List.mem_of_getElem? (x.ext n _ (List.getElem?_eq_getElem hn))
      obtain ⟨ob, e', _⟩ := x.wd.at h2
      rw [e] at e'; cases e'
    · obtain ⟨sl, e', _⟩ := x.keep a o q h
      rw [e] at e'; cases e'
theorem After.step {X : Cx} {env : Env} {ρ ρ' : List Addr} {σ' : Sto} {s s' : Shared} (x : After X ρ s ρ' σ' s') : Step X env ρ s ρ' σ' s' :=
  ⟨x.ext, x.new, x.wd, x.keep.mono fun _ h => List.mem_append_right _ h, fun b _ o e => by
    cases q : s'.heap.get? b with
    | none => rw [x.gone q] at e; cases e
    | some o' => exact ⟨o', rfl⟩, x.same⟩
theorem Step.gone {X : Cx} {env : Env} {ρ ρ' : List Addr} {σ' : Sto} {s s' : Shared} (x : Step X env ρ s ρ' σ' s') {a : Addr} (e : s'.heap.get? a = none) : s.heap.get? a = none := by
  cases q : s.heap.get? a with
  | none => rfl
  | some o =>
    by_cases h : a ∈ own env ++ ρ
    · obtain ⟨o', e'⟩ := x.there a h o q
      rw [e] at e'; cases e'
    · obtain ⟨sl, e', _⟩ := x.keep a o q h
      rw [e] at e'; cases e'
theorem Step.trans {X : Cx} {env : Env} {ρ ρ₁ ρ₂ : List Addr} {σ₁ σ₂ : Sto} {s s₁ s₂ : Shared} (x : Step X env ρ s ρ₁ σ₁ s₁) (y : Step X env ρ₁ s₁ ρ₂ σ₂ s₂) : Step X env ρ s ρ₂ σ₂ s₂ := by
  refine ⟨x.ext.trans y.ext, fun b hb => ?_, y.wd, ?_, fun b hb o e => ?_, ?_⟩
  · rcases y.new b hb with q | q
    · exact x.new b q
    · exact .inr (x.gone q)
  · intro b o e n
    obtain ⟨sl, e₁, q₁⟩ := x.keep b o e n
    obtain ⟨sl', e₂, q₂⟩ := y.keep b _ e₁ fun q => (List.mem_append.mp q).elim (fun z => n (List.mem_append_left _ z)) fun z => (x.new b z).elim (fun z => n (List.mem_append_right _ z)) fun z => by rw [z] at e; cases e
    exact ⟨sl', e₂, fun z => (q₂ z).trans (q₁ z)⟩
  · cases q : s₂.heap.get? b with
    | none => rw [x.gone (y.gone q)] at e; cases e
    | some o' => exact ⟨o', rfl⟩
  · obtain ⟨h, tk, rfl⟩ := x.same
    obtain ⟨h', tk', rfl⟩ := y.same
    exact ⟨h', tk', rfl⟩

/-- objects newer than the start are turned -/
theorem After.off {X : Cx} {ρ ρ' : List Addr} {σ' : Sto} {s s' : Shared} {h : Heap} {N : List Addr} (x : After X ρ s ρ' σ' s') (hk : Keep N s'.heap h) (hs : Sane s'.heap h N) (hn : ∀ b ∈ N, s.heap.get? b = none) (hd : ∀ b ∈ N, b ∉ ρ') (hb : X.base.StaysIn h) (t : Nat) : After X ρ s ρ' σ' { s' with heap := h, toks := t } := by
  refine ⟨x.ext, x.new, x.wd.stepS hk hs hb hd, fun b o e n => ?_, ?_⟩
  · obtain ⟨sl, e₁, q₁⟩ := x.keep b o e n
    obtain ⟨sl', e₂, q₂⟩ := hk b _ e₁ fun q => by rw [hn b q] at e; cases e
    exact ⟨sl', e₂, fun z => (q₂ z).trans (q₁ z)⟩
  · obtain ⟨h, tk, rfl⟩ := x.same
    exact ⟨_, _, rfl⟩
theorem Step.off {X : Cx} {env : Env} {ρ ρ' : List Addr} {σ' : Sto} {s s' : Shared} {h : Heap} {N : List Addr} (x : Step X env ρ s ρ' σ' s') (hk : Keep N s'.heap h) (hs : Sane s'.heap h N) (hn : ∀ b ∈ N, s.heap.get? b = none) (hd : ∀ b ∈ N, b ∉ ρ') (hb : X.base.StaysIn h) (t : Nat) : Step X env ρ s ρ' σ' { s' with heap := h, toks := t } := by
  have k : ∀ b o, s.heap.get? b = some o → b ∉ N := fun b o e q => by rw [hn b q] at e; cases e
  refine ⟨x.ext, x.new, x.wd.stepS hk hs hb hd, fun b o e n => ?_, fun b hb' o e => ?_, ?_⟩
  · obtain ⟨sl, e₁, q₁⟩ := x.keep b o e n
    obtain ⟨sl', e₂, q₂⟩ := hk b _ e₁ (k b o e)
    exact ⟨sl', e₂, fun z => (q₂ z).trans (q₁ z)⟩
  · obtain ⟨o', e'⟩ := x.there b hb' o e
    obtain ⟨sl', e₂, q₂⟩ := hk b _ e' (k b o e)
    exact ⟨_, e₂⟩
  · obtain ⟨h, tk, rfl⟩ := x.same
    exact ⟨_, _, rfl⟩

theorem Wd.record {X : Cx} {ρ : List Addr} {σ : Sto} {h : Heap} (w : Wd X ρ σ h) {b : Addr} {o : Obj} {fs : Array Value} (e : h.get? b = some o) (d : o.data = .fields fs) : b ∉ ρ := fun q => by
  obtain ⟨n, hn, rfl⟩ := List.getElem_of_mem q
  have hn' : n < σ.length := w.len ▸ hn
  obtain ⟨a, ha, r⟩ := w.objs n σ[n] (List.getElem?_eq_getElem hn')
  rw [List.getElem?_eq_getElem hn] at ha
  cases ha
  generalize σ[n] = ao at r
  cases ao with
  | list xs =>
    obtain ⟨vs, ⟨ob, _, e', _, _, d'⟩, _, _⟩ := r
    rw [e] at e'; cases e'; rw [d] at d'; cases d'
  | dict es => exact r.elim

section
variable {M : Model} {A : Around} {E : Value → Shared → Prop} {s : Shared}

theorem frameOf_ok {base : Heap} {env hv : Env} {r : List Env} {L : Addr} {Q : Value → Shared → Prop} (hfr : A.frames = some (hv :: r)) (he : hv.frame = env.frame) (hl : s.heap.FunFrames base (hv :: r)) (hf : env.frame = some L)
    (h : ∀ h', Heap.SlotsOnly ((hv :: r).filterMap (·.frame)) s.heap h' → Q (.ref L) { s with heap := h' }) : wpAny M A (PySem.frameOf env) Q E s := by
  unfold PySem.frameOf
  refine wpAny_bind (wpAny_frameEnvs hfr ?_)
  have hdw : ((hv :: r).dropWhile fun x => x.frame != env.frame) = hv :: r := by simp [List.dropWhile, he]
  rw [hdw]
  unfold frameObject
  refine wpAny_bind (wpAny_bind (wpAny_readyFrames_fun hl fun h₁ hs₁ => wpAny_pure ?_))
  rw [he, hf]
  exact wpAny_pure (h h₁ hs₁)

theorem slots_keep {base h h' : Heap} {es : List Env} (fr : Frs h base es) (x : Heap.SlotsOnly (es.filterMap (·.frame)) h h') : Keep [] h h' ∧ (base.StaysIn h → base.StaysIn h') := by
  refine ⟨fun b o e _ => ?_, fun st b o e => ?_⟩
  · obtain ⟨sl, e'⟩ := x.2.2 b o e
    refine ⟨sl, e', fun hd => ?_⟩
    by_cases q : b ∈ es.filterMap (·.frame)
    · obtain ⟨ev, he, q⟩ := List.mem_filterMap.mp q
      obtain ⟨_, L', o', ds, n, e1, _, e3, e4⟩ := fr ev he
      rw [q] at e1; cases e1; rw [e] at e3; cases e3
      exact absurd e4 (hd _ _)
    · rw [x.2.1 b q, e] at e'
      injection e' with e'
      rw [show o.slots = _ from congrArg Obj.slots e']
  · rw [x.2.1 b fun q => ?_]
    · exact st b o e
    · obtain ⟨ev, he, q⟩ := List.mem_filterMap.mp q
      obtain ⟨_, L', o', ds, n, e1, e2, _⟩ := fr ev he
      rw [q] at e1; cases e1; rw [e] at e2; cases e2

/-- what a note on an exception turns -/
noncomputable def Turn (X : Cx) (s₀ : Shared) (h h' : Heap) : Prop := ∃ N : List Addr, Keep N h h' ∧ Sane h h' N ∧ (∀ b ∈ N, s₀.heap.get? b = none) ∧ (∀ b ∈ N, ∀ o, h.get? b = some o → ∃ fs, o.data = .fields fs) ∧ (X.base.StaysIn s₀.heap → X.base.StaysIn h → X.base.StaysIn h')
theorem Turn.refl (X : Cx) (s₀ : Shared) (h : Heap) : Turn X s₀ h h := ⟨[], .refl _ _, SOk.nil.sane _, fun _ q => (nomatch q), fun _ q => (nomatch q), fun _ x => x⟩
theorem After.turn {X : Cx} {ρ ρ' : List Addr} {σ σ' : Sto} {s s' : Shared} {h : Heap} (W : Wd X ρ σ s.heap) (x : After X ρ s ρ' σ' s') (y : Turn X s s'.heap h) (t : Nat) : After X ρ s ρ' σ' { s' with heap := h, toks := t } := by
  obtain ⟨N, k, sn, nw, fl, st⟩ := y
  refine x.off (N := N.filter fun b => (s'.heap.get? b).isSome) (k.less fun b hb => ?_) (fun b hb o ho => sn b (List.mem_filter.mp hb).1 o ho) (fun b hb => nw b (List.mem_filter.mp hb).1) (fun b hb => ?_) (st W.stays x.wd.stays) t
  · cases q : s'.heap.get? b with
    | none => exact .inr rfl
    | some o => exact .inl (List.mem_filter.mpr ⟨hb, by rw [q]; rfl⟩)
  · obtain ⟨h1, h2⟩ := List.mem_filter.mp hb
    obtain ⟨o, ho⟩ := Option.isSome_iff_exists.mp h2
    obtain ⟨fs, d⟩ := fl b h1 o ho
    exact x.wd.record ho d
theorem Step.turn {X : Cx} {env : Env} {ρ ρ' : List Addr} {σ σ' : Sto} {s s' : Shared} {h : Heap} (W : Wd X ρ σ s.heap) (x : Step X env ρ s ρ' σ' s') (y : Turn X s s'.heap h) (t : Nat) : Step X env ρ s ρ' σ' { s' with heap := h, toks := t } := by
  obtain ⟨N, k, sn, nw, fl, st⟩ := y
  refine x.off (N := N.filter fun b => (s'.heap.get? b).isSome) (k.less fun b hb => ?_) (fun b hb o ho => sn b (List.mem_filter.mp hb).1 o ho) (fun b hb => nw b (List.mem_filter.mp hb).1) (fun b hb => ?_) (st W.stays x.wd.stays) t
  · cases q : s'.heap.get? b with
    | none => exact .inr rfl
    | some o => exact .inl (List.mem_filter.mpr ⟨hb, by rw [q]; rfl⟩)
  · obtain ⟨h1, h2⟩ := List.mem_filter.mp hb
    obtain ⟨o, ho⟩ := Option.isSome_iff_exists.mp h2
    obtain ⟨fs, d⟩ := fl b h1 o ho
    exact x.wd.record ho d
end
end Mine

/- S9 -/
set_option tactic.hygienic false
/-! Mine: notes on an exception. -/
namespace Mine
open PySem PySem.Spec PySem.Calls PyProof.Rows

theorem Turn.trans {X : Cx} {s₀ : Shared} {h₁ h₂ h₃ : Heap} (x : Turn X s₀ h₁ h₂) (y : Turn X s₀ h₂ h₃) : Turn X s₀ h₁ h₃ := by
  obtain ⟨N, k, sn, nw, fl, st⟩ := x
  obtain ⟨N', k', sn', nw', fl', st'⟩ := y
  refine ⟨N ++ N', (k.mono fun _ h => List.mem_append_left _ h).trans (k'.mono fun _ h => List.mem_append_right _ h), fun b hb o ho => ?_, fun b hb => (List.mem_append.mp hb).elim (nw b) (nw' b), fun b hb o ho => ?_, fun z1 z2 => st' z1 (st z1 z2)⟩
  · by_cases h1 : b ∈ N
    · rcases sn b h1 o ho with m | ⟨C, fs, o', fs', e1, e2, e3, e4, e5⟩
      · exact .inl m
      · refine .inr ?_
        by_cases h2 : b ∈ N'
        · rcases sn' b h2 o' e3 with (⟨c, e, z⟩ | ⟨es, n, e⟩ | ⟨v, e⟩) | ⟨C', fs1, o'', fs'', f1, f2, f3, f4, f5⟩
          · rw [e4] at e; cases e
          · rw [e5] at e; cases e
          · rw [e5] at e; cases e
          · rw [e4] at f1; cases f1; exact ⟨C, fs, o'', fs'', e1, e2, f3, f4, f5⟩
        · exact ⟨C, fs, o', fs', e1, e2, k'.exact e3 h2 (fun es n q => by rw [e5] at q; cases q), e4, e5⟩
    · have h2 : b ∈ N' := (List.mem_append.mp hb).elim (fun q => absurd q h1) id
      obtain ⟨sl, e', _⟩ := k b o ho h1
      rcases sn' b h2 _ e' with m | ⟨C, fs, o', fs', e1, e2, e3, e4, e5⟩
      · exact .inl m
      · exact .inr ⟨C, fs, o', fs', e1, e2, e3, e4, e5⟩
  · by_cases h1 : b ∈ N
    · exact fl b h1 o ho
    · have h2 : b ∈ N' := (List.mem_append.mp hb).elim (fun q => absurd q h1) id
      obtain ⟨sl, e', _⟩ := k b o ho h1
      exact fl' b h2 { o with slots := sl } e'
theorem Turn.upd {X : Cx} {s₀ : Shared} {h : Heap} {a : Addr} {o : Obj} {vs : Array Value} (ho : h.get? a = some o) (hd : o.data = .fields vs) (hc : (∃ C, o.cls = .ref C) ∨ o.cls = .type "traceback") (hn : s₀.heap.get? a = none) (f : Array Value → Array Value) :
    Turn X s₀ h (h.update a (Obj.mapFields f)) := by
  have hx := Heap.get?_update_self (Obj.mapFields f) ho (Obj.isFreed_of_fields (Obj.data_mapFields hd f))
  refine ⟨[a], Keep.of_sameBut (Heap.SameBut.update ..), fun b hb o' ho' => ?_, fun b hb => by rw [List.mem_singleton.mp hb]; exact hn, fun b hb o' ho' => ?_, fun z1 z2 b o' e => ?_⟩
  · rw [List.mem_singleton.mp hb, ho] at ho'; cases ho'
    rw [List.mem_singleton.mp hb]
    rcases hc with ⟨C, hc⟩ | hc
    · exact .inr ⟨C, vs, _, _, hc, hd, hx, (Obj.cls_mapFields ..).trans hc, Obj.data_mapFields hd f⟩
    · exact .inl (.inl ⟨_, hc, by decide⟩)
  · rw [List.mem_singleton.mp hb, ho] at ho'; cases ho'; exact ⟨vs, hd⟩
  · refine ((Heap.SameBut.update ..).2 b fun q => ?_).trans (z2 b o' e)
    have := z1 b o' e
    rw [q, hn] at this; cases this
theorem Turn.grow {X : Cx} {s₀ : Shared} {h h' : Heap} (k : h.StaysIn h') : Turn X s₀ h h' := ⟨[], Keep.of_stays k, SOk.nil.sane _, fun _ q => (nomatch q), fun _ q => (nomatch q), fun _ z b o e => k b o (z b o e)⟩
theorem Turn.slots {X : Cx} {s₀ : Shared} {h h' : Heap} {es : List Env} (fr : Frs h X.base es) (x : Heap.SlotsOnly (es.filterMap (·.frame)) h h') : Turn X s₀ h h' :=
  ⟨[], (slots_keep fr x).1, SOk.nil.sane _, fun _ q => (nomatch q), fun _ q => (nomatch q), fun _ z => (slots_keep fr x).2 z⟩

section
variable {M : Model} {A : Around} {E : Value → Shared → Prop} {s : Shared}

theorem upd_other {h : Heap} {a b : Addr} {f : Obj → Obj} (hb : b ≠ a) : (h.update a f).get? b = h.get? b := Heap.get?_update_other _ _ (Ne.symm hb)

theorem entry_ok {X : Cx} {lv : Nat} {s₀ : Shared} {env hv : Env} {r : List Env} {L a C : Addr} {oe : Obj} {vs : Array Value} {c : Str} {head : Value} {hn : Bool} (hfr : A.frames = some (hv :: r)) (he : hv.frame = env.frame) (fr : Frs s.heap X.base (hv :: r)) (hf : env.frame = some L)
    (sub : ∀ b, s.heap.get? b = none → s₀.heap.get? b = none) (h2 : s₀.heap.get? a = none) (h3 : s.heap.get? a = some oe) (h4 : oe.cls = .ref C) (h5 : X.tv c = some (.ref C)) (h6 : oe.data = .fields vs) (h7 : 2 < vs.size) (h8 : lv = 0 → vs[2]? = some .none) :
    wpAny M A (do let x ← PySem.frameOf env; let pl ← entryPlaceOf L hn; let b ← EntryCells.newEntry head x .none (rawInt L) .none pl; setField (.ref a) 1 b) (fun _ s' => FlyG X lv False s₀ c (.ref a) s' ∧ ∃ h', s' = { s with heap := h' } ∧ Turn X s₀ s.heap h') E s := by
  refine wpAny_bind (frameOf_ok hfr he fr.funs hf fun h₁ hs₁ => ?_)
  refine wpAny_bind (wpAny_entryPlaceOf fun pl hpl => ?_)
  unfold EntryCells.newEntry newFields
  refine wpAny_bind (wpAny_newObj_type ?_ (hpl.sizeOk5 _ _ _ _ _))
  have he₁ : h₁.get? a = some oe := (slots_keep fr hs₁).1.exact h3 (by simp) fun es n q => by rw [h6] at q; cases q
  have he₂ := Heap.get?_push_of_some (h := h₁) { cls := .type "traceback", dict := none, data := .fields ([head, .ref L, .none, rawInt L, .none] ++ (if pl.isEmpty then List.replicate 6 Value.none else pl)).toArray } he₁
  refine wpAny_setField he₂ h6 (by omega) ?_
  have hTe : h₁.objs.size ≠ a := Nat.ne_of_gt (Heap.lt_size he₁)
  have hd₃ := Obj.data_mapFields h6 (·.setIfInBounds 1 (Value.ref h₁.objs.size))
  have he₃ := Heap.get?_update_self (Obj.mapFields (·.setIfInBounds 1 (Value.ref h₁.objs.size))) he₂ (Obj.isFreed_of_fields hd₃)
  refine ⟨⟨a, _, C, _, rfl, h2, he₃, (Obj.cls_mapFields ..).trans h4, h5, hd₃, by simpa using h7, fun z => ?_, .inr ⟨h₁.objs.size, _, _, ?_, sub _ ?_, hTe, (upd_other hTe).trans (Heap.get?_push_size h₁ rfl), rfl, rfl, ?_⟩⟩, _, rfl,
    (Turn.slots fr hs₁).trans ((Turn.grow fun b o e => Heap.get?_push_of_some _ e).trans (Turn.upd he₂ h6 (.inl ⟨C, h4⟩) h2 _))⟩
  · rw [Array.getElem?_setIfInBounds_ne (by decide)]; exact h8 z
  · rw [Array.getElem?_setIfInBounds_self_of_lt (by omega)]
  · rw [show h₁.objs.size = s.heap.objs.size from hs₁.1]; exact size_none _
  · simp only [List.size_toArray, List.length_append, List.length_cons, List.length_nil]; omega

theorem noteFrame_ok {X : Cx} {lv : Nat} {q : Prop} {s₀ : Shared} {env hv : Env} {r : List Env} {L : Addr} {e : Value} {c : Str} (hfr : A.frames = some (hv :: r)) (he : hv.frame = env.frame) (fr : Frs s.heap X.base (hv :: r)) (hf : env.frame = some L)
    (sub : ∀ b, s.heap.get? b = none → s₀.heap.get? b = none) (fl : FlyG X lv q s₀ c e s) :
    wpAny M A (noteFrame e env) (fun _ s' => FlyG X lv False s₀ c e s' ∧ ∃ h', s' = { s with heap := h' } ∧ Turn X s₀ s.heap h') E s := by
  obtain ⟨a, oe, C, vs, rfl, h2, h3, h4, h5, h6, h7, h8, h9⟩ := fl
  unfold noteFrame
  simp only [hf]
  rcases h9 with ⟨_, h9⟩ | ⟨T, oT, ts, z1, z2, z3, z4, z5, z6, z7⟩
  · refine wpAny_bind (wpAny_field h3 h6 h9 ?_)
    rw [if_neg (by decide)]
    exact entry_ok hfr he fr hf sub h2 h3 h4 h5 h6 h7 h8
  · refine wpAny_bind (wpAny_field h3 h6 z1 ?_)
    rw [if_pos (show (Value.ref T != Value.none) = true from by simp)]
    refine wpAny_bind (wpAny_field z4 z6 (Array.getElem?_eq_getElem z7) ?_)
    cases hb : (ts[3] == rawInt L) with
    | true =>
      rw [if_pos rfl]
      exact wpAny_pure ⟨⟨a, oe, C, vs, rfl, h2, h3, h4, h5, h6, h7, h8, .inr ⟨T, oT, ts, z1, z2, z3, z4, z5, z6, z7⟩⟩, s.heap, rfl, .refl ..⟩
    | false =>
      rw [if_neg (by simp)]
      refine wpAny_bind (wpAny_setField z4 z6 z7 ?_)
      have t1 : Turn X s₀ s.heap (s.heap.update T (Obj.mapFields (·.setIfInBounds 3 Value.none))) := .upd z4 z6 (.inr z5) z2 _
      have k1 : Keep [T] s.heap (s.heap.update T (Obj.mapFields (·.setIfInBounds 3 Value.none))) := Keep.of_sameBut (Heap.SameBut.update ..)
      have h3' : (s.heap.update T (Obj.mapFields (·.setIfInBounds 3 Value.none))).get? a = some oe := (upd_other (Ne.symm z3)).trans h3
      have fr' : Frs (s.heap.update T (Obj.mapFields (·.setIfInBounds 3 Value.none))) X.base (hv :: r) := fr.keep k1 fun L' hL' => .inl fun q => by
        obtain ⟨ev, hev, q'⟩ := List.mem_filterMap.mp hL'
        obtain ⟨_, L'', o', ds, n, e1, _, e3, e4⟩ := fr ev hev
        rw [q'] at e1; cases e1
        rw [List.mem_singleton.mp q, z4] at e3; cases e3
        rw [z6] at e4; cases e4
      refine wpAny_mono (entry_ok (s := { s with heap := _ }) hfr he fr' hf (fun b hb => sub b ?_) h2 h3' h4 h5 h6 h7 h8) (fun _ s' hq => ?_) fun _ _ z => z
      · by_cases q : b = T
        · rw [show ({ s with heap := s.heap.update T (Obj.mapFields (·.setIfInBounds 3 Value.none)) } : Shared).heap.get? b = _ from rfl, q] at hb
          rw [Heap.get?_update_self _ z4 (Obj.isFreed_of_fields (Obj.data_mapFields z6 _))] at hb; cases hb
        · exact (upd_other (f := Obj.mapFields (·.setIfInBounds 3 Value.none)) q).symm.trans hb
      · obtain ⟨f, h', rfl, t2⟩ := hq
        exact ⟨f, h', rfl, t1.trans t2⟩

theorem setFlight_ok {X : Cx} {lv : Nat} {s₀ : Shared} {e : Value} {c : Str} {f : Option Addr} (fl : FlyG X lv False s₀ c e s) :
    wpAny M A (setFlight e f) (fun _ s' => FlyG X lv False s₀ c e s' ∧ ∃ h', s' = { s with heap := h' } ∧ Turn X s₀ s.heap h') E s := by
  obtain ⟨a, oe, C, vs, rfl, h2, h3, h4, h5, h6, h7, h8, h9⟩ := fl
  rcases h9 with ⟨h9, _⟩ | ⟨T, oT, ts, z1, z2, z3, z4, z5, z6, z7⟩
  · exact h9.elim
  unfold setFlight
  refine wpAny_bind (wpAny_field h3 h6 z1 ?_)
  rw [if_pos (show (Value.ref T != Value.none) = true from by simp)]
  refine wpAny_setField z4 z6 z7 ⟨⟨a, oe, C, vs, rfl, h2, (upd_other (Ne.symm z3)).trans h3, h4, h5, h6, h7, h8, .inr ⟨T, _, _, z1, z2, z3, Heap.get?_update_self _ z4 (Obj.isFreed_of_fields (Obj.data_mapFields z6 _)), (Obj.cls_mapFields ..).trans z5, Obj.data_mapFields z6 _, by simpa using z7⟩⟩, _, rfl, .upd z4 z6 (.inr z5) z2 _⟩

theorem leaving_ok {X : Cx} {lv : Nat} {q : Prop} {s₀ : Shared} {env hv : Env} {r : List Env} {L : Addr} {e : Value} {c : Str} (hfr : A.frames = some (hv :: r)) (he : hv.frame = env.frame) (fr : Frs s.heap X.base (hv :: r)) (hf : env.frame = some L)
    (sub : ∀ b, s.heap.get? b = none → s₀.heap.get? b = none) (fl : FlyG X lv q s₀ c e s) :
    wpAny M A (leaving env e) (fun _ s' => FlyG X lv False s₀ c e s' ∧ ∃ h', s' = { s with heap := h' } ∧ Turn X s₀ s.heap h') E s := by
  unfold leaving
  refine wpAny_bind (wpAny_mono (noteFrame_ok hfr he fr hf sub fl) (fun _ s' hq => ?_) fun _ _ z => z)
  obtain ⟨f, h', rfl, t⟩ := hq
  refine wpAny_mono (setFlight_ok f) (fun _ s'' hq => ?_) fun _ _ z => z
  obtain ⟨f', h'', rfl, t'⟩ := hq
  exact ⟨f', h'', rfl, t.trans t'⟩

/-- out of a loop's or a clause's own activation -/
theorem cameBack_ok {X : Cx} {lv : Nat} {q : Prop} {s₀ : Shared} {env hv : Env} {r : List Env} {L : Addr} {e : Value} {c : Str} {A' : Around} (hfr : A.frames = some (hv :: r)) (he : hv.frame = env.frame) (fr : Frs s.heap X.base (hv :: r)) (hf : env.frame = some L)
    (sub : ∀ b, s.heap.get? b = none → s₀.heap.get? b = none) (fl : FlyG X lv q s₀ c e s) (hE : ∀ h', FlyG X lv False s₀ c e { s with heap := h' } → Turn X s₀ s.heap h' → E e { s with heap := h' }) :
    notedBy M A env (cameBackBy M A' env E) e s := by
  unfold notedBy
  refine wpAny_mono (noteFrame_ok hfr he fr hf sub fl) (fun _ s' hq => ?_) fun _ _ z => z
  obtain ⟨f, h', rfl, t⟩ := hq
  unfold cameBackBy
  obtain ⟨a, oe, C, vs, rfl, h2, h3, h4, h5, h6, h7, h8, h9⟩ := id f
  rcases h9 with ⟨h9, _⟩ | ⟨T, oT, ts, z1, z2, z3, z4, z5, z6, z7⟩
  · exact h9.elim
  refine wpAny_bind (wpAny_field h3 h6 z1 ?_)
  rw [if_neg (by simp)]
  refine wpAny_mono (setFlight_ok f) (fun _ s'' hq => ?_) fun _ _ z => z
  obtain ⟨f', h'', rfl, t'⟩ := hq
  exact hE h'' f' (t.trans t')
end
end Mine

/- I1 -/
set_option tactic.hygienic false
/-! Mine: iterators, under a handled exception too. -/
namespace Mine
open PySem PySem.Spec PySem.Calls PyProof.Rows

theorem entry_unchain : entryFor table "proto.unchain" = some Builtin.«proto.unchain» := entryFor_of_fast (by kernel_rfl)

section
variable {prog : Program} {w : World} {A : Around} {E : Value → Shared → Prop} {s : Shared}

theorem raiseNew_hand {α : Type} {lv : Nat} {a : Addr} {o : Obj} {vs : Array Value} {Q : α → Shared → Prop} (hl : lv ≤ 1) (hh : Hand lv A s.heap) (hne : A.handled ≠ some (.ref a)) (ho : s.heap.get? a = some o) (hd : o.data = .fields vs) (hz : 2 < vs.size)
    (h : ∀ h' o' vs', Heap.SameBut a s.heap h' → h'.get? a = some o' → o'.cls = o.cls → o'.data = .fields vs' → vs'.size = vs.size → (∀ k, k ≠ 2 → vs'[k]? = vs[k]?) → (lv = 0 → vs' = vs) → E (.ref a) { s with heap := h' }) :
    wpAny (model prog w) A (raiseNew (.ref a) : Sem α) Q E s := by
  unfold raiseNew
  refine wpAny_bind (wpAny_handled ?_)
  match lv, hl, hh with
  | 0, _, hh =>
    rw [show A.handled = none from hh]
    refine wpAny_bind (wpAny_pure (wpAny_throw ?_))
    exact h s.heap o vs (.refl ..) ho rfl hd rfl (fun _ _ => rfl) fun _ => rfl
  | 1, _, ⟨e, oe, C, us, h1, h2, h3, h4, h5⟩ =>
    have hea : e ≠ a := fun q => hne (by rw [h1, q])
    rw [h1]
    simp only
    rw [if_pos (by simp [hea])]
    refine wpAny_bind (wpAny_holding (wpAny_runValue (codeAny_builtin entry_unchain ?_)))
    show wpAny _ _ (field (.ref e) 2 >>= _) _ _ s
    refine wpAny_bind (wpAny_field h2 h4 h5 ?_)
    rw [if_pos (by rfl)]
    refine wpAny_pure ?_
    show wpAny _ _ (updateField a 2 (.ref e) >>= fun _ => throw (.ref a)) _ _ s
    unfold updateField
    refine wpAny_bind (wpAny_bind (wpAny_load ho ?_))
    rw [hd]
    simp only
    rw [if_pos hz]
    refine wpAny_update ho (wpAny_throw ?_)
    refine h _ _ _ (Heap.SameBut.update ..) (Heap.get?_update_self _ ho (Obj.isFreed_of_fields (Obj.data_mapFields hd _))) (Obj.cls_mapFields ..) (Obj.data_mapFields hd _) (by simp) (fun k hk => ?_) (fun q => by cases q)
    rw [Array.getElem?_setIfInBounds_ne (Ne.symm hk)]

theorem Hand.ne {lv : Nat} (hl : lv ≤ 1) (hh : Hand lv A s.heap) {a : Addr} (hn : s.heap.get? a = none) : A.handled ≠ some (.ref a) := by
  match lv, hl, hh with
  | 0, _, hh => rw [show A.handled = none from hh]; intro q; cases q
  | 1, _, ⟨e, oe, C, us, h1, h2, _⟩ =>
    rw [h1]; intro q; cases q; rw [hn] at h2; cases h2

theorem Hand.at1 {lv : Nat} {h : Heap} (hh : Hand lv A h) : Hand lv A.in1 h := by
  match lv, hh with
  | 0, hh => exact hh
  | 1, hh => exact hh
  | _ + 2, _ => trivial

theorem stop_end {lv : Nat} {it : Addr} {h₀ : Heap} {Q : Option Value → Shared → Prop} (hl : lv ≤ 1) (hh : Hand lv A s.heap) (hx : Heap.ExtBut it h₀ s.heap) (hQ : ∀ h', Heap.ExtBut it h₀ h' → Q none { s with heap := h' }) {α : Type} {K : α → Shared → Prop} :
    wpAny (model prog w) A.in1 (newExc (.type "StopIteration") [] >>= fun e => (raiseNew e : Sem α)) K (fun x s' => wpAny (model prog w) A (do if ← isInstance x (.type "StopIteration") then pure none else throw x) Q E s') s := by
  refine wpAny_bind ?_
  simp only [newExc, newTuple]
  refine wpAny_bind (wpAny_newObj_type ?_ (by size_fits))
  refine wpAny_bind (m := firstArgMember _ _) (wpAny_of_eq (a := Value.none) (by first | rfl | (simp only [firstArgMember]; rfl)) ?_)
  refine wpAny_newObj_type ?_ (by size_fits)
  have hh' := Hand.at1 (Hand.keep (S := []) hh (h' := (s.heap.push { cls := .type "tuple", data := .seq #[] }).push { cls := .type "StopIteration", data := .fields (#[.ref s.heap.objs.size, .none, .none, .none, .bool false, .none] ++ ownMembersOf (.type "StopIteration") []) })
    (Keep.of_stays fun b o e => Heap.get?_push_of_some _ (Heap.get?_push_of_some _ e)) SOk.nil)
  have hn : s.heap.get? (s.heap.objs.size + 1) = none := Heap.get?_none_of_le (by omega)
  refine raiseNew_hand (s := { s with heap := _ }) hl hh' ?_ (Heap.get?_push_size _ rfl) rfl (by simp; omega) fun h' o' vs' hs hg hc hd _ _ _ => ?_
  · rw [Heap.size_push]
    exact Hand.ne (A := A) hl hh hn
  · refine wpAny_bind (wpAny_isInstance (T := "StopIteration") (b := true) ⟨o', hg, hc⟩ isSubtype_stop ?_)
    refine wpAny_pure (hQ _ fun b o hb e => ?_)
    have e1 := hx b o hb e
    exact (hs.2 b (by rw [Heap.size_push]; exact fun q => by rw [q] at e1; rw [hn] at e1; cases e1)).trans (Heap.get?_push_of_some _ (Heap.get?_push_of_some _ e1))

theorem next_range_end {lv : Nat} {it : Addr} {x left step : Int} {Q : Option Value → Shared → Prop} (hl : lv ≤ 1) (hh : Hand lv A s.heap) (hit : IsRangeIter s.heap it x left step) (hleft : left ≤ 0)
    (hQ : ∀ h', Heap.ExtBut it s.heap h' → Q none { s with heap := h' }) : wpAny (model prog w) A (pyNext (.ref it)) Q E s := by
  have hT : s.TypeIs (.ref it) "range_iterator" := ⟨_, hit, rfl⟩
  unfold pyNext
  refine wpAny_bind (wpAny_attempt (wpAny_callSpecial?_slot (name := Str.ofString "__next__") hT F.slot_range_iterator_next
    (wpAny_call_entry F.slot_range_iterator_next hT F.entry_range_iterator_next ?_ (F.args_range_iterator_next_1 _))))
  show wpAny _ _ (field (.ref it) 0 >>= _) _ _ s
  refine wpAny_bind (wpAny_field hit rfl (x := rawInt x) rfl ?_)
  show wpAny _ _ (field (.ref it) 1 >>= _) _ _ s
  refine wpAny_bind (wpAny_field hit rfl (x := rawInt left) rfl ?_)
  show wpAny _ _ (field (.ref it) 2 >>= _) _ _ s
  refine wpAny_bind (wpAny_field hit rfl (x := rawInt step) rfl ?_)
  show wpAny _ _ (if left ≤ 0 then _ else _) _ _ s
  rw [if_pos hleft]
  refine wpAny_bind (wpAny_rule ?_)
  refine wpAny_bind ?_
  show wpAny _ _ (newExc (.type "StopIteration") [] >>= fun e => (raiseNew e : Sem _)) _ _ s
  exact stop_end hl hh (Heap.ExtBut.refl it s.heap) hQ

theorem next_list_end {lv : Nat} {it l : Addr} {i : Nat} {items} {Q : Option Value → Shared → Prop} (hl : lv ≤ 1) (hh : Hand lv A s.heap)
    (hit : s.heap.IsListIter it l i) (hli : s.heap.IsList l items) (hx : items[i]? = none)
    (hQ : ∀ h', Heap.ExtBut it s.heap h' → Q none { s with heap := h' }) : wpAny (model prog w) A (pyNext (.ref it)) Q E s := by
  obtain ⟨o, ho, hc, hd⟩ := id hit
  obtain ⟨ol, hol, _, nl, hdl⟩ := hli
  unfold pyNext
  refine wpAny_bind (wpAny_attempt (wpAny_callSpecial?_slot (name := Str.ofString "__next__") hit.typeIs slot_listiter_next
    (wpAny_call_entry slot_listiter_next hit.typeIs entry_listiter_next ?_ (args_listiter_next _))))
  show wpAny _ _ (field (.ref it) 0 >>= _) _ _ s
  refine wpAny_bind (wpAny_field ho hd (x := .ref l) rfl ?_)
  show wpAny _ _ (if (Value.ref l == Value.none) = true then _ else _) _ _ s
  rw [if_neg (show ¬ ((Value.ref l == Value.none) = true) from Bool.false_ne_true)]
  show wpAny _ _ (field (.ref it) 1 >>= _) _ _ s
  refine wpAny_bind (wpAny_field ho hd (x := .int i 0) rfl ?_)
  show wpAny _ _ (seqItems? (.ref l) >>= _) _ _ s
  refine wpAny_bind (wpAny_seqItems hol hdl ?_)
  simp only [Int.toNat_natCast, hx]
  refine wpAny_bind (wpAny_rule (wpAny_bind (wpAny_setField ho hd (by simp) ?_)))
  have hs : Heap.SameBut it s.heap (s.heap.update it (Obj.mapFields (·.setIfInBounds 0 Value.none))) := Heap.SameBut.update ..
  exact stop_end (s := { s with heap := _ }) hl (hh.keep (Keep.of_sameBut hs) fun b hb o' ho' => by
    rw [List.mem_singleton.mp hb, ho] at ho'; cases ho'; exact .inl ⟨_, hc, by decide⟩) hs.extBut hQ
end
end Mine

/- I2 -/
set_option tactic.hygienic false
/-! Mine: turns of an iterator. -/
namespace Mine
open PySem PySem.Spec PySem.Calls PyProof.Rows

noncomputable def srcAt (σ : Sto) (i : Nat) : Src → Option AV
  | .items xs => xs[i]?
  | .lst n => (listOf? σ (.ref n)).bind (·[i]?)
/-- a list stands there -/
noncomputable def srcIs (σ : Sto) : Src → Prop
  | .items _ => True
  | .lst n => ∃ xs, listOf? σ (.ref n) = some xs

/-- what may be iterated over -/
noncomputable def SrcV (X : Cx) (ρ : List Addr) (h : Heap) (v : Value) : Src → Prop
  | .items xs => (∃ r a b t u k, v = .ref r ∧ xs = rangeL a b ∧ IsRange h r a b 1 t u k ∧ -(2 ^ 40) ≤ a ∧ a ≤ 2 ^ 40 ∧ -(2 ^ 40) ≤ b ∧ b ≤ 2 ^ 40) ∨ ∃ l vs ns, v = .ref l ∧ xs = ns.map .int ∧ X.base.IsList l vs.toArray ∧ IntsAre vs ns
  | .lst n => ∃ l, v = .ref l ∧ ρ[n]? = some l

noncomputable def It (X : Cx) (ρ : List Addr) (h : Heap) (I : Addr) (i : Nat) : Src → Prop
  | .items xs => (∃ a b, xs = rangeL a b ∧ IsRangeIter h I (a + i) (((b - a).toNat : Int) - i) 1) ∨ ∃ l vs ns, xs = ns.map .int ∧ X.base.IsList l vs.toArray ∧ IntsAre vs ns ∧ h.IsListIter I l i
  | .lst n => ∃ l, ρ[n]? = some l ∧ h.IsListIter I l i

theorem It.at {X : Cx} {ρ ρ' : List Addr} {h h' : Heap} {I : Addr} {i : Nat} {src : Src} (x : It X ρ h I i src) (hr : Ext ρ ρ') (e : ∀ o, h.get? I = some o → h'.get? I = some o) : It X ρ' h' I i src := by
  cases src with
  | items xs =>
    rcases x with ⟨a, b, e1, e2⟩ | ⟨l, vs, ns, e1, e2, e3, o, e4, e5⟩
    · exact .inl ⟨a, b, e1, e _ e2⟩
    · exact .inr ⟨l, vs, ns, e1, e2, e3, o, e _ e4, e5⟩
  | lst n =>
    obtain ⟨l, e1, o, e2, e3⟩ := x
    exact ⟨l, hr _ _ e1, o, e _ e2, e3⟩
/-- an iterator is a record -/
theorem It.rec' {X : Cx} {ρ : List Addr} {h : Heap} {I : Addr} {i : Nat} {src : Src} (x : It X ρ h I i src) : ∃ o fs, h.get? I = some o ∧ o.data = .fields fs ∧ MutO o := by
  cases src with
  | items xs =>
    rcases x with ⟨a, b, e1, e2⟩ | ⟨l, vs, ns, e1, e2, e3, o, e4, e5, e6⟩
    · exact ⟨_, _, e2, rfl, .inl ⟨_, rfl, by decide⟩⟩
    · exact ⟨o, _, e4, e6, .inl ⟨_, e5, by decide⟩⟩
  | lst n =>
    obtain ⟨l, e1, o, e2, e3, e4⟩ := x
    exact ⟨o, _, e2, e4, .inl ⟨_, e3, by decide⟩⟩

theorem rangeL_get {a b : Int} {i : Nat} : (rangeL a b)[i]? = if i < (b - a).toNat then some (.int (a + i)) else none := by
  unfold rangeL
  rw [List.getElem?_map]
  set_option tactic.hygienic true in split
  · rename_i h; rw [List.getElem?_range h]; rfl
  · rename_i h; rw [List.getElem?_eq_none (by simpa using h)]; rfl

section
variable {prog : Program} {w : World} {A : Around} {E : Value → Shared → Prop} {s : Shared} {X : Cx} {ρ : List Addr} {σ : Sto} {lv : Nat}

theorem It.next {I : Addr} {i : Nat} {src : Src} {Q : Option Value → Shared → Prop} (W : Wd X ρ σ s.heap) (hl : lv ≤ 1) (hh : Hand lv A s.heap) (it : It X ρ s.heap I i src) (hs : srcIs σ src)
    (hQ0 : srcAt σ i src = none → ∀ h', Heap.ExtBut I s.heap h' → Q none { s with heap := h' })
    (hQ1 : ∀ a, srcAt σ i src = some a → ∀ h' tk v, Heap.ExtBut I s.heap h' → It X ρ h' I (i + 1) src → Rep X ρ s.heap v a → Q (some v) { s with heap := h', toks := tk }) :
    wpAny (model prog w) A (pyNext (.ref I)) Q E s := by
  have lists : ∀ l vs xs, s.heap.IsListIter I l i → s.heap.IsList l vs.toArray → RepAll X ρ s.heap vs xs → srcAt σ i src = xs[i]? → (∀ h' : Heap, h'.IsListIter I l (i + 1) → It X ρ h' I (i + 1) src) → wpAny (model prog w) A (pyNext (.ref I)) Q E s := fun l vs xs hit hli ra e hI => by
    cases q : xs[i]? with
    | none =>
      have hv : vs[i]? = none := List.getElem?_eq_none (by rw [ra.length]; exact List.getElem?_eq_none_iff.mp q)
      exact next_list_end hl hh hit hli (by simpa using hv) (hQ0 (e.trans q))
    | some a =>
      obtain ⟨v, hv, r⟩ := ra.get q
      exact wpAny_pyNext_list_item hit hli (by simpa using hv) fun h' hi' hb => hQ1 a (e.trans q) h' s.toks v hb.extBut (hI h' hi') r
  cases src with
  | items xs =>
    rcases it with ⟨a, b, rfl, hit⟩ | ⟨l, vs, ns, rfl, hb, ia, hit⟩
    · by_cases hlt : i < (b - a).toNat
      · refine wpAny_pyNext_range_item hit (by omega) fun h' hi' hb => hQ1 (.int (a + i)) (by show (rangeL a b)[i]? = _; rw [rangeL_get, if_pos hlt]) h' _ _ hb.extBut (.inl ⟨a, b, rfl, ?_⟩) (.int _ _)
        have e1 : a + ((i + 1 : Nat) : Int) = a + (i : Int) + 1 := by omega
        have e2 : ((b - a).toNat : Int) - ((i + 1 : Nat) : Int) = ((b - a).toNat : Int) - (i : Int) - 1 := by omega
        rw [e1, e2]; exact hi'
      · exact next_range_end hl hh hit (by omega) (hQ0 (by show (rangeL a b)[i]? = _; rw [rangeL_get, if_neg hlt]))
    · obtain ⟨o, ho, hc, hd⟩ := id hb
      exact lists l vs _ hit ⟨o, W.stays _ _ ho, hc, hd⟩ (repInts ia) rfl fun h' z => .inr ⟨l, vs, ns, rfl, hb, ia, z⟩
  | lst n =>
    obtain ⟨l, e1, hit⟩ := it
    obtain ⟨xs, hx⟩ := hs
    obtain ⟨l', vs, e', il, _, ra⟩ := (Rep.ref (X := X) (h := s.heap) e1).isList W hx
    cases e'
    exact lists l vs xs hit il ra (by show (listOf? σ (.ref n)).bind _ = _; rw [hx]; rfl) fun h' z => ⟨l, e1, z⟩

theorem iter_ok {v : Value} {src : Src} {Q : Value → Shared → Prop} (W : Wd X ρ σ s.heap) (sv : SrcV X ρ s.heap v src) (hs : srcIs σ src)
    (hQ : ∀ h', s.heap.StaysIn h' → It X ρ h' s.heap.objs.size 0 src → Q (.ref s.heap.objs.size) { s with heap := h' }) : wpAny (model prog w) A (pyIter v) Q E s := by
  cases src with
  | items xs =>
    rcases sv with ⟨r, a, b, t, u, k, rfl, rfl, hr, h1, h2, h3, h4⟩ | ⟨l, vs, ns, rfl, rfl, hb, ia⟩
    · refine wpAny_pyIter_range hr (small_one (by omega) (by omega) (by omega) (by omega)) (hQ _ (fun b o e => Heap.get?_push_of_some _ e) (.inl ⟨a, b, rfl, ?_⟩))
      have e : Builtin.Range.rangeSize a b 1 = ((b - a).toNat : Int) - (0 : Nat) := by rw [rangeSize_one]; split <;> omega
      rw [e]
      rw [show a + ((0 : Nat) : Int) = a by omega]
      exact Heap.get?_push_size _ rfl
    · obtain ⟨o, ho, hc, hd⟩ := id hb
      exact wpAny_pyIter_list ⟨o, W.stays _ _ ho, hc, hd⟩ (hQ _ (fun b o e => Heap.get?_push_of_some _ e) (.inr ⟨l, vs, ns, rfl, hb, ia, _, Heap.get?_push_size _ rfl, rfl, rfl⟩))
  | lst n =>
    obtain ⟨l, rfl, e1⟩ := sv
    obtain ⟨xs, hx⟩ := hs
    obtain ⟨l', vs, e', il, _, ra⟩ := (Rep.ref (X := X) (h := s.heap) e1).isList W hx
    cases e'
    exact wpAny_pyIter_list il (hQ _ (fun b o e => Heap.get?_push_of_some _ e) ⟨l, e1, _, Heap.get?_push_size _ rfl, rfl, rfl⟩)

theorem srcOf_ok {v : Value} {a : AV} {src : Src} {σ' : Sto} (r : Rep X ρ s.heap v a) (e : srcOf a σ = .ok src σ') : σ' = σ ∧ SrcV X ρ s.heap v src ∧ srcIs σ src := by
  unfold srcOf at e
  set_option tactic.hygienic true in split at e
  · rename_i n
    set_option tactic.hygienic true in split at e
    · rename_i xs hx
      cases e
      obtain ⟨_, rfl, h⟩ := r.ref_inv
      exact ⟨rfl, ⟨_, rfl, h⟩, xs, by simp only [listOf?]; rw [hx]⟩
    · cases e
  · cases e
    obtain ⟨_, _, _, rfl, rfl, z, b, i⟩ := r.frozen_inv
    exact ⟨rfl, .inr ⟨_, _, _, rfl, rfl, b, i⟩, trivial⟩
  · cases e

theorem range_ok {vs : List Value} {xs : List AV} {src : Src} {σ' : Sto} (W : Wd X ρ σ s.heap) (ra : RepAll X ρ s.heap vs xs) (e : rangeOf xs σ = .ok src σ') :
    wpAny (model prog w) A (call (.type "range") vs) (fun v s' => ∃ h tk, s' = { s with heap := h, toks := tk } ∧ s.heap.StaysIn h ∧ SrcV X ρ h v src ∧ srcIs σ src ∧ σ' = σ) E s := by
  unfold rangeOf at e
  set_option tactic.hygienic true in split at e
  · rename_i b
    cases hc : (decide (-(2 ^ 40) ≤ b) && decide (b ≤ 2 ^ 40)) with
    | false => rw [hc] at e; cases e
    | true =>
      rw [hc] at e; cases e
      have hb := Bool.and_eq_true_iff.mp hc
      have h1 := of_decide_eq_true hb.1
      have h2 := of_decide_eq_true hb.2
      obtain ⟨_, rfl, r⟩ := ra.one_inv
      obtain ⟨_, rfl⟩ := r.int_inv
      exact call_range_1 ⟨_, _, rfl, fun b o e => Heap.get?_push_of_some _ e, .inl ⟨_, 0, b, _, _, _, rfl, rfl, IsRange.new _ _ _ _ _ _ _, by omega, by omega, h1, h2⟩, trivial, rfl⟩
  · rename_i a b
    cases hc : (decide (0 ≤ a) && decide (a ≤ 2 ^ 40) && decide (-(2 ^ 40) ≤ b) && decide (b ≤ 2 ^ 40)) with
    | false => rw [hc] at e; cases e
    | true =>
      rw [hc] at e; cases e
      simp only [Bool.and_eq_true, decide_eq_true_eq] at hc
      obtain ⟨_, _, rfl, r, r'⟩ := ra.two_inv
      obtain ⟨_, rfl⟩ := r.int_inv
      obtain ⟨_, rfl⟩ := r'.int_inv
      · skip
        exact call_range_2 ⟨_, _, rfl, fun b o e => Heap.get?_push_of_some _ e, .inl ⟨_, a, b, _, _, _, rfl, rfl, IsRange.new _ _ _ _ _ _ _, by omega, by omega, by omega, by omega⟩, trivial, rfl⟩
  · cases e
end
end Mine

/- E1 -/
set_option tactic.hygienic false
/-! Mine: names and arguments. -/
namespace Mine
open PySem PySem.Spec PySem.Calls PyProof.Rows

structure ScOk (sc : Scope) (env : Env) : Prop where
  loc : ∀ x, isLoc sc x = true → env.kindOf x = some .local ∨ env.kindOf x = some .cell ∨ env.kindOf x = some .free
  glb : ∀ x, isGlob sc x = true → env.kindOf x = some .globalImplicit
  has : ∀ x, isCell sc x = true → (env.kindOf x = some .cell ∨ env.kindOf x = some .free) ∧ ∃ c, env.cells.lookup x = some c
  nd : ∀ x, isLoc sc x = true ∨ isGlob sc x = true → (x == ("__debug__" : Str)) = false ∧ (x == ("__classdict__" : Str)) = false

structure Cl (X : Cx) (n lv : Nat) (A : Around) (es : List Env) (ρ : List Addr) (σ : Sto) (s : Shared) : Prop where
  wd : Wd X ρ σ s.heap
  frames : A.frames = some es
  frs : Frs s.heap X.base es
  offr : ∀ L ∈ es.filterMap (·.frame), L ∉ ρ
  room : Room n A
  hand : Hand lv A s.heap
theorem Ct.cl {X : Cx} {n lv : Nat} {A : Around} {env : Env} {es : List Env} {ρ : List Addr} {l : Loc} {σ : Sto} {s : Shared} (c : Ct X n lv A env es ρ l σ s) : Cl X n lv A es ρ σ s :=
  let ⟨_, _, _, _, e3, e4⟩ := c.frame; ⟨c.wd, e3, e4, c.offr, c.room, c.hand⟩

noncomputable def CallS (prog : Program) (w : World) (X : Cx) (mg : Str → Option Value) (n : Nat) (cf : Calls) : Prop :=
  ∀ (A : Around) (es : List Env) (ρ : List Addr) (σ : Sto) (s : Shared) (lv : Nat) (f : Str) (a : Addr) (o : Obj) (fd : FuncData) (vs : List Value) (xs : List AV), Cl X n lv A es ρ σ s → mg f = some (.ref a) → X.base.get? a = some o → o.data = .func fd →
    RepAll X ρ s.heap vs xs → cf lv f xs σ ≠ .bad → wpAny (model prog w) A (call (.ref a) vs) (OkV X ρ s (cf lv f xs σ)) (ExV X lv ρ s (cf lv f xs σ)) s

theorem spl {pos : Pos} {env : Env} {e : Expr} {r : List Expr} (h : noStar (e :: r) = true) : backTo pos (starEach (e :: r) env) = (false, eval e env) :: backTo pos (starEach r env) := by
  cases e <;> first | rfl | exact (Bool.false_ne_true h).elim
theorem spl_tl {e : Expr} {r : List Expr} (h : noStar (e :: r) = true) : noStar r = true := by
  cases e <;> first | exact h | exact (Bool.false_ne_true h).elim
theorem spl_any {pos : Pos} {env : Env} : ∀ {es : List Expr}, noStar es = true → (backTo pos (starEach es env)).any (·.1) = false
  | [], _ => rfl
  | e :: r, h => by rw [spl h, List.any_cons, spl_any (spl_tl h)]; rfl
theorem spl_all {pos : Pos} {env : Env} : ∀ {es : List Expr}, noStar es = true → (backTo pos (starEach es env)).all (fun x => !x.1) = true
  | [], _ => rfl
  | e :: r, h => by rw [spl h, List.all_cons, spl_all (spl_tl h)]; rfl

section
variable {prog : Program} {w : World} {A : Around} {E : Value → Shared → Prop} {s : Shared} {X : Cx} {P : Prog} {mg mb : Str → Option Value} {n lv : Nat} {env : Env} {es : List Env} {ρ : List Addr} {l : Loc} {σ : Sto} {sc : Scope}

theorem name_at {x : Str} {pos : Pos} {a : AV} {σ' : Sto} {Q : Value → Shared → Prop} (G : Gd prog w X P mg mb) (S : ScOk sc env) (c : Ct X n lv A env es ρ l σ s) (hx : evName P sc x l σ = .ok a σ') (hQ : ∀ v, Rep X ρ s.heap v a → Q v s) :
    wpAny (model prog w) A (eval (.Name x pos) env) Q E s := by
  unfold evName at hx
  cases hl : isLoc sc x with
  | true =>
    rw [hl] at hx
    simp only [cond_true] at hx
    have nd := S.nd x (.inl hl)
    have h0 : x ≠ (".0" : Str) := fun q => by subst q; unfold isLoc at hl; simp at hl
    cases hg : getL x l with
    | none => rw [hg] at hx; cases hx
    | some a =>
      rw [hg] at hx; cases hx
      rcases S.loc x hl with k | k | k
      · obtain ⟨m, hn, f⟩ := c.loc.ns
        obtain ⟨v, hv, r⟩ := f x a hg h0 k
        exact wpAny_Name (wpAny_loadName_local c.kind k hn hv (hQ v r)) nd.1
      · obtain ⟨cl, v, hc, hv, r⟩ := c.loc.val x a hg (.inl k)
        exact wpAny_Name (wpAny_loadName_cell c.kind k hc hv (hQ v r)) nd.1
      · obtain ⟨cl, v, hc, hv, r⟩ := c.loc.val x a hg (.inr k)
        exact wpAny_Name (wpAny_loadName_free c.kind k hc hv (hQ v r) nd.2) nd.1
  | false =>
    rw [hl] at hx
    simp only [cond_false] at hx
    cases hg : (isGlob sc x && P.typ x) with
    | false => rw [hg] at hx; cases hx
    | true =>
      rw [hg] at hx; cases hx
      have hg := Bool.and_eq_true_iff.mp hg
      obtain ⟨v, tv, vt, hm⟩ := G.typ x hg.2
      have gl := G.gl.keeps c.wd.stays
      refine Name_function_global c.kind (S.glb x hg.1) ?_ (S.nd x (.inr hg.1)).1
      rcases hm with e | ⟨e1, e2⟩
      · exact loadGlobal_global (c.glob ▸ gl.g) e (hQ v (.typ tv vt))
      · exact loadGlobal_builtin (c.glob ▸ gl.g) e1 (c.blt ▸ gl.b) e2 (hQ v (.typ tv vt))
theorem evName_st {x : Str} {a : AV} {σ' : Sto} (h : evName P sc x l σ = .ok a σ') : σ' = σ := by
  unfold evName at h
  cases hl : isLoc sc x with
  | true => rw [hl] at h; exact (optA_ok h).2
  | false =>
    rw [hl] at h
    cases hg : (isGlob sc x && P.typ x) with
    | false => rw [hg] at h; cases h
    | true => rw [hg] at h; cases h; rfl
theorem name_ok {x : Str} {pos : Pos} (G : Gd prog w X P mg mb) (S : ScOk sc env) (c : Ct X n lv A env es ρ l σ s) (hb : evName P sc x l σ ≠ .bad) :
    wpAny (model prog w) A (eval (.Name x pos) env) (OkV X ρ s (evName P sc x l σ)) E s := by
  cases h : evName P sc x l σ with
  | bad => exact absurd h hb
  | exc c σ' => exact absurd h (evName_nx c σ')
  | ok a σ' =>
    have e := evName_st h
    subst e
    exact name_at G S c h fun v r => ⟨a, σ', ρ, rfl, .refl c.wd, r⟩

theorem glob_name {g : Str} {pos : Pos} {v : Value} {Q : Value → Shared → Prop} (G : Gd prog w X P mg mb) (S : ScOk sc env) (c : Ct X n lv A env es ρ l σ s) (hg : isGlob sc g = true) (hv : mg g = some v ∨ (mg g = none ∧ mb g = some v)) (h : Q v s) :
    wpAny (model prog w) A (eval (.Name g pos) env) Q E s := by
  have gl := G.gl.keeps c.wd.stays
  refine Name_function_global c.kind (S.glb g hg) ?_ (S.nd g (.inr hg)).1
  rcases hv with e | ⟨e1, e2⟩
  · exact loadGlobal_global (c.glob ▸ gl.g) e h
  · exact loadGlobal_builtin (c.glob ▸ gl.g) e1 (c.blt ▸ gl.b) e2 h

theorem args_ok {f : Value} {pos : Pos} {args : List Expr} {Q : Args → Shared → Prop} (hs : noStar args = true) (h : wpAny (model prog w) A (spliced (backTo pos (starEach args env))) (fun vs s' => Q ⟨vs, []⟩ s') E s) :
    wpAny (model prog w) A (evalArgs f true (backTo pos (starEach args env)) []) Q E s := by
  cases args with
  | nil =>
    unfold evalArgs
    show wpAny _ A (spliced [] >>= _) Q E s
    refine wpAny_bind (wpAny_mono h (fun vs s' h' => ?_) fun _ _ x => x)
    refine wpAny_holding ?_
    exact wpAny_bind (wpAny_pure (wpAny_bind (wpAny_pure (wpAny_pure h'))))
  | cons e r =>
    rw [spl hs] at h ⊢
    exact evalArgs_plain h
end
end Mine

/- E2 -/
set_option tactic.hygienic false
/-! Mine: calls by name, and append. -/
namespace Mine
open PySem PySem.Spec PySem.Calls PyProof.Rows

theorem Wd.setList {X : Cx} {ρ : List Addr} {σ : Sto} {h h' : Heap} {n : Nat} {l : Addr} {xs : List AV} {vs : List Value} (W : Wd X ρ σ h) (hn : ρ[n]? = some l) (hs : Heap.SameBut l h h') (hl : IsL h' l vs) (hz : vs.length ≤ bigN + 1) (ra : RepAll X ρ h vs xs) :
    Wd X ρ (σ.set n (.list xs)) h' := by
  have hm := List.mem_of_getElem? hn
  have k : Keep [l] h h' := Keep.of_sameBut hs
  have so : SOk h [l] := fun b hb o ho => W.sok b (by rw [List.mem_singleton.mp hb]; exact hm) o ho
  refine ⟨fun b o e => ?_, W.new, W.nodup, by simpa using W.len, fun j o e => ?_⟩
  · refine (hs.2 b fun q => ?_).trans (W.stays b o e)
    rw [q, W.new l hm] at e; cases e
  · rw [List.getElem?_set] at e
    set_option tactic.hygienic true in split at e
    · rename_i hj
      subst hj
      set_option tactic.hygienic true in split at e
      · cases e
        exact ⟨l, hn, vs, hl, hz, ra.mono k so (.refl _)⟩
      · cases e
    · rename_i hj
      obtain ⟨b, hb, r⟩ := W.objs j o e
      refine ⟨b, hb, ?_⟩
      cases o with
      | dict es => exact r.elim
      | list ys =>
        obtain ⟨ws, ⟨ob, c, e1, e2, e3, e4⟩, z, rr⟩ := r
        have hbl : b ≠ l := fun q => by
          subst q
          have h1 := (List.getElem?_eq_some_iff.mp hn)
          have h2 := (List.getElem?_eq_some_iff.mp hb)
          obtain ⟨i1, q1⟩ := h1
          obtain ⟨i2, q2⟩ := h2
          exact hj ((List.getElem_inj W.nodup).mp (q1.trans q2.symm))
        exact ⟨ws, ⟨ob, c, (hs.2 b hbl).trans e1, e2, e3, e4⟩, z, rr.mono k so (.refl _)⟩
theorem After.setList {X : Cx} {ρ : List Addr} {σ : Sto} {s : Shared} {h' : Heap} {n : Nat} {l : Addr} {xs : List AV} {vs : List Value} (W : Wd X ρ σ s.heap) (hn : ρ[n]? = some l) (hs : Heap.SameBut l s.heap h') (hl : IsL h' l vs) (hz : vs.length ≤ bigN + 1) (ra : RepAll X ρ s.heap vs xs) (t : Nat) :
    After X ρ s ρ (σ.set n (.list xs)) { s with heap := h', toks := t } :=
  ⟨.refl _, fun _ h => .inl h, W.setList hn hs hl hz ra, (Keep.of_sameBut hs).mono fun b hb => by rw [List.mem_singleton.mp hb]; exact List.mem_of_getElem? hn, ⟨_, _, rfl⟩⟩

theorem Obj.dict_mapSeq (o : Obj) (f) : (o.mapSeq f).dict = o.dict := by
  obtain ⟨c, d, dt, sl⟩ := o; cases dt <;> rfl

section
variable {prog : Program} {w : World} {A : Around} {E : Value → Shared → Prop} {s : Shared} {X : Cx} {P : Prog} {mg mb : Str → Option Value} {n lv : Nat} {env : Env} {es : List Env} {ρ : List Addr} {l : Loc} {σ : Sto} {sc : Scope} {cf : Calls}

theorem list_append {a : Addr} {vs : List Value} {x : Value} {Q : Value → Shared → Prop} (hl : IsL s.heap a vs) (hz : vs.length ≤ bigN + 1)
    (hQ : ∀ h', IsL h' a (vs ++ [x]) → Heap.SameBut a s.heap h' → Q .none { s with heap := h' }) : wpAny (model prog w) A (call (.builtin "list.append") [.ref a, x]) Q E s := by
  obtain ⟨o, n, ho, hc, hdn, hd⟩ := id hl
  obtain ⟨n', hd'⟩ := Obj.data_mapSeq hd (·.push x)
  refine wpAny_call_entry slot_list_append hl.is.typeIs entry_list_append ?_ (args_list_append _ _)
  show wpAny _ _ (updateSeq a (·.push x) >>= fun _ => ret .none) _ _ s
  refine wpAny_bind ?_
  refine wpAny_updateSeq ho hd (wpAny_pure ⟨.none, rfl, hQ _ ?_ (Heap.SameBut.update ..)⟩) (by unfold bigN at hz; simp only [List.size_toArray, sizeLine_eq]; omega) (by unfold bigN at hz; simp only [List.push_toArray, List.size_toArray, List.length_append, List.length_cons, List.length_nil, sizeLine_eq]; omega)
  exact ⟨_, n', Heap.get?_update_self _ ho (Obj.isFreed_of_seq hd'), (Obj.cls_mapSeq ..).trans hc, (Obj.dict_mapSeq ..).trans hdn, by simpa using hd'⟩

theorem append_ok {n : Nat} {a : Addr} {x : Value} {v : AV} {r : AV} {σ' : Sto} (W : Wd X ρ σ s.heap) (rx : Rep X ρ s.heap x v) (hn : ρ[n]? = some a) (e : append (.ref n) v σ = .ok r σ') : wpAny (model prog w) A (call (.builtin "list.append") [.ref a, x]) (Gv X ρ s r σ') E s := by
  unfold append at e
  simp only at e
  set_option tactic.hygienic true in split at e
  · rename_i ys hy
    cases hb : Nat.ble ys.length bigN with
    | false => rw [hb] at e; cases e
    | true =>
      rw [hb] at e; cases e
      have hz := Nat.le_of_ble_eq_true hb
      obtain ⟨a', ha', vs, il, _, ra⟩ := W.objs n _ hy
      rw [hn] at ha'; cases ha'
      have hv := ra.length
      refine list_append il (by omega) fun h' hl' hs => ⟨ρ, After.setList W hn hs hl' (by simp; omega) (ra.append (.cons rx .nil)) s.toks, .none⟩
  · cases e

theorem cond_some {α : Type} {b : Bool} {x y : Option α} {v : α} (h : (bif b then x else y) = some v) : x = some v ∨ y = some v := by
  cases b
  · exact .inr h
  · exact .inl h
theorem bval_some {f : Str} {v : Value} (h : bval f = some v) : (∃ i, v = .builtin i) ∨ ∃ t, v = .type t := by
  unfold bval at h
  rcases cond_some h with h | h
  · cases h; exact .inl ⟨_, rfl⟩
  rcases cond_some h with h | h
  · cases h; exact .inl ⟨_, rfl⟩
  rcases cond_some h with h | h
  · cases h; exact .inr ⟨_, rfl⟩
  rcases cond_some h with h | h
  · cases h; exact .inr ⟨_, rfl⟩
  rcases cond_some h with h | h
  · cases h; exact .inr ⟨_, rfl⟩
  rcases cond_some h with h | h
  · cases h; exact .inl ⟨_, rfl⟩
  rcases cond_some h with h | h
  · cases h; exact .inl ⟨_, rfl⟩
  rcases cond_some h with h | h
  · cases h; exact .inr ⟨_, rfl⟩
  cases h
theorem bval_builtin {f : Str} {v : Value} (h : bval f = some v) (lv : Nat) (vs : List AV) (σ : Sto) : ∃ r, builtin P lv f vs σ = some r := by
  unfold bval at h
  unfold builtin
  generalize (f == "len") = b1 at h ⊢
  generalize (f == "isinstance") = b2 at h ⊢
  generalize (f == "int") = b3 at h ⊢
  generalize (f == "tuple") = b4 at h ⊢
  generalize (f == "list") = b5 at h ⊢
  generalize (f == "max") = b6 at h ⊢
  generalize (f == "sorted") = b7 at h ⊢
  generalize (f == "dict") = b8 at h ⊢
  cases b1 with
  | true => exact ⟨_, rfl⟩
  | false => cases b2 with
    | true => exact ⟨_, rfl⟩
    | false => cases b3 with
      | true => exact ⟨_, rfl⟩
      | false => cases b4 with
        | true => exact ⟨_, rfl⟩
        | false => cases b5 with
          | true => exact ⟨_, rfl⟩
          | false => cases b6 with
            | true => exact ⟨_, rfl⟩
            | false => cases b7 with
              | true => exact ⟨_, rfl⟩
              | false => cases b8 with
                | true => exact ⟨_, rfl⟩
                | false => exact nomatch (show (none : Option Value) = some v from h)

theorem Hand.zero {h : Heap} (x : Hand lv A h) : lv = 0 → A.handled = none := fun e => by subst e; exact x

theorem call_ok {g : Str} {p pos : Pos} {args : List Expr} {r : Out (List AV)} (G : Gd prog w X P mg mb) (C : CallS prog w X mg n cf) (S : ScOk sc env) (c : Ct X n lv A env es ρ l σ s) (hg : isGlob sc g = true) (hk : P.known g = true) (hs : noStar args = true)
    (ha : wpAny (model prog w) A (spliced (backTo pos (starEach args env))) (OkL X ρ s r) (ExV X lv ρ s r) s) (hb : (r.bind fun vs σ => callA P cf lv g vs σ) ≠ .bad) :
    wpAny (model prog w) A (eval (.Call (.Name g p) args [] pos) env) (OkV X ρ s (r.bind fun vs σ => callA P cf lv g vs σ)) (ExV X lv ρ s (r.bind fun vs σ => callA P cf lv g vs σ)) s := by
  refine wpAny_Call_Name_kw ?_
  rcases G.known g hk with ⟨v, hv⟩ | ⟨hnb, a, o, fd, h1, h2, h3⟩
  · refine glob_name G S c hg (.inr (G.blt g v hv)) ?_
    have args' : wpAny (model prog w) A (evalArgs v true (backTo pos (starEach args env)) []) (fun a s₁ => wpAny (model prog w) A (call v ([] ++ a.pos) a.kw) (OkV X ρ s (r.bind fun vs σ => callA P cf lv g vs σ)) (ExV X lv ρ s (r.bind fun vs σ => callA P cf lv g vs σ)) s₁) (ExV X lv ρ s (r.bind fun vs σ => callA P cf lv g vs σ)) s := by
      refine args_ok hs (lift c.wd (.refl c.wd) ha (fun c σ h => bind_exc' h) fun xs σ₁ ρ₁ vs s₁ e₁ a₁ _ r₁ => ?_)
      have c₁ := c.after a₁
      obtain ⟨r', hr'⟩ := bval_builtin (P := P) hv lv xs σ₁
      have hc : callA P cf lv g xs σ₁ = r' := by unfold callA; rw [hr']
      have hR := (bind_ok' (f := fun vs σ => callA P cf lv g vs σ) e₁).trans hc
      rw [hR] at hb
      refine fin_ok a₁ hR hb (builtin_nx hr') fun a σ' h => ?_
      subst h
      obtain ⟨v', hv', q⟩ := builtin_ok G c₁.wd c₁.hand.zero r₁ hr'
      rw [hv] at hv'; cases hv'
      exact q
    rcases bval_some hv with ⟨i, rfl⟩ | ⟨t, rfl⟩
    · exact callWith_builtin (spl_any hs) args'
    · exact PySem.callWith_type (spl_any hs) args'
  · refine glob_name G S c hg (.inl h1) ?_
    refine callWith_function (a := a) (o := o) (fd := fd) (args_ok hs (lift c.wd (.refl c.wd) ha (fun c σ h => bind_exc' h) fun xs σ₁ ρ₁ vs s₁ e₁ a₁ _ r₁ => ?_))
    have c₁ := c.after a₁
    refine ⟨⟨c₁.wd.stays _ _ h2, h3⟩, ?_⟩
    have hc : callA P cf lv g xs σ₁ = cf lv g xs σ₁ := by unfold callA; rw [hnb]
    have hR := (bind_ok' (f := fun vs σ => callA P cf lv g vs σ) e₁).trans hc
    rw [hR] at hb
    show wpAny _ A (call (.ref a) vs) _ _ s₁
    refine lift (R := r.bind fun vs σ => callA P cf lv g vs σ) c.wd a₁ (C A es ρ₁ σ₁ s₁ lv g a o fd vs xs c₁.cl h1 h2 h3 r₁ hb) (fun c σ' h => hR.trans h) fun x σ₂ ρ₂ v s₂ e₂ a₂ _ r₂ => ⟨x, σ₂, ρ₂, hR.trans e₂, a₂, r₂⟩

theorem meth_ok {o : Str} {p apos pos : Pos} {m : Str} {args : List Expr} {r : Out (List AV)} {x : AV} (G : Gd prog w X P mg mb) (S : ScOk sc env) (c : Ct X n lv A env es ρ l σ s) (hm : m = "append") (hp : (apos.endLine == pos.line) = true) (hf : args.length < 30) (hs : noStar args = true)
    (hx : evName P sc o l σ = .ok x σ) (hlb : listB σ x = true)
    (ha : wpAny (model prog w) A (spliced (backTo pos (starEach args env))) (OkL X ρ s r) (ExV X lv ρ s r) s) (hb : (r.bind fun vs σ => methA m x vs σ) ≠ .bad) :
    wpAny (model prog w) A (eval (.Call (.Attribute (.Name o p) m apos) args [] pos) env) (OkV X ρ s (r.bind fun vs σ => methA m x vs σ)) (ExV X lv ρ s (r.bind fun vs σ => methA m x vs σ)) s := by
  subst hm
  refine wpAny_Call_method (T := "list") (id := "list.append") rfl ?_ hp PySem.F.plainAttrs_list slot_list_append PySem.type_list_append ?_
  · rw [spl_all hs]
    simp only [List.length_nil, List.isEmpty_nil, if_true, Nat.add_zero, Bool.true_and, Bool.and_eq_true, decide_eq_true_eq]
    exact ⟨rfl, hf⟩
  · refine name_at G S c hx fun ov rx => ?_
    obtain ⟨k, ys, hk, hy⟩ : ∃ k ys, x = .ref k ∧ σ[k]? = some (.list ys) := by
      unfold listB at hlb
      set_option tactic.hygienic true in split at hlb
      · rename_i k
        set_option tactic.hygienic true in split at hlb
        · rename_i ys hy; exact ⟨k, ys, rfl, hy⟩
        · cases hlb
      · cases hlb
    subst hk
    obtain ⟨a, rfl, hr⟩ := rx.ref_inv
    obtain ⟨a', ha', vs0, il, _, _⟩ := c.wd.objs k _ hy
    rw [hr] at ha'; cases ha'
    refine ⟨il.is.typeIs, fun b e => ?_, ?_⟩
    · cases e
      obtain ⟨ob, _, e1, _, e2, _⟩ := il
      exact ⟨ob, e1, e2⟩
    · refine callWith_builtin (spl_any hs) (args_ok hs (lift c.wd (.refl c.wd) ha (fun c σ h => bind_exc' h) fun xs σ₁ ρ₁ vs s₁ e₁ a₁ _ r₁ => ?_))
      have c₁ := c.after a₁
      have hR := bind_ok' (f := fun vs σ => methA "append" (.ref k) vs σ) e₁
      rw [hR] at hb
      refine fin_ok (σ := σ₁) a₁ hR hb methA_nx fun y σ' h => ?_
      unfold methA at h
      set_option tactic.hygienic true in split at h
      · rename_i v
        obtain ⟨_, rfl, q1⟩ := r₁.one_inv
        exact append_ok c₁.wd q1 (a₁.ext _ _ hr) (by simpa using h)
      · cases h
end
end Mine

/- E3 -/
set_option tactic.hygienic false
/-! Mine: a comprehension's table and closure. -/
namespace Mine
open PySem PySem.Spec PySem.Calls PyProof.Rows

theorem lookup_relabel {env : Env} (x : Str) : ∀ (names : List (Str × NameKind)),
    (names.map fun (n, k) => if (k == NameKind.free && env.scope.kind == .function && env.kindOf n == some .cell) then (n, NameKind.cell) else (n, k)).lookup x =
      (names.lookup x).map fun k => if (k == NameKind.free && env.scope.kind == .function && env.kindOf x == some .cell) then NameKind.cell else k
  | [] => rfl
  | (n, k) :: r => by
    rw [List.map_cons, List.lookup_cons]
    have ih := lookup_relabel (env := env) x r
    cases hx : x == n with
    | true =>
      have e := beq_iff_eq.mp hx
      subst e
      by_cases hc : (k == NameKind.free && env.scope.kind == .function && env.kindOf x == some .cell) = true
      · simp only [hc, if_true, List.lookup_cons, beq_self_eq_true, Option.map_some]
      · simp only [hc, Bool.false_eq_true, if_false, List.lookup_cons, beq_self_eq_true, Option.map_some]
    | false =>
      by_cases hc : (k == NameKind.free && env.scope.kind == .function && env.kindOf n == some .cell) = true
      · simp only [hc, if_true, List.lookup_cons, hx]; exact ih
      · simp only [hc, Bool.false_eq_true, if_false, List.lookup_cons, hx]; exact ih

theorem mem_of_lookup2 {α : Type} {x : Str} {k : α} : ∀ {l : List (Str × α)}, l.lookup x = some k → (x, k) ∈ l
  | [], e => by cases e
  | (y, d) :: r, e => by
    rw [List.lookup_cons] at e
    split at e
    · rename_i q; cases e; rw [beq_iff_eq.mp q]; exact .head _
    · exact .tail _ (mem_of_lookup2 e)

theorem closure_ok {env : Env} : ∀ (names : List (Str × NameKind)) (acc : List (Str × Addr)), (∀ p ∈ names, p.2 = .free → ∃ c, env.cells.lookup p.1 = some c) → (∀ q ∈ acc, env.cells.lookup q.1 = some q.2) →
    ∃ cl : List (Str × Addr), (forIn names acc fun p cs => match p with | (name, kind) => if (kind == NameKind.free) = true then (do let c ← cellOf env name; pure (ForInStep.yield ((name, c) :: cs))) else pure (ForInStep.yield cs)) = (pure cl : Sem (List (Str × Addr))) ∧
      (∀ q ∈ cl, env.cells.lookup q.1 = some q.2) ∧ (∀ x, (x, NameKind.free) ∈ names ∨ x ∈ acc.map (·.1) → x ∈ cl.map (·.1))
  | [], acc, _, ha => ⟨acc, rfl, ha, fun x h => h.elim (fun q => (nomatch q)) id⟩
  | (n, k) :: r, acc, hn, ha => by
    rw [List.forIn_cons]
    have hr : ∀ p ∈ r, p.2 = .free → ∃ c, env.cells.lookup p.1 = some c := fun p hp => hn p (.tail _ hp)
    by_cases hk : k = .free
    · subst hk
      obtain ⟨c, hc⟩ := hn (n, .free) (.head _) rfl
      have e : cellOf env n = pure c := by unfold cellOf; rw [hc]
      simp only [beq_self_eq_true, if_true, e, pure_bind]
      obtain ⟨cl, e1, e2, e3⟩ := closure_ok r ((n, c) :: acc) hr (fun q hq => by
        rcases List.mem_cons.mp hq with rfl | hq
        · exact hc
        · exact ha q hq)
      refine ⟨cl, e1, e2, fun x h => e3 x ?_⟩
      rcases h with h | h
      · rcases List.mem_cons.mp h with h | h
        · cases h; exact .inr (.head _)
        · exact .inl h
      · exact .inr (.tail _ h)
    · have hb : (k == NameKind.free) = false := by simpa using hk
      simp only [hb, Bool.false_eq_true, if_false, pure_bind]
      obtain ⟨cl, e1, e2, e3⟩ := closure_ok r acc hr ha
      refine ⟨cl, e1, e2, fun x h => e3 x ?_⟩
      rcases h with h | h
      · rcases List.mem_cons.mp h with h | h
        · cases h; exact absurd rfl hk
        · exact .inl h
      · exact .inr h

theorem closureFor_ok {env : Env} {scope : Scope} (h : ∀ p ∈ scope.names, p.2 = .free → ∃ c, env.cells.lookup p.1 = some c) :
    ∃ cl, closureFor scope env = pure cl ∧ (∀ q ∈ cl, env.cells.lookup q.1 = some q.2) ∧ ∀ x, (x, NameKind.free) ∈ scope.names → cl.lookup x = env.cells.lookup x := by
  obtain ⟨cl, e1, e2, e3⟩ := closure_ok scope.names [] h (fun _ q => (nomatch q))
  refine ⟨cl, ?_, e2, fun x hx => ?_⟩
  · unfold closureFor
    show ((forIn scope.names ([] : List (Str × Addr)) fun p cs => match p with | (name, kind) => if (kind == NameKind.free) = true then (do let c ← cellOf env name; pure (ForInStep.yield ((name, c) :: cs))) else pure (ForInStep.yield cs)) >>= fun r => pure r : Sem (List (Str × Addr))) = pure cl
    rw [e1]; rfl
  · have hm := e3 x (.inl hx)
    cases q : cl.lookup x with
    | none =>
      obtain ⟨⟨y, c⟩, h1, h2⟩ := List.mem_map.mp hm
      have h2 : y = x := h2
      subst h2
      exact absurd ((List.lookup_eq_none_iff).mp q _ h1) (by simp)
    | some c => exact (e2 (x, c) (mem_of_lookup2 q)).symm

structure Fine (sc csc : Scope) (k : Str) : Prop where
  kind : csc.kind = .function
  k0 : k ≠ (".0" : Str)
  kl : csc.names.lookup k = some .local
  loc : ∀ p ∈ csc.names, p.2 = .local → (p.1 = k ∨ p.1 = (".0" : Str)) ∧ csc.names.lookup p.1 = some .local
  free : ∀ p ∈ csc.names, p.2 = .free → isCell sc p.1 = true
  cell : ∀ p ∈ csc.names, p.2 ≠ .cell
  nd : ∀ p ∈ csc.names, (p.1 == ("__debug__" : Str)) = false ∧ (p.1 == ("__classdict__" : Str)) = false

theorem tableFine_nd {sc : Scope} (h : tableFine sc = true) : sc.kind = .function ∧ (∀ p ∈ sc.names, (p.1 == ("__debug__" : Str)) = false ∧ (p.1 == ("__classdict__" : Str)) = false) ∧ sc.isGenerator = false ∧ sc.isCoroutine = false := by
  unfold tableFine at h
  simp only [Bool.and_eq_true, List.all_eq_true, Bool.not_eq_true', Bool.or_eq_false_iff] at h
  obtain ⟨⟨⟨h1, h2⟩, h3⟩, h4⟩ := h
  exact ⟨by simpa using h1, fun p hp => ⟨(h4 p hp).1.1, (h4 p hp).1.2⟩, h2, h3⟩

theorem Fine.of {sc csc : Scope} {k : Str} (h : scopeFine sc csc k = true) : Fine sc csc k := by
  unfold scopeFine at h
  simp only [Bool.and_eq_true, List.all_eq_true, Bool.not_eq_true'] at h
  obtain ⟨⟨⟨h1, h2⟩, h3⟩, h4⟩ := h
  obtain ⟨t1, t2, _⟩ := tableFine_nd h1
  refine ⟨t1, fun q => by rw [q] at h2; simp at h2, ?_, fun p hp e => ?_, fun p hp e => ?_, fun p hp e => ?_, t2⟩
  · split at h3
    · assumption
    · cases h3
  · have := h4 p hp
    rw [e] at this
    simp only [Bool.and_eq_true, Bool.or_eq_true, beq_iff_eq] at this
    refine ⟨this.1, ?_⟩
    have h5 := this.2
    split at h5
    · assumption
    · cases h5
  · have := h4 p hp
    rw [e] at this
    simp only [Bool.and_eq_true] at this
    exact this.1
  · have := h4 p hp
    rw [e] at this
    cases this

theorem isLoc_kind {sc : Scope} {x : Str} (h : isLoc sc x = true) : x ≠ (".0" : Str) ∧ (sc.names.lookup x = some .local ∨ sc.names.lookup x = some .cell ∨ sc.names.lookup x = some .free) := by
  unfold isLoc at h
  simp only [Bool.and_eq_true, Bool.not_eq_true'] at h
  refine ⟨fun q => by rw [q] at h; simp at h, ?_⟩
  have h2 := h.2
  split at h2
  · exact .inl ‹_›
  · exact .inr (.inl ‹_›)
  · exact .inr (.inr ‹_›)
  · cases h2
theorem isCell_kind {sc : Scope} {x : Str} (h : isCell sc x = true) : sc.names.lookup x = some .cell ∨ sc.names.lookup x = some .free := by
  unfold isCell at h
  split at h
  · exact .inl ‹_›
  · exact .inr ‹_›
  · cases h
theorem isGlob_kind {sc : Scope} {x : Str} (h : isGlob sc x = true) : sc.names.lookup x = some .globalImplicit := by
  unfold isGlob at h
  split at h
  · assumption
  · cases h

theorem nd_of {sc : Scope} (hn : ∀ p ∈ sc.names, (p.1 == ("__debug__" : Str)) = false ∧ (p.1 == ("__classdict__" : Str)) = false) (x : Str) (h : isLoc sc x = true ∨ isGlob sc x = true) : (x == ("__debug__" : Str)) = false ∧ (x == ("__classdict__" : Str)) = false := by
  rcases h with h | h
  · rcases (isLoc_kind h).2 with q | q | q <;> exact hn _ (mem_of_lookup2 q)
  · exact hn _ (mem_of_lookup2 (isGlob_kind h))

/-- the comprehension's block -/
theorem ScOk.comp {sc csc : Scope} {env : Env} {k : Str} {cl : List (Str × Addr)} {C : Addr} (S : ScOk sc env) (F : Fine sc csc k) (hc : ∀ x, (x, NameKind.free) ∈ csc.names → cl.lookup x = env.cells.lookup x) : ScOk csc (compEnvC csc cl C env) := by
  have kd : ∀ x, (compEnvC csc cl C env).kindOf x = (csc.names.lookup x).map fun k => if (k == NameKind.free && env.scope.kind == .function && env.kindOf x == some .cell) then NameKind.cell else k := fun x => lookup_relabel x csc.names
  have fr : ∀ x, csc.names.lookup x = some .free → (compEnvC csc cl C env).kindOf x = some .cell ∨ (compEnvC csc cl C env).kindOf x = some .free := fun x q => by
    rw [kd, q]
    simp only [Option.map_some]
    split
    · exact .inl rfl
    · exact .inr rfl
  refine ⟨fun x h => ?_, fun x h => ?_, fun x h => ?_, nd_of F.nd⟩
  · rcases (isLoc_kind h).2 with q | q | q
    · refine .inl ?_; rw [kd, q]; rfl
    · exact absurd rfl (F.cell _ (mem_of_lookup2 q))
    · exact .inr (fr x q)
  · rw [kd, isGlob_kind h]; rfl
  · rcases isCell_kind h with q | q
    · exact absurd rfl (F.cell _ (mem_of_lookup2 q))
    · refine ⟨fr x q, ?_⟩
      obtain ⟨_, c, e⟩ := S.has x (F.free _ (mem_of_lookup2 q) rfl)
      exact ⟨c, (hc x (mem_of_lookup2 q)).trans e⟩

/-- the names of the block, the item at k -/
theorem LocR.comp {X : Cx} {ρ : List Addr} {h : Heap} {l : Loc} {sc csc : Scope} {env : Env} {k : Str} {cl : List (Str × Addr)} {C : Addr} {m : Str → Option Value} {v : Value} {a : AV} (S : ScOk sc env) (F : Fine sc csc k) (r : LocR X ρ env h l)
    (h1 : ∀ q ∈ cl, env.cells.lookup q.1 = some q.2) (h2 : ∀ x, (x, NameKind.free) ∈ csc.names → cl.lookup x = env.cells.lookup x) (hn : h.Ns C m) (hv : m k = some v) (rv : Rep X ρ h v a) : LocR X ρ (compEnvC csc cl C env) h ((k, a) :: l) := by
  have kd : ∀ x, (compEnvC csc cl C env).kindOf x = (csc.names.lookup x).map fun k => if (k == NameKind.free && env.scope.kind == .function && env.kindOf x == some .cell) then NameKind.cell else k := fun x => lookup_relabel x csc.names
  refine ⟨⟨m, hn, fun x b e h0 hk => ?_⟩, fun c hc => ?_, fun x b e hk => ?_⟩
  · rw [kd] at hk
    cases q : csc.names.lookup x with
    | none => rw [q] at hk; cases hk
    | some kk =>
      rw [q] at hk
      simp only [Option.map_some, Option.some.injEq] at hk
      split at hk
      · cases hk
      · subst hk
        rcases (F.loc _ (mem_of_lookup2 q) rfl).1 with z | z
        · have z : x = k := z
          subst z
          simp only [getL, beq_self_eq_true, cond_true] at e
          cases e
          exact ⟨v, hv, rv⟩
        · exact absurd z h0
  · obtain ⟨⟨y, d⟩, hq, rfl⟩ := List.mem_map.mp hc
    exact r.cell _ (List.mem_map.mpr ⟨_, mem_of_lookup2 (h1 _ hq), rfl⟩)
  · have hf : csc.names.lookup x = some .free := by
      cases q : csc.names.lookup x with
      | none => rw [kd, q] at hk; rcases hk with hk | hk <;> cases hk
      | some kk =>
        by_cases hkk : kk = .free
        · rw [hkk]
        · have hb : (kk == NameKind.free) = false := by simpa using hkk
          rw [kd, q] at hk
          simp only [Option.map_some, hb, Bool.false_and, Bool.false_eq_true, if_false, Option.some.injEq] at hk
          rcases hk with rfl | rfl
          · exact absurd rfl (F.cell _ (mem_of_lookup2 q))
          · exact absurd rfl hkk
    have hxk : (k == x) = false := by
      cases z : k == x with
      | false => rfl
      | true => have := beq_iff_eq.mp z; subst this; rw [F.kl] at hf; cases hf
    simp only [getL, hxk, cond_false] at e
    have S' := (S.has x (F.free _ (mem_of_lookup2 hf) rfl)).1
    obtain ⟨c, v', e1, e2, e3⟩ := r.val x b e S'
    exact ⟨c, v', (h2 x (mem_of_lookup2 hf)).trans e1, e2, e3⟩
end Mine

/- E4 -/
set_option tactic.hygienic false
/-! Mine: a comprehension's turns. -/
namespace Mine
open PySem PySem.Spec PySem.Calls PyProof.Rows

/-- what is left of a comprehension ends so -/
inductive CpRun (F : AV → Sto → Out (Option AV)) (src : Src) (xs : List AV) (σ₂ : Sto) : Nat → Nat → List AV → Sto → Prop
  | done {m i : Nat} : srcIs σ₂ src → srcAt σ₂ i src = none → CpRun F src xs σ₂ m i xs σ₂
  | skip {m i : Nat} {acc : List AV} {σ σ' : Sto} {v : AV} : srcIs σ src → srcAt σ i src = some v → F v σ = .ok none σ' → CpRun F src xs σ₂ m (i + 1) acc σ' → CpRun F src xs σ₂ (m + 1) i acc σ
  | take {m i : Nat} {acc : List AV} {σ σ' : Sto} {v y : AV} : srcIs σ src → srcAt σ i src = some v → F v σ = .ok (some y) σ' → acc.length ≤ bigN → CpRun F src xs σ₂ m (i + 1) (acc ++ [y]) σ' → CpRun F src xs σ₂ (m + 1) i acc σ

theorem cpItems_run {F : AV → Sto → Out (Option AV)} {ys xs : List AV} {σ₂ : Sto} : ∀ (m i : Nat) (acc : List AV) (σ : Sto), ys.length = i + m → cpItems F (ys.drop i) acc σ = .ok xs σ₂ → CpRun F (.items ys) xs σ₂ m i acc σ
  | 0, i, acc, σ, hl, e => by
    rw [List.drop_eq_nil_of_le (by omega)] at e
    simp only [cpItems] at e; cases e
    exact .done trivial (List.getElem?_eq_none (by omega))
  | m + 1, i, acc, σ, hl, e => by
    have hi : i < ys.length := by omega
    rw [List.drop_eq_getElem_cons hi] at e
    simp only [cpItems] at e
    have ha : srcAt σ i (.items ys) = some ys[i] := List.getElem?_eq_getElem hi
    cases hF : F ys[i] σ with
    | exc c σ' => rw [hF] at e; cases e
    | bad => rw [hF] at e; cases e
    | ok x σ' =>
      rw [hF] at e
      cases x with
      | none => exact .skip trivial ha hF (cpItems_run m (i + 1) acc σ' (by omega) e)
      | some y =>
        simp only at e
        cases hb : Nat.ble acc.length bigN with
        | false => rw [hb] at e; cases e
        | true =>
          rw [hb] at e
          exact .take trivial ha hF (Nat.le_of_ble_eq_true hb) (cpItems_run m (i + 1) _ σ' (by omega) e)
theorem cpLst_run {F : AV → Sto → Out (Option AV)} {n : Nat} {xs : List AV} {σ₂ : Sto} : ∀ (m i : Nat) (acc : List AV) (σ : Sto), cpLst F n m i acc σ = .ok xs σ₂ → CpRun F (.lst n) xs σ₂ m i acc σ
  | 0, i, acc, σ, e => by simp only [cpLst] at e; cases e
  | m + 1, i, acc, σ, e => by
    simp only [cpLst] at e
    cases hn : σ[n]? with
    | none => rw [hn] at e; cases e
    | some o =>
      cases o with
      | dict es => rw [hn] at e; cases e
      | list ys =>
        rw [hn] at e
        have hl : listOf? σ (.ref n) = some ys := by simp only [listOf?]; rw [hn]
        have hs : srcIs σ (.lst n) := ⟨ys, hl⟩
        have ha : srcAt σ i (.lst n) = ys[i]? := by simp only [srcAt]; rw [hl]; rfl
        simp only at e
        cases hi : ys[i]? with
        | none =>
          rw [hi] at e; cases e
          exact .done hs (ha.trans hi)
        | some v =>
          rw [hi] at e
          simp only at e
          cases hF : F v σ with
          | exc c σ' => rw [hF] at e; cases e
          | bad => rw [hF] at e; cases e
          | ok x σ' =>
            rw [hF] at e
            cases x with
            | none => exact .skip hs (ha.trans hi) hF (cpLst_run m (i + 1) acc σ' e)
            | some y =>
              simp only at e
              cases hb : Nat.ble acc.length bigN with
              | false => rw [hb] at e; cases e
              | true =>
                rw [hb] at e
                exact .take hs (ha.trans hi) hF (Nat.le_of_ble_eq_true hb) (cpLst_run m (i + 1) _ σ' e)
theorem cpSrc_run {lv : Nat} {F : AV → Sto → Out (Option AV)} {src : Src} {xs : List AV} {σ σ₂ : Sto} (e : cpSrc lv F src σ = .ok xs σ₂) : lv ≤ 1 ∧ ∃ m, CpRun F src xs σ₂ m 0 [] σ := by
  unfold cpSrc at e
  cases hb : Nat.ble lv 1 with
  | false => rw [hb] at e; cases e
  | true =>
    rw [hb] at e
    simp only [cond_true] at e
    refine ⟨Nat.le_of_ble_eq_true hb, ?_⟩
    split at e
    · exact ⟨_, cpItems_run _ 0 [] σ (Nat.zero_add _).symm (by simpa using e)⟩
    · split at e
      · exact ⟨_, cpLst_run _ 0 [] σ e⟩
      · cases e
theorem cpItems_nx {F : AV → Sto → Out (Option AV)} : ∀ (ys acc : List AV) (σ : Sto), NoX (cpItems F ys acc σ)
  | [], acc, σ => .ok
  | v :: r, acc, σ => by
    simp only [cpItems]
    split
    · split
      · exact NoX.cond (cpItems_nx r _ _) .bad
      · exact cpItems_nx r _ _
    · exact .bad
theorem cpLst_nx {F : AV → Sto → Out (Option AV)} {n : Nat} : ∀ (m i : Nat) (acc : List AV) (σ : Sto), NoX (cpLst F n m i acc σ)
  | 0, i, acc, σ => .bad
  | m + 1, i, acc, σ => by
    simp only [cpLst]
    split
    · split
      · exact .ok
      · split
        · split
          · exact NoX.cond (cpLst_nx m _ _ _) .bad
          · exact cpLst_nx m _ _ _
        · exact .bad
    · exact .bad
theorem cpSrc_nx {lv : Nat} {F : AV → Sto → Out (Option AV)} {src : Src} {σ : Sto} : NoX (cpSrc lv F src σ) := by
  unfold cpSrc
  refine NoX.cond ?_ .bad
  split
  · exact cpItems_nx _ _ _
  · split
    · exact cpLst_nx _ _ _ _
    · exact .bad

/-- one object newer than the start is turned -/
theorem After.off1 {X : Cx} {ρ ρ' : List Addr} {σ' : Sto} {s s' : Shared} {h : Heap} {a : Addr} (x : After X ρ s ρ' σ' s') (hb : X.base.StaysIn s.heap) (hk : Heap.ExtBut a s'.heap h) (hm : ∀ o, s'.heap.get? a = some o → MutO o) (hn : s.heap.get? a = none) (hd : a ∉ ρ') (t : Nat) :
    After X ρ s ρ' σ' { s' with heap := h, toks := t } := by
  refine x.off (N := [a]) (fun b o e n => ⟨o.slots, hk b o (fun q => n (by simp [q])) e, fun _ => rfl⟩) (SOk.sane (fun b hb' o ho => hm o (by rw [← List.mem_singleton.mp hb']; exact ho)) _) (fun b hb' => by rw [List.mem_singleton.mp hb']; exact hn)
    (fun b hb' => by rw [List.mem_singleton.mp hb']; exact hd) (fun b o e => hk b o (fun q => ?_) (x.wd.stays b o e)) t
  have := hb b o e
  rw [q, hn] at this; cases this
theorem After.notin {X : Cx} {ρ ρ' : List Addr} {σ' : Sto} {s s' : Shared} (x : After X ρ s ρ' σ' s') {a : Addr} {o : Obj} (h : a ∉ ρ) (e : s.heap.get? a = some o) : a ∉ ρ' := fun q =>
  (x.new a q).elim h fun z => by rw [z] at e; cases e
theorem IsL.keep {S : List Addr} {h h' : Heap} {a : Addr} {vs : List Value} (hk : Keep S h h') (n : a ∉ S) (x : IsL h a vs) : IsL h' a vs := by
  obtain ⟨o, k, e, c, d, dt⟩ := x
  exact ⟨o, k, hk.exact e n (fun es j q => by rw [dt] at q; cases q), c, d, dt⟩
theorem IsL.ext {a b : Addr} {h h' : Heap} {vs : List Value} (hk : Heap.ExtBut b h h') (n : a ≠ b) (x : IsL h a vs) : IsL h' a vs := by
  obtain ⟨o, k, e, c, d, dt⟩ := x
  exact ⟨o, k, hk a o n e, c, d, dt⟩
theorem IsL.mut {h : Heap} {a : Addr} {vs : List Value} (x : IsL h a vs) {o : Obj} (e : h.get? a = some o) : MutO o := by
  obtain ⟨o', k, e', c, _, _⟩ := x
  rw [e] at e'; cases e'; exact .list c
theorem Ns.mut {h : Heap} {a : Addr} {m : Str → Option Value} (x : h.Ns a m) {o : Obj} (e : h.get? a = some o) : MutO o := by
  obtain ⟨o', es, ep, e', d, _⟩ := x
  rw [e] at e'; cases e'; exact .inr (.inl ⟨es, ep, d⟩)
theorem It.mut {X : Cx} {ρ : List Addr} {h : Heap} {I : Addr} {i : Nat} {src : Src} (x : It X ρ h I i src) {o : Obj} (e : h.get? I = some o) : MutO o := by
  obtain ⟨o', fs, e', d, m⟩ := x.rec'
  rw [e] at e'; cases e'; exact m

/-- the state between two turns -/
structure Lp (X : Cx) (ρ : List Addr) (s : Shared) (I D C : Addr) (src : Src) (i : Nat) (acc : List AV) (ρ' : List Addr) (σ' : Sto) (s' : Shared) : Prop where
  af : After X ρ s ρ' σ' s'
  it : It X ρ' s'.heap I i src
  is : ∃ vs, IsL s'.heap D vs ∧ RepAll X ρ' s'.heap vs acc ∧ vs.length ≤ bigN + 1
  ns : ∃ m, s'.heap.Ns C m
  offI : I ∉ ρ'
  offD : D ∉ ρ'
  offC : C ∉ ρ'
theorem Lp.after {X : Cx} {ρ : List Addr} {s : Shared} {I D C : Addr} {src : Src} {i : Nat} {acc : List AV} {ρ' ρ'' : List Addr} {σ' σ'' : Sto} {s' s'' : Shared} (L : Lp X ρ s I D C src i acc ρ' σ' s') (x : After X ρ' s' ρ'' σ'' s'') : Lp X ρ s I D C src i acc ρ'' σ'' s'' := by
  obtain ⟨oI, fs, eI, dI, _⟩ := L.it.rec'
  obtain ⟨vs, hl, ra, hz⟩ := L.is
  obtain ⟨oD, _, eD, _⟩ := id hl
  obtain ⟨m, hn⟩ := L.ns
  obtain ⟨oC, es, ep, eC, dC, _⟩ := id hn
  refine ⟨L.af.trans x, L.it.at x.ext fun o e => x.keep.exact e L.offI fun es n q => ?_, ⟨vs, hl.keep x.keep L.offD, x.repAll L.af.wd ra, hz⟩, ⟨m, Ns.keep x.keep L.offC hn⟩, x.notin L.offI eI, x.notin L.offD eD, x.notin L.offC eC⟩
  rw [eI] at e; cases e; rw [dI] at q; cases q
end Mine

/- E5 -/
set_option tactic.hygienic false
/-! Mine: a comprehension. -/
namespace Mine
open PySem PySem.Spec PySem.Calls PyProof.Rows

noncomputable def cpF (P : Prog) (cf : Calls) (lv : Nat) (csc : Scope) (ifs : List Expr) (elt : Expr) (k : Str) (l : Loc) : AV → Sto → Out (Option AV) := fun v σ =>
  (evIfs P cf lv csc ifs ((k, v) :: l) σ).bind fun b σ => bif b then (ev P cf lv csc elt ((k, v) :: l) σ).bind fun y σ => .ok (some y) σ else .ok Option.none σ

theorem cpF_inv {P : Prog} {cf : Calls} {lv : Nat} {csc : Scope} {ifs : List Expr} {elt : Expr} {k : Str} {l : Loc} {v : AV} {σ σ' : Sto} {x : Option AV} (h : cpF P cf lv csc ifs elt k l v σ = .ok x σ') :
    ∃ b σ₁, evIfs P cf lv csc ifs ((k, v) :: l) σ = .ok b σ₁ ∧ ((b = false ∧ x = none ∧ σ' = σ₁) ∨ (b = true ∧ ∃ y, ev P cf lv csc elt ((k, v) :: l) σ₁ = .ok y σ' ∧ x = some y)) := by
  unfold cpF at h
  cases e : evIfs P cf lv csc ifs ((k, v) :: l) σ with
  | bad => rw [e] at h; cases h
  | exc c σ₁ => rw [e] at h; cases h
  | ok b σ₁ =>
    rw [bind_ok' e] at h
    refine ⟨b, σ₁, rfl, ?_⟩
    cases b with
    | false => simp only [cond_false] at h; cases h; exact .inl ⟨rfl, rfl, rfl⟩
    | true =>
      simp only [cond_true] at h
      cases e2 : ev P cf lv csc elt ((k, v) :: l) σ₁ with
      | bad => rw [e2] at h; cases h
      | exc c σ₁ => rw [e2] at h; cases h
      | ok y σ₃ => rw [bind_ok' e2] at h; cases h; exact .inr ⟨rfl, y, rfl, rfl⟩

theorem CpRun.is {F : AV → Sto → Out (Option AV)} {src : Src} {xs : List AV} {σ₂ : Sto} {m i : Nat} {acc : List AV} {σ : Sto} (r : CpRun F src xs σ₂ m i acc σ) : srcIs σ src := by
  cases r <;> assumption

theorem rep_ext {X : Cx} {ρ : List Addr} {h h' : Heap} {a : Addr} {v : Value} {x : AV} (hk : Heap.ExtBut a h h') (hm : ∀ o, h.get? a = some o → MutO o) (r : Rep X ρ h v x) : Rep X ρ h' v x :=
  r.mono (S := [a]) (fun b o e n => ⟨o.slots, hk b o (fun q => n (by simp [q])) e, fun _ => rfl⟩) (fun b hb o ho => hm o (by rw [← List.mem_singleton.mp hb]; exact ho)) (.refl _)
theorem repAll_ext {X : Cx} {ρ : List Addr} {h h' : Heap} {a : Addr} {v : List Value} {x : List AV} (hk : Heap.ExtBut a h h') (hm : ∀ o, h.get? a = some o → MutO o) (r : RepAll X ρ h v x) : RepAll X ρ h' v x :=
  r.mono (S := [a]) (fun b o e n => ⟨o.slots, hk b o (fun q => n (by simp [q])) e, fun _ => rfl⟩) (fun b hb o ho => hm o (by rw [← List.mem_singleton.mp hb]; exact ho)) (.refl _)

section
variable {prog : Program} {w : World} {A : Around} {s : Shared} {X : Cx} {P : Prog} {n lv : Nat} {env : Env} {es : List Env} {ρ : List Addr} {l : Loc} {σ : Sto} {sc csc : Scope} {cf : Calls} {k : Str} {cl : List (Str × Addr)} {ifs : List Expr} {elt : Expr}

theorem Ct.comp {C : Addr} {ρ' : List Addr} {σ' : Sto} {s' : Shared} {m : Str → Option Value} {v : Value} {a : AV} (S : ScOk sc env) (F : Fine sc csc k) (c : Ct X n lv A env es ρ' l σ' s')
    (h1 : ∀ q ∈ cl, env.cells.lookup q.1 = some q.2) (h2 : ∀ x, (x, NameKind.free) ∈ csc.names → cl.lookup x = env.cells.lookup x) (hn : s'.heap.Ns C m) (hv : m k = some v) (rv : Rep X ρ' s'.heap v a) (hC : C ∉ ρ') (hCb : X.base.get? C = none) :
    Ct X n lv A (compEnvC csc cl C env) es ρ' ((k, a) :: l) σ' s' := by
  have sub : ∀ b ∈ own (compEnvC csc cl C env), b = C ∨ b ∈ own env := fun b hb => by
    rcases List.mem_cons.mp hb with h | h
    · exact .inl h
    · obtain ⟨⟨y, d⟩, hq, rfl⟩ := List.mem_map.mp h
      exact .inr (List.mem_cons_of_mem _ (List.mem_map.mpr ⟨_, mem_of_lookup2 (h1 _ hq), rfl⟩))
  refine ⟨c.wd, F.kind, c.glob, c.blt, c.loc.comp S F h1 h2 hn hv rv, fun b hb => ?_, fun b hb => ?_, c.frame, c.offr, c.room, c.hand⟩
  · rcases sub b hb with rfl | h
    · exact hC
    · exact c.ownr b h
  · rcases sub b hb with rfl | h
    · exact hCb
    · exact c.ownb b h

theorem CpRun.end_inv {F : AV → Sto → Out (Option AV)} {src : Src} {xs acc : List AV} {σ₂ σ : Sto} {m i : Nat} (r : CpRun F src xs σ₂ m i acc σ) (h : srcAt σ i src = none) : acc = xs ∧ σ = σ₂ := by
  cases r with
  | done _ _ => exact ⟨rfl, rfl⟩
  | skip _ q _ _ => rw [h] at q; cases q
  | take _ q _ _ _ => rw [h] at q; cases q
theorem CpRun.at_inv {F : AV → Sto → Out (Option AV)} {src : Src} {xs acc : List AV} {σ₂ σ : Sto} {m i : Nat} {a : AV} (r : CpRun F src xs σ₂ m i acc σ) (h : srcAt σ i src = some a) : ∃ m' σ' x, m = m' + 1 ∧ F a σ = .ok x σ' ∧
    (x = none → CpRun F src xs σ₂ m' (i + 1) acc σ') ∧ ∀ y, x = some y → acc.length ≤ bigN ∧ CpRun F src xs σ₂ m' (i + 1) (acc ++ [y]) σ' := by
  cases r with
  | done _ q => rw [h] at q; cases q
  | skip _ q e r => rw [h] at q; cases q; exact ⟨_, _, _, rfl, e, fun _ => r, fun _ z => (nomatch z)⟩
  | take _ q e z r => rw [h] at q; cases q; exact ⟨_, _, _, rfl, e, fun z => (nomatch z), fun y e => by cases e; exact ⟨z, r⟩⟩
theorem comp_loop {it : Expr} {px pos : Pos} {I D C : Addr} {src : Src} {xsF : List AV} {σ₂ : Sto} {R : Result → Shared → Prop} {m0 : Nat} {ρ₀ : List Addr} {σ₀ : Sto} {s₀ : Shared}
    (S : ScOk sc env) (F : Fine sc csc k) (h1 : ∀ q ∈ cl, env.cells.lookup q.1 = some q.2) (h2 : ∀ x, (x, NameKind.free) ∈ csc.names → cl.lookup x = env.cells.lookup x) (c : Ct X n lv A env es ρ l σ s) (hl : lv ≤ 1)
    (fI : s.heap.get? I = none) (fD : s.heap.get? D = none) (fC : s.heap.get? C = none) (hID : I ≠ D) (hIC : I ≠ C) (hDC : D ≠ C)
    (hT : ∀ ρ' σ' s' a, Ct X n lv A (compEnvC csc cl C env) es ρ' ((k, a) :: l) σ' s' → evIfs P cf lv csc ifs ((k, a) :: l) σ' ≠ .bad →
      wpAny (model prog w) A (forIn ifs true fun c r => if r = true then do let ok ← isTrue c (compEnvC csc cl C env) (eval c (compEnvC csc cl C env)); pure (ForInStep.yield ok) else pure (ForInStep.yield r))
        (OkB X ρ' s' (evIfs P cf lv csc ifs ((k, a) :: l) σ')) (ExV X lv ρ' s' (evIfs P cf lv csc ifs ((k, a) :: l) σ')) s')
    (hE : ∀ ρ' σ' s' a, Ct X n lv A (compEnvC csc cl C env) es ρ' ((k, a) :: l) σ' s' → ev P cf lv csc elt ((k, a) :: l) σ' ≠ .bad →
      wpAny (model prog w) A (eval elt (compEnvC csc cl C env)) (OkV X ρ' s' (ev P cf lv csc elt ((k, a) :: l) σ')) (ExV X lv ρ' s' (ev P cf lv csc elt ((k, a) :: l) σ')) s')
    (hR : ∀ ρ' s' vs m, After X ρ s ρ' σ₂ s' → IsL s'.heap D vs → RepAll X ρ' s'.heap vs xsF → vs.length ≤ bigN + 1 → s'.heap.Ns C m → D ∉ ρ' → C ∉ ρ' → R (.ok .next) s')
    (run : CpRun (cpF P cf lv csc ifs elt k l) src xsF σ₂ m0 0 [] σ₀) (L : Lp X ρ s I D C src 0 [] ρ₀ σ₀ s₀) :
    codeAny (model prog w) A (.compLoop (.ListComp elt [⟨.Name k px, it, ifs, 0⟩] csc pos) 0 (.ref I) (.ref D) (compEnvC csc cl C env)) R s₀ := by
  have hk : (compEnvC csc cl C env).kindOf k = some .local := lookup_relabel_local F.kl
  have hp : ((compEnvC csc cl C env).scope.kind == .class || ((compEnvC csc cl C env).scope.kind == .module && (compEnvC csc cl C env).locals != (compEnvC csc cl C env).globals)) = false := by
    rw [show (compEnvC csc cl C env).scope.kind = .function from F.kind]; rfl
  have fb : ∀ b, s.heap.get? b = none → X.base.get? b = none := fun b h => by
    cases q : X.base.get? b with
    | none => rfl
    | some o => rw [c.wd.stays b o q] at h; cases h
  refine codeAny_compLoop_tests (fun m s' => ∃ i acc ρ' σ', CpRun (cpF P cf lv csc ifs elt k l) src xsF σ₂ m i acc σ' ∧ Lp X ρ s I D C src i acc ρ' σ' s') ?_ m0 ⟨0, [], ρ₀, σ₀, run, L⟩
  rintro m s' ⟨i, acc, ρ', σ', run, L⟩
  have c' := c.after L.af
  refine It.next c'.wd hl c'.hand L.it run.is (fun hn h' hx => ?_) fun a ha h' tk v hx it' rv => ?_
  · obtain ⟨vs, hl', ra, hz⟩ := L.is
    obtain ⟨mm, hns⟩ := L.ns
    have af : After X ρ s ρ' σ' { s' with heap := h' } := L.af.off1 c.wd.stays hx (fun o e => L.it.mut e) fI L.offI s'.toks
    obtain ⟨rfl, rfl⟩ := run.end_inv hn
    exact hR ρ' _ vs mm af (hl'.ext hx (Ne.symm hID)) (repAll_ext hx (fun o e => L.it.mut e) ra) hz (hns.extBut hx (Ne.symm hIC)) L.offD L.offC
  · obtain ⟨vs, hl', ra, hz⟩ := L.is
    obtain ⟨mm, hns⟩ := L.ns
    have af₁ : After X ρ s ρ' σ' { s' with heap := h', toks := tk } := L.af.off1 c.wd.stays hx (fun o e => L.it.mut e) fI L.offI tk
    have rv₁ := rep_ext hx (fun o e => L.it.mut e) rv
    have ra₁ := repAll_ext hx (fun o e => L.it.mut e) ra
    have hns₁ := hns.extBut hx (Ne.symm hIC)
    have hl₁ := hl'.ext hx (Ne.symm hID)
    refine wpAny_assign_Name (wpAny_storeName_local hk hns₁ (fun h₂ hn₂ hs₂ => ?_) hp)
    have hn₂ : h₂.Ns C _ := hn₂
    have hs₂ : Heap.SameBut C h' h₂ := hs₂
    have mC : ∀ o, h'.get? C = some o → MutO o := fun o e => Ns.mut hns₁ e
    have L₂ : Lp X ρ s I D C src (i + 1) acc ρ' σ' { s' with heap := h₂, toks := tk + 1 } :=
      ⟨af₁.off1 c.wd.stays hs₂.extBut mC fC L.offC _, it'.at (.refl _) fun o e => (hs₂.2 I hIC).trans e, ⟨vs, hl₁.ext hs₂.extBut hDC, repAll_ext hs₂.extBut mC ra₁, hz⟩, ⟨_, hn₂⟩, L.offI, L.offD, L.offC⟩
    have c₂ : Ct X n lv A (compEnvC csc cl C env) es ρ' ((k, a) :: l) σ' { s' with heap := h₂, toks := tk + 1 } :=
      Ct.comp S F (c.after L₂.af) h1 h2 hn₂ (by simp) (rep_ext hs₂.extBut mC rv₁) L.offC (fb C fC)
    obtain ⟨m', σ'', x, rfl, hF, r0, r1⟩ := run.at_inv ha
    obtain ⟨b, σ₃, hb, hcase⟩ := cpF_inv hF
    refine wpAny_mono (hT ρ' σ' _ a c₂ (by rw [hb]; intro q; cases q)) (fun ok s₃ hq => ?_) fun e s₃ hq => ?_
    · obtain ⟨b', σ₃', ρ₃, e3, af₃, rfl⟩ := hq
      rw [hb] at e3; cases e3
      have L₃ := L₂.after af₃
      have c₃ := c₂.after af₃
      rcases hcase with ⟨rfl, rfl, rfl⟩ | ⟨rfl, y, hy, rfl⟩
      · rw [if_neg (by simp)]
        exact ⟨_, Nat.lt_succ_self _, i + 1, acc, ρ₃, _, r0 rfl, L₃⟩
      · rw [if_pos rfl]
        refine wpAny_mono (hE ρ₃ σ₃ s₃ a c₃ (by rw [hy]; intro q; cases q)) (fun yv s₄ hq => ?_) fun e s₄ hq => ?_
        · obtain ⟨y', σ₄, ρ₄, e4, af₄, ry⟩ := hq
          rw [hy] at e4; cases e4
          have L₄ := L₃.after af₄
          obtain ⟨vs₄, hl₄, ra₄, hz₄⟩ := L₄.is
          obtain ⟨m₄, hns₄⟩ := L₄.ns
          obtain ⟨hle, r⟩ := r1 y rfl
          have hlen := ra₄.length
          refine list_append hl₄ hz₄ fun h₅ hl₅ hs₅ => ⟨_, Nat.lt_succ_self _, i + 1, acc ++ [y], ρ₄, _, r, ?_⟩
          have mD : ∀ o, s₄.heap.get? D = some o → MutO o := fun o e => hl₄.mut e
          exact ⟨L₄.af.off1 c.wd.stays hs₅.extBut mD fD L₄.offD s₄.toks, L₄.it.at (.refl _) fun o e => (hs₅.2 I hID).trans e, ⟨_, hl₅, repAll_ext hs₅.extBut mD (ra₄.append (.cons ry .nil)), by simp; omega⟩, ⟨m₄, hns₄.extBut hs₅.extBut (Ne.symm hDC)⟩, L₄.offI, L₄.offD, L₄.offC⟩
        · obtain ⟨c, σ', ρ', e1, _⟩ := hq; rw [hy] at e1; cases e1
    · obtain ⟨c, σ', ρ', e1, _⟩ := hq; rw [hb] at e1; cases e1
end
end Mine

/- E6 -/
set_option tactic.hygienic false
/-! Mine: a comprehension, whole. -/
namespace Mine
open PySem PySem.Spec PySem.Calls PyProof.Rows

abbrev OkS (X : Cx) := OkG (fun ρ h v src => SrcV X ρ h v src) X

section
variable {prog : Program} {w : World} {A : Around} {s : Shared} {X : Cx} {P : Prog} {n lv : Nat} {env : Env} {es : List Env} {ρ : List Addr} {l : Loc} {σ : Sto} {sc csc : Scope} {cf : Calls} {k : Str} {ifs : List Expr} {elt : Expr}

theorem It.self {E : Value → Shared → Prop} {I : Addr} {i : Nat} {src : Src} {Q : Value → Shared → Prop} (it : It X ρ s.heap I i src) (h : Q (.ref I) s) : wpAny (model prog w) A (pyIter (.ref I)) Q E s := by
  cases src with
  | items xs =>
    rcases it with ⟨a, b, _, hit⟩ | ⟨l, vs, ns, _, _, _, hit⟩
    · exact wpAny_pyIter_rangeiter hit h
    · exact wpAny_pyIter_listiter hit h
  | lst n =>
    obtain ⟨l, _, hit⟩ := it
    exact wpAny_pyIter_listiter hit h

theorem comp_ok {it : Expr} {px pos fpos : Pos} {use : Option (Value → Sem Unit)} {Q : Value → Shared → Prop} {γ : Type} {r : Out Src} {R : Out γ}
    (S : ScOk sc env) (F : Fine sc csc k) (c : Ct X n lv A env es ρ l σ s) (hfold : ∀ x, foldedSetIterable it env x = pure x)
    (hsrc : wpAny (model prog w) A (eval it env) (OkS X ρ s r) (ExV X lv ρ s r) s) (hsi : ∀ src σ', r = .ok src σ' → srcIs σ' src)
    (hT : ∀ env' ρ' σ' s' a, ScOk csc env' → Ct X n lv A env' es ρ' ((k, a) :: l) σ' s' → evIfs P cf lv csc ifs ((k, a) :: l) σ' ≠ .bad →
      wpAny (model prog w) A (forIn ifs true fun c r => if r = true then do let ok ← isTrue c env' (eval c env'); pure (ForInStep.yield ok) else pure (ForInStep.yield r))
        (OkB X ρ' s' (evIfs P cf lv csc ifs ((k, a) :: l) σ')) (ExV X lv ρ' s' (evIfs P cf lv csc ifs ((k, a) :: l) σ')) s')
    (hE : ∀ env' ρ' σ' s' a, ScOk csc env' → Ct X n lv A env' es ρ' ((k, a) :: l) σ' s' → ev P cf lv csc elt ((k, a) :: l) σ' ≠ .bad →
      wpAny (model prog w) A (eval elt env') (OkV X ρ' s' (ev P cf lv csc elt ((k, a) :: l) σ')) (ExV X lv ρ' s' (ev P cf lv csc elt ((k, a) :: l) σ')) s')
    (hb : (r.bind fun src σ => cpSrc lv (cpF P cf lv csc ifs elt k l) src σ) ≠ .bad) (hX : ∀ c σ', r = .exc c σ' → R = .exc c σ')
    (hK : ∀ xs σ₂ ρ' s' D C vs m, (r.bind fun src σ => cpSrc lv (cpF P cf lv csc ifs elt k l) src σ) = .ok xs σ₂ → After X ρ s ρ' σ₂ s' → s.heap.get? D = none → s.heap.get? C = none → D ≠ C → IsL s'.heap D vs → RepAll X ρ' s'.heap vs xs → vs.length ≤ bigN + 1 →
      s'.heap.Ns C m → D ∉ ρ' → C ∉ ρ' → compPost (model prog w) A (ExV X lv ρ s R) use Q (.ref D) C (.ok .next) s') :
    wpAny (model prog w) A (comprehension (.ListComp elt [⟨.Name k px, it, ifs, 0⟩] csc pos) csc env fpos (newList []) false (eval it env) use) Q (ExV X lv ρ s R) s := by
  obtain ⟨cl, hcl, h1, h2⟩ := closureFor_ok (env := env) (scope := csc) fun p hp e => (S.has p.1 (F.free p hp e)).2
  refine wpAny_comprehension_free (g := ⟨.Name k px, it, ifs, 0⟩) (gs := []) rfl hfold hcl F.kind (fun x hx e => (F.loc x hx e).2) (lift c.wd (.refl c.wd) hsrc hX fun src σ₁ ρ₁ v s₁ e₁ a₁ _ sv => ?_)
  have hsi₁ := hsi src σ₁ e₁
  have hb₁ := bind_ok' (f := fun src σ => cpSrc lv (cpF P cf lv csc ifs elt k l) src σ) e₁
  refine iter_ok a₁.wd sv hsi₁ fun h' st it0 => ?_
  refine wpAny_newObj_type (wpAny_newFunctionEnv F.cell (by intro y hy; simp at hy) (fun h₁ hns hsb => ?_) F.kind) (by size_fits)
  dsimp only at hns hsb ⊢
  generalize hH2 : h'.push { cls := .type "list", dict := none, data := .seq ([] : List Value).toArray } = H2 at hns hsb ⊢
  obtain ⟨oI, _, eI, _⟩ := it0.rec'
  have zC : H2.objs.size = h'.objs.size + 1 := by rw [← hH2, Heap.size_push]
  have ltI : s₁.heap.objs.size < h'.objs.size := Heap.lt_size eI
  have hID : s₁.heap.objs.size ≠ h'.objs.size := Nat.ne_of_lt ltI
  have hIC : s₁.heap.objs.size ≠ H2.objs.size := by omega
  have hDC : h'.objs.size ≠ H2.objs.size := by omega
  have old : ∀ b o, h'.get? b = some o → h₁.get? b = some o := fun b o e => hsb.extBut b o (fun q => absurd (Heap.lt_size e) (by rw [q, zC]; exact Nat.not_lt.mpr (Nat.le_succ _))) (Heap.get?_push_of_some _ (hH2 ▸ Heap.get?_push_of_some _ e))
  have old' : s₁.heap.StaysIn h₁ := fun b o e => old b o (st b o e)
  have nD : s₁.heap.get? h'.objs.size = none := by
    cases q : s₁.heap.get? h'.objs.size with
    | none => rfl
    | some o => exact absurd (Heap.lt_size (st _ _ q)) (Nat.lt_irrefl _)
  have nC : s₁.heap.get? H2.objs.size = none := by
    cases q : s₁.heap.get? H2.objs.size with
    | none => rfl
    | some o => exact absurd (Heap.lt_size (st _ _ q)) (by rw [zC]; exact Nat.not_lt.mpr (Nat.le_succ _))
  have hlD : IsL h₁ h'.objs.size [] := ⟨_, 0, hsb.extBut _ _ hDC (Heap.get?_push_of_some _ (hH2 ▸ Heap.get?_push_size _ rfl)), rfl, rfl, rfl⟩
  have off : ∀ b, s₁.heap.get? b = none → b ∉ ρ₁ := fun b h q => by obtain ⟨o, e, _⟩ := a₁.wd.at q; rw [h] at e; cases e
  have L : ∀ tk, Lp X ρ s s₁.heap.objs.size h'.objs.size H2.objs.size src 0 [] ρ₁ σ₁ { s₁ with heap := h₁, toks := tk } := fun tk =>
    ⟨a₁.trans (After.grow a₁.wd old' tk), it0.at (.refl _) fun o e => old _ o e, ⟨[], hlD, .nil, by simp⟩, ⟨_, hns⟩, off _ (size_none _), off _ nD, off _ nC⟩
  cases hcp : cpSrc lv (cpF P cf lv csc ifs elt k l) src σ₁ with
  | bad => rw [hb₁, hcp] at hb; exact absurd rfl hb
  | exc c σ' => exact absurd hcp (cpSrc_nx c σ')
  | ok xs σ₂ =>
    obtain ⟨hl, m0, run⟩ := cpSrc_run hcp
    have loop : ∀ tk, codeAny (model prog w) A (.compLoop (.ListComp elt [⟨.Name k px, it, ifs, 0⟩] csc pos) 0 (.ref s₁.heap.objs.size) (.ref h'.objs.size) (compEnvC csc cl H2.objs.size env)) (compPost (model prog w) A (ExV X lv ρ s R) use Q (.ref h'.objs.size) H2.objs.size) { s₁ with heap := h₁, toks := tk } := fun tk =>
      comp_loop S F h1 h2 c hl (a₁.gone (size_none _)) (a₁.gone nD) (a₁.gone nC) hID hIC hDC (fun ρ' σ' s' a c' => hT _ ρ' σ' s' a (S.comp F h2) c') (fun ρ' σ' s' a c' => hE _ ρ' σ' s' a (S.comp F h2) c')
        (fun ρ' s' vs m af hl' ra hz hn oD oC => hK xs σ₂ ρ' s' _ _ vs m (hb₁.trans hcp) af (a₁.gone nD) (a₁.gone nC) hDC hl' ra hz hn oD oC) run (L tk)
    exact codeAny_compStart_list (loop _) ((L _).it.self (s := { s₁ with heap := h₁, toks := _ }) (loop _))
end
end Mine

/- E7 -/
set_option tactic.hygienic false
/-! Mine: expressions' leaves. -/
namespace Mine
open PySem PySem.Spec PySem.Calls PyProof.Rows

/-- a list off the store joins it -/
theorem Wd.adopt {X : Cx} {ρ : List Addr} {σ : Sto} {h : Heap} {a : Addr} {vs : List Value} {xs : List AV} (w : Wd X ρ σ h) (na : a ∉ ρ) (nb : X.base.get? a = none) (hl : IsL h a vs) (hz : vs.length ≤ bigN + 1) (ra : RepAll X ρ h vs xs) : Wd X (ρ ++ [a]) (σ ++ [.list xs]) h := by
  refine ⟨w.stays, fun b hb' => ?_, ?_, by simp [w.len], fun n o e => ?_⟩
  · rcases List.mem_append.mp hb' with q | q
    · exact w.new b q
    · rw [List.mem_singleton.mp q]; exact nb
  · exact List.nodup_append.mpr ⟨w.nodup, by simp, fun x hx y hy e => na (by rw [List.mem_singleton.mp hy] at e; exact e ▸ hx)⟩
  · by_cases hlt : n < σ.length
    · rw [List.getElem?_append_left hlt] at e
      obtain ⟨b, hb, r⟩ := w.objs n o e
      refine ⟨b, Ext.app ρ [a] n b hb, ?_⟩
      cases o with
      | dict es => exact r.elim
      | list ys =>
        obtain ⟨ws, il, z, rr⟩ := r
        exact ⟨ws, il, z, rr.mono (Keep.refl [] _) SOk.nil (Ext.app _ _)⟩
    · rw [List.getElem?_append_right (by omega)] at e
      have hz0 : n - σ.length = 0 := by
        cases q : n - σ.length with
        | zero => rfl
        | succ k => rw [q] at e; simp at e
      rw [hz0] at e
      cases e
      refine ⟨a, ?_, vs, hl, hz, ra.mono (Keep.refl [] _) SOk.nil (Ext.app _ _)⟩
      rw [List.getElem?_append_right (by rw [w.len]; omega), w.len, hz0]; rfl
theorem After.adopt {X : Cx} {ρ ρ' : List Addr} {σ' : Sto} {s s' : Shared} {a : Addr} {vs : List Value} {xs : List AV} (x : After X ρ s ρ' σ' s') (na : a ∉ ρ') (nb : X.base.get? a = none) (nn : s.heap.get? a = none) (hl : IsL s'.heap a vs) (hz : vs.length ≤ bigN + 1) (ra : RepAll X ρ' s'.heap vs xs) :
    After X ρ s (ρ' ++ [a]) (σ' ++ [.list xs]) s' :=
  ⟨x.ext.trans (Ext.app _ _), fun b hb => (List.mem_append.mp hb).elim (x.new b) fun q => by rw [List.mem_singleton.mp q]; exact .inr nn, x.wd.adopt na nb hl hz ra, x.keep, x.same⟩

theorem newL_eq {xs : List AV} {σ : Sto} (h : newL xs σ ≠ .bad) : newL xs σ = .ok (.ref σ.length) (σ ++ [.list xs]) := by
  unfold newL at h ⊢
  cases hb : Nat.ble xs.length bigN with
  | false => rw [hb] at h; exact absurd rfl h
  | true => rfl

section
variable {prog : Program} {w : World} {A : Around} {E : Value → Shared → Prop} {s : Shared} {X : Cx} {P : Prog} {n lv : Nat} {env : Env} {es : List Env} {ρ : List Addr} {l : Loc} {σ : Sto} {sc : Scope} {cf : Calls}

theorem const_ok {c : Const} {k : Nat} {pos : Pos} (W : Wd X ρ σ s.heap) (hb : constA c σ ≠ .bad) : wpAny (model prog w) A (eval (.Constant c k pos) env) (OkV X ρ s (constA c σ)) E s := by
  cases c with
  | none => exact wpAny_Constant_none ⟨_, _, _, rfl, .refl W, .none⟩
  | bool b => exact wpAny_Constant_bool ⟨_, _, _, rfl, .refl W, .bool b⟩
  | int i => exact wpAny_Constant_int ⟨_, _, _, rfl, .tok W _, .int i _⟩
  | str x =>
    unfold constA at hb ⊢
    simp only at hb ⊢
    cases hx : PyData.strOk x with
    | false => rw [hx] at hb; exact absurd rfl hb
    | true => exact wpAny_Constant_str ⟨_, _, _, rfl, .tok W _, .str x _⟩
  | _ => exact absurd rfl hb

theorem evSrc_fold {e : Expr} {wv : Loc → Sto → Out AV} (hb : evSrc P cf lv sc e wv l σ ≠ .bad) (x : Value) : foldedSetIterable e env x = pure x := by
  cases e <;> first | rfl | (exact absurd rfl hb)
theorem srcOf_is {a : AV} {src : Src} {σ' : Sto} (e : srcOf a σ = .ok src σ') : srcIs σ' src := by
  unfold srcOf at e
  set_option tactic.hygienic true in split at e
  · rename_i n
    set_option tactic.hygienic true in split at e
    · rename_i xs hx
      cases e
      exact ⟨xs, by simp only [listOf?]; rw [hx]⟩
    · cases e
  · cases e; exact trivial
  · cases e
theorem rangeOf_is {a : List AV} {src : Src} {σ' : Sto} (e : rangeOf a σ = .ok src σ') : srcIs σ' src := by
  unfold rangeOf at e
  set_option tactic.hygienic true in split at e
  · rename_i b
    cases hc : (decide (-(2 ^ 40) ≤ b) && decide (b ≤ 2 ^ 40)) with
    | false => rw [hc] at e; cases e
    | true => rw [hc] at e; cases e; exact trivial
  · rename_i a b
    cases hc : (decide (0 ≤ a) && decide (a ≤ 2 ^ 40) && decide (-(2 ^ 40) ≤ b) && decide (b ≤ 2 ^ 40)) with
    | false => rw [hc] at e; cases e
    | true => rw [hc] at e; cases e; exact trivial
  · cases e
theorem bind_ok_inv {α β : Type} {m : Out α} {f : α → Sto → Out β} {b : β} {σ' : Sto} (h : m.bind f = .ok b σ') : ∃ a σ₁, m = .ok a σ₁ ∧ f a σ₁ = .ok b σ' := by
  cases m with
  | ok a σ₁ => exact ⟨a, σ₁, rfl, h⟩
  | exc c σ₁ => cases h
  | bad => cases h
theorem evSrc_is {e : Expr} {wv : Loc → Sto → Out AV} {src : Src} {σ' : Sto} (h : evSrc P cf lv sc e wv l σ = .ok src σ') : srcIs σ' src := by
  cases e with
  | Call f es ks pos =>
    simp only [evSrc_q0, evSrc_q1, evSrc_q2] at h
    set_option tactic.hygienic true in split at h
    · rename_i g _
      cases hg : (isGlob sc g && g == "range") with
      | false => rw [hg] at h; cases h
      | true =>
        rw [hg] at h
        obtain ⟨vs, σ₁, _, h2⟩ := bind_ok_inv h
        exact rangeOf_is h2
    · cases h
  | Name x pos =>
    simp only [evSrc_q0, evSrc_q1, evSrc_q2] at h
    obtain ⟨v, σ₁, _, h2⟩ := bind_ok_inv h
    exact srcOf_is h2
  | Subscript o i pos =>
    simp only [evSrc_q0, evSrc_q1, evSrc_q2] at h
    obtain ⟨v, σ₁, _, h2⟩ := bind_ok_inv h
    exact srcOf_is h2
  | _ => exact nomatch (show Out.bad = .ok _ _ from h)

theorem evs_noStar {args : List Expr} (hb : evs P cf lv sc args l σ ≠ .bad) : noStar args = true := by
  cases args with
  | nil => rfl
  | cons e r =>
    simp only [evs_q0, evs_q1] at hb
    cases h : noStar (e :: r) with
    | true => rfl
    | false => rw [h] at hb; exact absurd rfl hb

theorem allTrue_cons (op : BoolOp) (x : Expr) (rest : List Expr) (env : Env) : allTrue op (x :: rest) env = (do
    match op, ← isTrue x env (eval x env) with
    | .And, false => pure false
    | .Or, true => pure true
    | _, _ => allTrue op rest env) := rfl
theorem boolOp_two (pos : Pos) (op : BoolOp) (x y : Sem Value) (r : List (Sem Value)) : boolOp pos op (x :: y :: r) = (do
    let v ← x
    standAt pos
    let t ← holding [v] (truthy v)
    match op, t with
    | .And, false | .Or, true => pure v
    | _, _ => boolOp pos op (y :: r)) := rfl
theorem boolOp_one (pos : Pos) (op : BoolOp) (x : Sem Value) : boolOp pos op [x] = x := rfl
theorem evalEach_cons (e : Expr) (r : List Expr) (env : Env) : evalEach (e :: r) env = eval e env :: evalEach r env := rfl
theorem isTrue_BoolOp (op : BoolOp) (vs : List Expr) (pos : Pos) (env : Env) (whole : Sem Value) : isTrue (.BoolOp op vs pos) env whole = allTrue op vs env := rfl
theorem notSet_marks {op : CmpOp} {b : Expr} (h : notSet b = true) : behindInMarks op b = false := by
  cases b <;> first | rfl | exact (Bool.false_ne_true h).elim
end
end Mine
namespace Mine
open PySem PySem.Spec PySem.Calls PyProof.Rows
section
variable {prog : Program} {w : World} {A : Around} {E : Value → Shared → Prop} {s s₀ : Shared} {X : Cx} {ρ ρ₀ : List Addr} {σ σ' : Sto}
theorem tupA_ok {vs : List Value} {xs : List AV} {a : AV} (W : Wd X ρ σ s.heap) (ra : RepAll X ρ s.heap vs xs) (e : tupA xs σ = .ok a σ') : wpAny (model prog w) A (newTuple vs) (Gv X ρ s a σ') E s := by
  unfold tupA at e
  cases hb : Nat.ble xs.length bigN with
  | false => rw [hb] at e; cases e
  | true =>
    rw [hb] at e; cases e
    have hl := Nat.le_of_ble_eq_true hb
    have hv := ra.length
    have af := After.push W { cls := .type "tuple", data := .seq vs.toArray } s.toks
    refine wpAny_newObj_type ?_ (by show vs.toArray.size ≤ sizeLine; rw [List.size_toArray, hv]; unfold bigN at hl; rw [sizeLine_eq]; omega)
    exact ⟨ρ, af, .tup (by omega) ⟨_, Heap.get?_push_size _ rfl, rfl, 0, rfl⟩ (af.repAll W ra)⟩
theorem part_ok {v : Value} {a : AV} {p : Option Int} {h : Heap} (r : Rep X ρ h v a) (e : part? a = some p) : IsPartV v p := by
  cases r with
  | none => cases e; rfl
  | int i t => cases e; exact ⟨t, rfl⟩
  | _ => cases e
theorem slA_ok {u v : Value} {a b : AV} {R : Out AV} (x : After X ρ₀ s₀ ρ σ s) (hR : R = slA a b σ) (hb : slA a b σ ≠ .bad) (ra : Rep X ρ s.heap u a) (rb : Rep X ρ s.heap v b) :
    OkV X ρ₀ s₀ R (.ref s.heap.objs.size) { s with heap := s.heap.push { cls := .type "slice", data := .fields #[u, v, .none] } } := by
  unfold slA at hR hb
  set_option tactic.hygienic true in split at hb
  · rename_i p q hp hq
    have af := After.push x.wd { cls := .type "slice", data := .fields #[u, v, .none] } s.toks
    rw [hp, hq] at hR
    exact ⟨.sl p q, σ, ρ, hR, x.trans af, .sl (Heap.get?_push_size _ rfl) rfl rfl (part_ok ra hp) (part_ok rb hq)⟩
  · exact absurd rfl hb
end
end Mine

/- E8 -/
set_option tactic.hygienic false
/-! Mine: expressions (printed by gen_ev.py). -/
namespace Mine
open PySem PySem.Spec PySem.Calls PyProof.Rows
set_option linter.unusedVariables false
section
variable {prog : Program} {w : World} {X : Cx} {P : Prog} {mg mb : Str → Option Value} {n : Nat} {cf : Calls} (G : Gd prog w X P mg mb) (C : CallS prog w X mg n cf)
include G C
mutual

theorem evOk : ∀ (e : Expr) (A : Around) (lv : Nat) (sc : Scope) (env : Env) (es : List Env) (ρ : List Addr) (l : Loc) (σ : Sto) (s : Shared), ScOk sc env → Ct X n lv A env es ρ l σ s → ev P cf lv sc e l σ ≠ .bad →
    wpAny (model prog w) A (eval e env) (OkV X ρ s (ev P cf lv sc e l σ)) (ExV X lv ρ s (ev P cf lv sc e l σ)) s
  | .BoolOp op vs pos => by
    intro A lv sc env es ρ l σ s S c hb
    simp only [ev_q0, ev_q1, ev_q2, ev_q3, ev_q4, ev_q5, ev_q6, ev_q7, ev_q8, ev_q9, ev_q10, ev_q11, ev_q12] at hb ⊢
    rw [arm_eval_BoolOp]
    exact evBoolOk op vs pos A lv sc env es ρ l σ s S c hb
  | .NamedExpr _ _ _ => by
    intro A lv sc env es ρ l σ s S c hb
    exact absurd rfl hb
  | .BinOp a op b pos => by
    intro A lv sc env es ρ l σ s S c hb
    simp only [ev_q0, ev_q1, ev_q2, ev_q3, ev_q4, ev_q5, ev_q6, ev_q7, ev_q8, ev_q9, ev_q10, ev_q11, ev_q12] at hb ⊢
    refine wpAny_BinOp (lift c.wd (.refl c.wd) (evOk a A lv sc env es ρ l σ s S c (bind_ne hb)) (fun c σ h => bind_exc' h) fun x σ₁ ρ₁ v s₁ e₁ a₁ _ r₁ => ?_)
    rw [bind_ok' e₁] at hb
    refine lift c.wd a₁ (evOk b A lv sc env es ρ₁ l σ₁ s₁ S (c.after a₁) (bind_ne hb)) (fun c σ h => (bind_ok' e₁).trans (bind_exc' h)) fun y σ₂ ρ₂ v' s₂ e₂ a₂ a₂' r₂ => ?_
    rw [bind_ok' e₂] at hb
    exact fin_ok a₂ ((bind_ok' e₁).trans (bind_ok' e₂)) hb binop_nx fun a σ' h => binop_ok (G.gl.keeps a₂.wd.stays) a₂.wd (a₂'.rep a₁.wd r₁) r₂ h
  | .UnaryOp op x pos => by
    intro A lv sc env es ρ l σ s S c hb
    simp only [ev_q0, ev_q1, ev_q2, ev_q3, ev_q4, ev_q5, ev_q6, ev_q7, ev_q8, ev_q9, ev_q10, ev_q11, ev_q12] at hb ⊢
    refine wpAny_UnaryOp (lift c.wd (.refl c.wd) (evOk x A lv sc env es ρ l σ s S c (bind_ne hb)) (fun c σ h => bind_exc' h) fun a σ₁ ρ₁ v s₁ e₁ a₁ _ r₁ => ?_)
    rw [bind_ok' e₁] at hb
    exact fin_ok a₁ (bind_ok' e₁) hb unop_nx fun a σ' h => unop_ok a₁.wd r₁ h
  | .Lambda _ _ _ _ => by
    intro A lv sc env es ρ l σ s S c hb
    exact absurd rfl hb
  | .IfExp _ _ _ _ => by
    intro A lv sc env es ρ l σ s S c hb
    exact absurd rfl hb
  | .Dict ks vs pos => by
    intro A lv sc env es ρ l σ s S c hb
    simp only [ev_q0, ev_q1, ev_q2, ev_q3, ev_q4, ev_q5, ev_q6, ev_q7, ev_q8, ev_q9, ev_q10, ev_q11, ev_q12, G.nodict, cond_false] at hb
    cases ks <;> cases vs <;> exact absurd rfl hb
  | .Set _ _ _ => by
    intro A lv sc env es ρ l σ s S c hb
    exact absurd rfl hb
  | .ListComp elt [] csc pos => by
    intro A lv sc env es ρ l σ s S c hb
    exact absurd rfl hb
  | .ListComp elt (⟨_, _, _, _⟩ :: _ :: _) csc pos => by
    intro A lv sc env es ρ l σ s S c hb
    exact absurd rfl hb
  | .ListComp elt [⟨tg, it, ifs, a⟩] csc pos => by
    intro A lv sc env es ρ l σ s S c hb
    have h1 := evOk it
    have h2 := evSrcOk it
    have h3 := evIfsOk ifs
    have h4 := evOk elt
    simp only [ev_q0, ev_q1, ev_q2, ev_q3, ev_q4, ev_q5, ev_q6, ev_q7, ev_q8, ev_q9, ev_q10, ev_q11, ev_q12] at hb ⊢
    set_option tactic.hygienic true in split at hb
    · rename_i k px
      cases hf : scopeFine sc csc k with
      | false => rw [hf] at hb; exact absurd rfl hb
      | true =>
      rw [hf] at hb
      simp only [Bool.not_true, cond_false] at hb ⊢
      have hsrc := bind_ne hb
      have hb' : ((evSrc P cf lv sc it (fun l σ => ev P cf lv sc it l σ) l σ).bind fun src σ => cpSrc lv (cpF P cf lv csc ifs elt k l) src σ) ≠ .bad := fun q => hb (by
        cases e : evSrc P cf lv sc it (fun l σ => ev P cf lv sc it l σ) l σ with
        | bad => rfl
        | exc c σ' => rw [bind_exc' e] at q; cases q
        | ok src σ' => rw [bind_ok' e] at q; show Out.bind (cpSrc lv (cpF P cf lv csc ifs elt k l) src σ') _ = .bad; rw [q]; rfl)
      rw [eval_ListComp]
      refine comp_ok (R := (evSrc P cf lv sc it (fun l σ => ev P cf lv sc it l σ) l σ).bind fun src σ => (cpSrc lv (cpF P cf lv csc ifs elt k l) src σ).bind fun xs σ => newL xs σ) S (Fine.of hf) c (evSrc_fold hsrc) (h2 A lv sc env es ρ l σ s S c (h1 A lv sc env es ρ l σ s S c) hsrc) (fun src σ' h => evSrc_is h)
        (fun env' ρ' σ' s' a S' c' h => h3 A lv csc env' es ρ' _ σ' s' S' c' h) (fun env' ρ' σ' s' a S' c' h => h4 A lv csc env' es ρ' _ σ' s' S' c' h) hb' (fun c σ' h => bind_exc' h) ?_
      intro xs σ₂ ρ' s' D CC vs m e af fD fC hDC hl ra hz hns oD oC
      refine ⟨m, hns, fun h' hs' => ?_⟩
      obtain ⟨src, σ₁, e1, e2⟩ := bind_ok_inv e
      have hR : ((evSrc P cf lv sc it (fun l σ => ev P cf lv sc it l σ) l σ).bind fun src σ => (cpSrc lv (cpF P cf lv csc ifs elt k l) src σ).bind fun xs σ => newL xs σ) = newL xs σ₂ := by rw [bind_ok' e1, bind_ok' e2]
      have hb2 : newL xs σ₂ ≠ .bad := fun q => hb (by rw [← hR] at q; exact q)
      have hm : ∀ o, s'.heap.get? CC = some o → MutO o := fun o e => Ns.mut hns e
      have af' : After X ρ s ρ' σ₂ { s' with heap := h' } := af.off1 c.wd.stays hs'.extBut hm fC oC s'.toks
      have nb : X.base.get? D = none := by
        cases q : X.base.get? D with
        | none => rfl
        | some o => rw [c.wd.stays D o q] at fD; cases fD
      refine ⟨.ref σ₂.length, _, _, hR.trans (newL_eq hb2), af'.adopt oD nb fD (hl.ext hs'.extBut hDC) hz (repAll_ext hs'.extBut hm ra), .ref ?_⟩
      rw [← af'.wd.len]; simp
    · exact absurd rfl hb
  | .SetComp _ _ _ _ => by
    intro A lv sc env es ρ l σ s S c hb
    exact absurd rfl hb
  | .DictComp _ _ _ _ _ => by
    intro A lv sc env es ρ l σ s S c hb
    exact absurd rfl hb
  | .GeneratorExp _ _ _ _ => by
    intro A lv sc env es ρ l σ s S c hb
    exact absurd rfl hb
  | .Await _ _ => by
    intro A lv sc env es ρ l σ s S c hb
    exact absurd rfl hb
  | .Yield _ _ => by
    intro A lv sc env es ρ l σ s S c hb
    exact absurd rfl hb
  | .YieldFrom _ _ => by
    intro A lv sc env es ρ l σ s S c hb
    exact absurd rfl hb
  | .Compare a [] _ _ => by
    intro A lv sc env es ρ l σ s S c hb
    exact absurd rfl hb
  | .Compare a [op] [] _ => by
    intro A lv sc env es ρ l σ s S c hb
    exact absurd rfl hb
  | .Compare a [op] (_ :: _ :: _) _ => by
    intro A lv sc env es ρ l σ s S c hb
    exact absurd rfl hb
  | .Compare a (_ :: _ :: _) _ _ => by
    intro A lv sc env es ρ l σ s S c hb
    exact absurd rfl hb
  | .Compare a [op] [b] pos => by
    intro A lv sc env es ρ l σ s S c hb
    simp only [ev_q0, ev_q1, ev_q2, ev_q3, ev_q4, ev_q5, ev_q6, ev_q7, ev_q8, ev_q9, ev_q10, ev_q11, ev_q12] at hb ⊢
    cases hs : notSet b with
    | false => rw [hs] at hb; exact absurd rfl hb
    | true =>
    rw [hs] at hb
    simp only [cond_true] at hb ⊢
    refine wpAny_Compare1 (lift c.wd (.refl c.wd) (evOk a A lv sc env es ρ l σ s S c (bind_ne hb)) (fun c σ h => bind_exc' h) fun x σ₁ ρ₁ v s₁ e₁ a₁ _ r₁ => ?_) (notSet_marks hs)
    rw [bind_ok' e₁] at hb
    refine lift c.wd a₁ (evOk b A lv sc env es ρ₁ l σ₁ s₁ S (c.after a₁) (bind_ne hb)) (fun c σ h => (bind_ok' e₁).trans (bind_exc' h)) fun y σ₂ ρ₂ v' s₂ e₂ a₂ a₂' r₂ => ?_
    rw [bind_ok' e₂] at hb
    exact fin_ok a₂ ((bind_ok' e₁).trans (bind_ok' e₂)) hb cmpop_nx fun a σ' h => cmpop_ok a₂.wd (a₂'.rep a₁.wd r₁) r₂ (by have := c.room.2; omega) h
  | .Call f args ks pos => by
    intro A lv sc env es ρ l σ s S c hb
    have h1 := evsOk args
    cases ks with
    | cons _ _ => cases f with
      | Attribute o m p => cases o <;> (exact absurd rfl hb)
      | _ => exact absurd rfl hb
    | nil => cases f with
      | Name g p =>
        simp only [ev_q0, ev_q1, ev_q2, ev_q3, ev_q4, ev_q5, ev_q6, ev_q7, ev_q8, ev_q9, ev_q10, ev_q11, ev_q12] at hb ⊢
        cases hg : (isGlob sc g && P.known g) with
        | false => rw [hg] at hb; exact absurd rfl hb
        | true =>
          rw [hg] at hb
          simp only [cond_true] at hb ⊢
          have hg := Bool.and_eq_true_iff.mp hg
          have hne := bind_ne hb
          exact call_ok G C S c hg.1 hg.2 (evs_noStar hne) (h1 pos A lv sc env es ρ l σ s S c hne) hb
      | Attribute o m apos => cases o with
        | Name o p =>
          simp only [ev_q0, ev_q1, ev_q2, ev_q3, ev_q4, ev_q5, ev_q6, ev_q7, ev_q8, ev_q9, ev_q10, ev_q11, ev_q12] at hb ⊢
          cases hg : (m == "append" && (apos.endLine == pos.line) && Nat.blt args.length 30) with
          | false => rw [hg] at hb; exact absurd rfl hb
          | true =>
            rw [hg] at hb
            simp only [cond_true] at hb ⊢
            have hg := Bool.and_eq_true_iff.mp hg
            have hg1 := Bool.and_eq_true_iff.mp hg.1
            cases hx : evName P sc o l σ with
            | bad => rw [hx] at hb; exact absurd rfl hb
            | exc c σ' => exact absurd hx (evName_nx c σ')
            | ok x σ' =>
              have e := evName_st hx
              subst e
              rw [bind_ok' hx] at hb
              rw [bind_ok' rfl]
              cases hl : listB σ' x with
              | false => rw [hl] at hb; exact absurd rfl hb
              | true =>
                rw [hl] at hb
                simp only [cond_true] at hb ⊢
                have hne := bind_ne hb
                exact meth_ok G S c (by simpa using hg1.1) hg1.2 (by simpa using hg.2) (evs_noStar hne) hx hl (h1 pos A lv sc env es ρ l σ' s S c hne) hb
        | _ => exact absurd rfl hb
      | _ => exact absurd rfl hb
  | .FormattedValue _ _ _ _ => by
    intro A lv sc env es ρ l σ s S c hb
    exact absurd rfl hb
  | .JoinedStr _ _ => by
    intro A lv sc env es ρ l σ s S c hb
    exact absurd rfl hb
  | .Constant k j pos => by
    intro A lv sc env es ρ l σ s S c hb
    simp only [ev_q0, ev_q1, ev_q2, ev_q3, ev_q4, ev_q5, ev_q6, ev_q7, ev_q8, ev_q9, ev_q10, ev_q11, ev_q12] at hb ⊢
    exact const_ok c.wd hb
  | .Attribute _ _ _ => by
    intro A lv sc env es ρ l σ s S c hb
    exact absurd rfl hb
  | .Subscript o i pos => by
    intro A lv sc env es ρ l σ s S c hb
    simp only [ev_q0, ev_q1, ev_q2, ev_q3, ev_q4, ev_q5, ev_q6, ev_q7, ev_q8, ev_q9, ev_q10, ev_q11, ev_q12] at hb ⊢
    refine Subscript_ (lift c.wd (.refl c.wd) (evOk o A lv sc env es ρ l σ s S c (bind_ne hb)) (fun c σ h => bind_exc' h) fun x σ₁ ρ₁ v s₁ e₁ a₁ _ r₁ => ?_)
    rw [bind_ok' e₁] at hb
    refine lift c.wd a₁ (evOk i A lv sc env es ρ₁ l σ₁ s₁ S (c.after a₁) (bind_ne hb)) (fun c σ h => (bind_ok' e₁).trans (bind_exc' h)) fun y σ₂ ρ₂ v' s₂ e₂ a₂ a₂' r₂ => ?_
    rw [bind_ok' e₂] at hb
    exact fin_ok a₂ ((bind_ok' e₁).trans (bind_ok' e₂)) hb item_nx fun a σ' h => item_ok a₂.wd (a₂'.rep a₁.wd r₁) r₂ h
  | .Starred _ _ => by
    intro A lv sc env es ρ l σ s S c hb
    exact absurd rfl hb
  | .Name x pos => by
    intro A lv sc env es ρ l σ s S c hb
    simp only [ev_q0, ev_q1, ev_q2, ev_q3, ev_q4, ev_q5, ev_q6, ev_q7, ev_q8, ev_q9, ev_q10, ev_q11, ev_q12] at hb ⊢
    exact name_ok G S c hb
  | .List xs pos => by
    intro A lv sc env es ρ l σ s S c hb
    simp only [ev_q0, ev_q1, ev_q2, ev_q3, ev_q4, ev_q5, ev_q6, ev_q7, ev_q8, ev_q9, ev_q10, ev_q11, ev_q12] at hb ⊢
    refine List_ (lift c.wd (.refl c.wd) (evsOk xs pos A lv sc env es ρ l σ s S c (bind_ne hb)) (fun c σ h => bind_exc' h) fun x σ₁ ρ₁ v s₁ e₁ a₁ _ r₁ => ?_)
    rw [bind_ok' e₁] at hb
    exact fin_ok a₁ (bind_ok' e₁) hb NoX.newL fun a σ' h => newL_ok a₁.wd r₁ h
  | .Tuple xs k pos => by
    intro A lv sc env es ρ l σ s S c hb
    simp only [ev_q0, ev_q1, ev_q2, ev_q3, ev_q4, ev_q5, ev_q6, ev_q7, ev_q8, ev_q9, ev_q10, ev_q11, ev_q12] at hb ⊢
    refine Tuple_ (lift c.wd (.refl c.wd) (evsOk xs pos A lv sc env es ρ l σ s S c (bind_ne hb)) (fun c σ h => bind_exc' h) fun x σ₁ ρ₁ v s₁ e₁ a₁ _ r₁ => ?_)
    rw [bind_ok' e₁] at hb
    exact fin_ok a₁ (bind_ok' e₁) hb tupA_nx fun a σ' h => tupA_ok a₁.wd r₁ h
  | .Slice lo hi st pos => by
    intro A lv sc env es ρ l σ s S c hb
    cases st with
    | some _ => exact absurd rfl hb
    | none =>
    simp only [ev_q0, ev_q1, ev_q2, ev_q3, ev_q4, ev_q5, ev_q6, ev_q7, ev_q8, ev_q9, ev_q10, ev_q11, ev_q12] at hb ⊢
    refine wpAny_Slice (lift c.wd (.refl c.wd) (evOptOk lo A lv sc env es ρ l σ s S c (bind_ne hb)) (fun c σ h => bind_exc' h) fun x σ₁ ρ₁ v s₁ e₁ a₁ _ r₁ => ?_)
    rw [bind_ok' e₁] at hb
    refine lift c.wd a₁ (evOptOk hi A lv sc env es ρ₁ l σ₁ s₁ S (c.after a₁) (bind_ne hb)) (fun c σ h => (bind_ok' e₁).trans (bind_exc' h)) fun y σ₂ ρ₂ v' s₂ e₂ a₂ a₂' r₂ => ?_
    rw [bind_ok' e₂] at hb
    refine wpAny_of_eq (evalPart_none env) ?_
    have hR := (bind_ok' (f := fun a σ => (evOpt P cf lv sc hi l σ).bind fun b σ => slA a b σ) e₁).trans (bind_ok' (f := fun b σ => slA x b σ) e₂)
    exact slA_ok a₂ hR hb (a₂'.rep a₁.wd r₁) r₂
theorem evsOk : ∀ (xs : List Expr) (pos : Pos) (A : Around) (lv : Nat) (sc : Scope) (env : Env) (es : List Env) (ρ : List Addr) (l : Loc) (σ : Sto) (s : Shared), ScOk sc env → Ct X n lv A env es ρ l σ s → evs P cf lv sc xs l σ ≠ .bad →
    wpAny (model prog w) A (spliced (backTo pos (starEach xs env))) (OkL X ρ s (evs P cf lv sc xs l σ)) (ExV X lv ρ s (evs P cf lv sc xs l σ)) s
  | [], pos => by
    intro A lv sc env es ρ l σ s S c hb
    simp only [evs_q0, evs_q1]
    exact spliced_nil ⟨[], σ, ρ, rfl, .refl c.wd, .nil⟩
  | e :: r, pos => by
    intro A lv sc env es ρ l σ s S c hb
    simp only [evs_q0, evs_q1] at hb ⊢
    cases hn : noStar (e :: r) with
    | false => rw [hn] at hb; exact absurd rfl hb
    | true =>
    rw [hn] at hb
    simp only [cond_true] at hb ⊢
    rw [spl hn]
    refine spliced_cons (lift c.wd (.refl c.wd) (evOk e A lv sc env es ρ l σ s S c (bind_ne hb)) (fun c σ h => bind_exc' h) fun x σ₁ ρ₁ v s₁ e₁ a₁ _ r₁ => ?_)
    rw [bind_ok' e₁] at hb
    refine lift c.wd a₁ (evsOk r pos A lv sc env es ρ₁ l σ₁ s₁ S (c.after a₁) (bind_ne hb)) (fun c σ h => (bind_ok' e₁).trans (bind_exc' h)) fun y σ₂ ρ₂ v' s₂ e₂ a₂ a₂' r₂ => ?_
    exact ⟨x :: y, σ₂, ρ₂, (bind_ok' e₁).trans (bind_ok' e₂), a₂, .cons (a₂'.rep a₁.wd r₁) r₂⟩
theorem evOptOk : ∀ (x : Option Expr) (A : Around) (lv : Nat) (sc : Scope) (env : Env) (es : List Env) (ρ : List Addr) (l : Loc) (σ : Sto) (s : Shared), ScOk sc env → Ct X n lv A env es ρ l σ s → evOpt P cf lv sc x l σ ≠ .bad →
    wpAny (model prog w) A (evalPart x env) (OkV X ρ s (evOpt P cf lv sc x l σ)) (ExV X lv ρ s (evOpt P cf lv sc x l σ)) s
  | none => by
    intro A lv sc env es ρ l σ s S c hb
    simp only [evOpt_q0, evOpt_q1]
    exact wpAny_of_eq (evalPart_none env) ⟨.none, σ, ρ, rfl, .refl c.wd, .none⟩
  | some e => by
    intro A lv sc env es ρ l σ s S c hb
    simp only [evOpt_q0, evOpt_q1] at hb ⊢
    rw [evalPart_some]
    exact evOk e A lv sc env es ρ l σ s S c hb
theorem evBoolOk (op : BoolOp) : ∀ (xs : List Expr) (pos : Pos) (A : Around) (lv : Nat) (sc : Scope) (env : Env) (es : List Env) (ρ : List Addr) (l : Loc) (σ : Sto) (s : Shared), ScOk sc env → Ct X n lv A env es ρ l σ s → evBool P cf lv sc op xs l σ ≠ .bad →
    wpAny (model prog w) A (boolOp pos op (evalEach xs env)) (OkV X ρ s (evBool P cf lv sc op xs l σ)) (ExV X lv ρ s (evBool P cf lv sc op xs l σ)) s
  | [], pos => by
    intro A lv sc env es ρ l σ s S c hb
    exact absurd rfl hb
  | [e], pos => by
    intro A lv sc env es ρ l σ s S c hb
    simp only [evBool_q0, evBool_q1, evBool_q2] at hb ⊢
    rw [evalEach_cons]
    show wpAny _ A (boolOp pos op [eval e env]) _ _ s
    rw [boolOp_one]
    exact evOk e A lv sc env es ρ l σ s S c hb
  | e :: f :: r, pos => by
    intro A lv sc env es ρ l σ s S c hb
    have ih := evBoolOk op (f :: r) pos
    simp only [evBool_q0, evBool_q1, evBool_q2] at hb ⊢
    rw [evalEach_cons, evalEach_cons, boolOp_two]
    refine wpAny_bind (lift c.wd (.refl c.wd) (evOk e A lv sc env es ρ l σ s S c (bind_ne hb)) (fun c σ h => bind_exc' h) fun x σ₁ ρ₁ v s₁ e₁ a₁ _ r₁ => ?_)
    rw [bind_ok' e₁] at hb ⊢
    refine wpAny_bind (wpAny_standAt (wpAny_bind (wpAny_holding ?_)))
    cases ht : truthO x σ₁ with
    | bad => rw [ht] at hb; exact absurd rfl hb
    | exc c σ' => exact absurd ht (truthO_nx c σ')
    | ok b σ' =>
      rw [bind_ok' ht] at hb
      rw [bind_ok' rfl]
      refine wpAny_mono (truthO_ok a₁.wd r₁ ht) (fun b' s₂ hq => ?_) fun _ _ z => z
      obtain ⟨rfl, t, rfl, rfl⟩ := hq
      have a₂ := a₁.trans (After.tok a₁.wd t)
      have c₂ := c.after a₂
      cases op <;> cases b'
      · exact wpAny_pure ⟨x, _, _, rfl, a₂, r₁⟩
      · rw [← evalEach_cons]
        exact lift c.wd a₂ (ih A lv sc env es ρ₁ l _ _ S c₂ hb) (fun c σ h => h) fun y σ₂ ρ₂ v' s₂ e₂ a₂ a₂' r₂ => ⟨y, σ₂, ρ₂, e₂, a₂, r₂⟩
      · rw [← evalEach_cons]
        exact lift c.wd a₂ (ih A lv sc env es ρ₁ l _ _ S c₂ hb) (fun c σ h => h) fun y σ₂ ρ₂ v' s₂ e₂ a₂ a₂' r₂ => ⟨y, σ₂, ρ₂, e₂, a₂, r₂⟩
      · exact wpAny_pure ⟨x, _, _, rfl, a₂, r₁⟩
theorem evSrcOk : ∀ (e : Expr) (A : Around) (lv : Nat) (sc : Scope) (env : Env) (es : List Env) (ρ : List Addr) (l : Loc) (σ : Sto) (s : Shared), ScOk sc env → Ct X n lv A env es ρ l σ s → (ev P cf lv sc e l σ ≠ .bad → wpAny (model prog w) A (eval e env) (OkV X ρ s (ev P cf lv sc e l σ)) (ExV X lv ρ s (ev P cf lv sc e l σ)) s) → evSrc P cf lv sc e (fun l σ => ev P cf lv sc e l σ) l σ ≠ .bad →
    wpAny (model prog w) A (eval e env) (OkS X ρ s (evSrc P cf lv sc e (fun l σ => ev P cf lv sc e l σ) l σ)) (ExV X lv ρ s (evSrc P cf lv sc e (fun l σ => ev P cf lv sc e l σ) l σ)) s
  | .BoolOp _ _ _ => by
    intro A lv sc env es ρ l σ s S c hw hb
    exact absurd rfl hb
  | .NamedExpr _ _ _ => by
    intro A lv sc env es ρ l σ s S c hw hb
    exact absurd rfl hb
  | .BinOp _ _ _ _ => by
    intro A lv sc env es ρ l σ s S c hw hb
    exact absurd rfl hb
  | .UnaryOp _ _ _ => by
    intro A lv sc env es ρ l σ s S c hw hb
    exact absurd rfl hb
  | .Lambda _ _ _ _ => by
    intro A lv sc env es ρ l σ s S c hw hb
    exact absurd rfl hb
  | .IfExp _ _ _ _ => by
    intro A lv sc env es ρ l σ s S c hw hb
    exact absurd rfl hb
  | .Dict _ _ _ => by
    intro A lv sc env es ρ l σ s S c hw hb
    exact absurd rfl hb
  | .Set _ _ _ => by
    intro A lv sc env es ρ l σ s S c hw hb
    exact absurd rfl hb
  | .ListComp _ _ _ _ => by
    intro A lv sc env es ρ l σ s S c hw hb
    exact absurd rfl hb
  | .SetComp _ _ _ _ => by
    intro A lv sc env es ρ l σ s S c hw hb
    exact absurd rfl hb
  | .DictComp _ _ _ _ _ => by
    intro A lv sc env es ρ l σ s S c hw hb
    exact absurd rfl hb
  | .GeneratorExp _ _ _ _ => by
    intro A lv sc env es ρ l σ s S c hw hb
    exact absurd rfl hb
  | .Await _ _ => by
    intro A lv sc env es ρ l σ s S c hw hb
    exact absurd rfl hb
  | .Yield _ _ => by
    intro A lv sc env es ρ l σ s S c hw hb
    exact absurd rfl hb
  | .YieldFrom _ _ => by
    intro A lv sc env es ρ l σ s S c hw hb
    exact absurd rfl hb
  | .Compare _ _ _ _ => by
    intro A lv sc env es ρ l σ s S c hw hb
    exact absurd rfl hb
  | .Call f args ks pos => by
    intro A lv sc env es ρ l σ s S c hw hb
    have h1 := evsOk args
    simp only [evSrc_q0, evSrc_q1, evSrc_q2] at hb ⊢
    set_option tactic.hygienic true in split at hb
    · rename_i g p
      cases hg : (isGlob sc g && g == "range") with
      | false => rw [hg] at hb; exact absurd rfl hb
      | true =>
      rw [hg] at hb
      simp only [cond_true] at hb ⊢
      have hg := Bool.and_eq_true_iff.mp hg
      have hne := bind_ne hb
      have hgr : g = "range" := by simpa using hg.2
      subst hgr
      refine wpAny_Call_Name_kw (glob_name G S c hg.1 (.inr G.range) (PySem.callWith_type (spl_any (evs_noStar hne)) (args_ok (evs_noStar hne) (lift c.wd (.refl c.wd) (h1 pos A lv sc env es ρ l σ s S c hne) (fun c σ h => bind_exc' h) fun xs σ₁ ρ₁ vs s₁ e₁ a₁ _ r₁ => ?_))))
      rw [bind_ok' e₁] at hb ⊢
      cases hr : rangeOf xs σ₁ with
      | bad => exact absurd hr hb
      | exc c σ' => exact absurd hr (rangeOf_nx c σ')
      | ok src σ' =>
        refine wpAny_mono (range_ok a₁.wd r₁ hr) (fun v s₂ hq => ?_) fun _ _ z => z
        obtain ⟨h, tk, rfl, st, sv, si, rfl⟩ := hq
        exact ⟨src, _, ρ₁, rfl, a₁.trans (After.grow a₁.wd st tk), sv⟩
    · exact absurd rfl hb
  | .FormattedValue _ _ _ _ => by
    intro A lv sc env es ρ l σ s S c hw hb
    exact absurd rfl hb
  | .JoinedStr _ _ => by
    intro A lv sc env es ρ l σ s S c hw hb
    exact absurd rfl hb
  | .Constant _ _ _ => by
    intro A lv sc env es ρ l σ s S c hw hb
    exact absurd rfl hb
  | .Attribute _ _ _ => by
    intro A lv sc env es ρ l σ s S c hw hb
    exact absurd rfl hb
  | .Subscript o i pos => by
    intro A lv sc env es ρ l σ s S c hw hb
    simp only [evSrc_q0, evSrc_q1, evSrc_q2] at hb ⊢
    refine lift c.wd (.refl c.wd) (hw (bind_ne hb)) (fun c σ h => bind_exc' h) fun x σ₁ ρ₁ v s₁ e₁ a₁ _ r₁ => ?_
    rw [bind_ok' e₁] at hb ⊢
    cases hr : srcOf x σ₁ with
    | bad => exact absurd hr hb
    | exc c σ' => exact absurd hr (srcOf_nx c σ')
    | ok src σ' =>
      obtain ⟨rfl, sv, _⟩ := srcOf_ok r₁ hr
      exact ⟨src, _, ρ₁, rfl, a₁, sv⟩
  | .Starred _ _ => by
    intro A lv sc env es ρ l σ s S c hw hb
    exact absurd rfl hb
  | .Name x pos => by
    intro A lv sc env es ρ l σ s S c hw hb
    simp only [evSrc_q0, evSrc_q1, evSrc_q2] at hb ⊢
    refine lift c.wd (.refl c.wd) (hw (bind_ne hb)) (fun c σ h => bind_exc' h) fun x σ₁ ρ₁ v s₁ e₁ a₁ _ r₁ => ?_
    rw [bind_ok' e₁] at hb ⊢
    cases hr : srcOf x σ₁ with
    | bad => exact absurd hr hb
    | exc c σ' => exact absurd hr (srcOf_nx c σ')
    | ok src σ' =>
      obtain ⟨rfl, sv, _⟩ := srcOf_ok r₁ hr
      exact ⟨src, _, ρ₁, rfl, a₁, sv⟩
  | .List _ _ => by
    intro A lv sc env es ρ l σ s S c hw hb
    exact absurd rfl hb
  | .Tuple _ _ _ => by
    intro A lv sc env es ρ l σ s S c hw hb
    exact absurd rfl hb
  | .Slice _ _ _ _ => by
    intro A lv sc env es ρ l σ s S c hw hb
    exact absurd rfl hb
theorem evIfsOk : ∀ (ifs : List Expr) (A : Around) (lv : Nat) (sc : Scope) (env : Env) (es : List Env) (ρ : List Addr) (l : Loc) (σ : Sto) (s : Shared), ScOk sc env → Ct X n lv A env es ρ l σ s → evIfs P cf lv sc ifs l σ ≠ .bad →
    wpAny (model prog w) A (forIn ifs true fun c r => if r = true then do let ok ← isTrue c env (eval c env); pure (ForInStep.yield ok) else pure (ForInStep.yield r)) (OkB X ρ s (evIfs P cf lv sc ifs l σ)) (ExV X lv ρ s (evIfs P cf lv sc ifs l σ)) s
  | [] => by
    intro A lv sc env es ρ l σ s S c hb
    simp only [evIfs_q0, evIfs_q1, evIfs_q2]
    exact wpAny_tests_nil ⟨true, σ, ρ, rfl, .refl c.wd, rfl⟩
  | [e] => by
    intro A lv sc env es ρ l σ s S c hb
    simp only [evIfs_q0, evIfs_q1, evIfs_q2] at hb ⊢
    exact wpAny_tests_one (evTOk e A lv sc env es ρ l σ s S c (evOk e A lv sc env es ρ l σ s S c) hb)
  | _ :: _ :: _ => by
    intro A lv sc env es ρ l σ s S c hb
    exact absurd rfl hb
theorem evTOk : ∀ (e : Expr) (A : Around) (lv : Nat) (sc : Scope) (env : Env) (es : List Env) (ρ : List Addr) (l : Loc) (σ : Sto) (s : Shared), ScOk sc env → Ct X n lv A env es ρ l σ s → (ev P cf lv sc e l σ ≠ .bad → wpAny (model prog w) A (eval e env) (OkV X ρ s (ev P cf lv sc e l σ)) (ExV X lv ρ s (ev P cf lv sc e l σ)) s) → evT P cf lv sc e (fun l σ => ev P cf lv sc e l σ) l σ ≠ .bad →
    wpAny (model prog w) A (isTrue e env (eval e env)) (OkB X ρ s (evT P cf lv sc e (fun l σ => ev P cf lv sc e l σ) l σ)) (ExV X lv ρ s (evT P cf lv sc e (fun l σ => ev P cf lv sc e l σ) l σ)) s
  | .BoolOp op vs pos => by
    intro A lv sc env es ρ l σ s S c hw hb
    simp only [evT_q0, evT_q1, evT_q2, evT_q3, evT_q4, evT_q5] at hb ⊢
    rw [isTrue_BoolOp]
    exact evTsOk op vs A lv sc env es ρ l σ s S c hb
  | .NamedExpr _ _ _ => by
    intro A lv sc env es ρ l σ s S c hw hb
    exact absurd rfl hb
  | .BinOp _ _ _ _ => by
    intro A lv sc env es ρ l σ s S c hw hb
    exact absurd rfl hb
  | .UnaryOp op x pos => by
    intro A lv sc env es ρ l σ s S c hw hb
    cases op with
    | Not =>
      have ih := evTOk x A lv sc env es ρ l σ s S c (evOk x A lv sc env es ρ l σ s S c)
      simp only [evT_q0, evT_q1, evT_q2, evT_q3, evT_q4, evT_q5] at hb ⊢
      refine isTrue_not (lift c.wd (.refl c.wd) (ih (bind_ne hb)) (fun c σ h => bind_exc' h) fun b σ₁ ρ₁ v s₁ e₁ a₁ _ r₁ => ?_)
      rw [bind_ok' e₁]
      subst r₁
      exact ⟨!v, σ₁, ρ₁, rfl, a₁, rfl⟩
    | _ => exact absurd rfl hb
  | .Lambda _ _ _ _ => by
    intro A lv sc env es ρ l σ s S c hw hb
    exact absurd rfl hb
  | .IfExp _ _ _ _ => by
    intro A lv sc env es ρ l σ s S c hw hb
    exact absurd rfl hb
  | .Dict _ _ _ => by
    intro A lv sc env es ρ l σ s S c hw hb
    exact absurd rfl hb
  | .Set _ _ _ => by
    intro A lv sc env es ρ l σ s S c hw hb
    exact absurd rfl hb
  | .ListComp _ _ _ _ => by
    intro A lv sc env es ρ l σ s S c hw hb
    exact absurd rfl hb
  | .SetComp _ _ _ _ => by
    intro A lv sc env es ρ l σ s S c hw hb
    exact absurd rfl hb
  | .DictComp _ _ _ _ _ => by
    intro A lv sc env es ρ l σ s S c hw hb
    exact absurd rfl hb
  | .GeneratorExp _ _ _ _ => by
    intro A lv sc env es ρ l σ s S c hw hb
    exact absurd rfl hb
  | .Await _ _ => by
    intro A lv sc env es ρ l σ s S c hw hb
    exact absurd rfl hb
  | .Yield _ _ => by
    intro A lv sc env es ρ l σ s S c hw hb
    exact absurd rfl hb
  | .YieldFrom _ _ => by
    intro A lv sc env es ρ l σ s S c hw hb
    exact absurd rfl hb
  | .Compare a [] _ _ => by
    intro A lv sc env es ρ l σ s S c hw hb
    simp only [evT_q0, evT_q1, evT_q2, evT_q3, evT_q4, evT_q5, ev_q0, ev_q1, ev_q2, ev_q3, ev_q4, ev_q5, ev_q6, ev_q7, ev_q8, ev_q9, ev_q10, ev_q11, ev_q12] at hb; exact absurd rfl hb
  | .Compare a [op] [] _ => by
    intro A lv sc env es ρ l σ s S c hw hb
    simp only [evT_q0, evT_q1, evT_q2, evT_q3, evT_q4, evT_q5, ev_q0, ev_q1, ev_q2, ev_q3, ev_q4, ev_q5, ev_q6, ev_q7, ev_q8, ev_q9, ev_q10, ev_q11, ev_q12] at hb; exact absurd rfl hb
  | .Compare a [op] (_ :: _ :: _) _ => by
    intro A lv sc env es ρ l σ s S c hw hb
    simp only [evT_q0, evT_q1, evT_q2, evT_q3, evT_q4, evT_q5, ev_q0, ev_q1, ev_q2, ev_q3, ev_q4, ev_q5, ev_q6, ev_q7, ev_q8, ev_q9, ev_q10, ev_q11, ev_q12] at hb; exact absurd rfl hb
  | .Compare a (_ :: _ :: _) _ _ => by
    intro A lv sc env es ρ l σ s S c hw hb
    simp only [evT_q0, evT_q1, evT_q2, evT_q3, evT_q4, evT_q5, ev_q0, ev_q1, ev_q2, ev_q3, ev_q4, ev_q5, ev_q6, ev_q7, ev_q8, ev_q9, ev_q10, ev_q11, ev_q12] at hb; exact absurd rfl hb
  | .Compare a [op] [b] pos => by
    intro A lv sc env es ρ l σ s S c hw hb
    have ha := evOk a
    have hbb := evOk b
    simp only [evT_q0, evT_q1, evT_q2, evT_q3, evT_q4, evT_q5, ev_q0, ev_q1, ev_q2, ev_q3, ev_q4, ev_q5, ev_q6, ev_q7, ev_q8, ev_q9, ev_q10, ev_q11, ev_q12] at hb ⊢
    cases hs : notSet b with
    | false => rw [hs] at hb; exact absurd rfl hb
    | true =>
    rw [hs] at hb
    simp only [cond_true] at hb ⊢
    have hb0 := bind_ne hb
    refine wpAny_isTrue_Compare1 (lift c.wd (.refl c.wd) (ha A lv sc env es ρ l σ s S c (bind_ne hb0)) (fun c σ h => bind_exc' (bind_exc' h)) fun x σ₁ ρ₁ v s₁ e₁ a₁ _ r₁ => ?_) (notSet_marks hs)
    rw [bind_ok' e₁] at hb hb0 ⊢
    refine lift c.wd a₁ (hbb A lv sc env es ρ₁ l σ₁ s₁ S (c.after a₁) (bind_ne hb0)) (fun c σ h => bind_exc' (bind_exc' h)) fun y σ₂ ρ₂ v' s₂ e₂ a₂ a₂' r₂ => ?_
    rw [bind_ok' e₂] at hb hb0 ⊢
    cases hc : cmpop op x y σ₂ with
    | bad => exact absurd hc hb0
    | exc c σ' => exact absurd hc (cmpop_nx c σ')
    | ok z σ₃ =>
    rw [hc] at hb
    refine wpAny_mono (cmpop_ok a₂.wd (a₂'.rep a₁.wd r₁) r₂ (by have := c.room.2; omega) hc) (fun v₃ s₃ hq => ?_) fun _ _ z => z
    obtain ⟨ρ₃, a₃', r₃⟩ := hq
    have a₃ := a₂.trans a₃'
    rw [bind_ok' rfl] at hb ⊢
    cases ht : truthO z σ₃ with
    | bad => exact absurd ht hb
    | exc c σ' => exact absurd ht (truthO_nx c σ')
    | ok b σ' =>
      refine wpAny_mono (truthO_ok a₃.wd r₃ ht) (fun b' s₃ hq => ?_) fun _ _ z => z
      obtain ⟨rfl, t, rfl, rfl⟩ := hq
      exact ⟨b', _, _, rfl, a₃.trans (After.tok a₃.wd t), rfl⟩
  | .Call f args ks pos => by
    intro A lv sc env es ρ l σ s S c hw hb
    simp only [evT_q0, evT_q1, evT_q2, evT_q3, evT_q4, evT_q5] at hb ⊢
    refine isTrue_plain (lift c.wd (.refl c.wd) (hw (bind_ne hb)) (fun c σ h => bind_exc' h) fun x σ₁ ρ₁ v s₁ e₁ a₁ _ r₁ => ?_)
    rw [bind_ok' e₁] at hb ⊢
    cases ht : truthO x σ₁ with
    | bad => exact absurd ht hb
    | exc c σ' => exact absurd ht (truthO_nx c σ')
    | ok b σ' =>
      refine wpAny_mono (truthO_ok a₁.wd r₁ ht) (fun b' s₃ hq => ?_) fun _ _ z => z
      obtain ⟨rfl, t, rfl, rfl⟩ := hq
      exact ⟨b', _, _, rfl, a₁.trans (After.tok a₁.wd t), rfl⟩
  | .FormattedValue _ _ _ _ => by
    intro A lv sc env es ρ l σ s S c hw hb
    exact absurd rfl hb
  | .JoinedStr _ _ => by
    intro A lv sc env es ρ l σ s S c hw hb
    exact absurd rfl hb
  | .Constant _ _ _ => by
    intro A lv sc env es ρ l σ s S c hw hb
    exact absurd rfl hb
  | .Attribute _ _ _ => by
    intro A lv sc env es ρ l σ s S c hw hb
    exact absurd rfl hb
  | .Subscript o i pos => by
    intro A lv sc env es ρ l σ s S c hw hb
    simp only [evT_q0, evT_q1, evT_q2, evT_q3, evT_q4, evT_q5] at hb ⊢
    refine isTrue_plain (lift c.wd (.refl c.wd) (hw (bind_ne hb)) (fun c σ h => bind_exc' h) fun x σ₁ ρ₁ v s₁ e₁ a₁ _ r₁ => ?_)
    rw [bind_ok' e₁] at hb ⊢
    cases ht : truthO x σ₁ with
    | bad => exact absurd ht hb
    | exc c σ' => exact absurd ht (truthO_nx c σ')
    | ok b σ' =>
      refine wpAny_mono (truthO_ok a₁.wd r₁ ht) (fun b' s₃ hq => ?_) fun _ _ z => z
      obtain ⟨rfl, t, rfl, rfl⟩ := hq
      exact ⟨b', _, _, rfl, a₁.trans (After.tok a₁.wd t), rfl⟩
  | .Starred _ _ => by
    intro A lv sc env es ρ l σ s S c hw hb
    exact absurd rfl hb
  | .Name x pos => by
    intro A lv sc env es ρ l σ s S c hw hb
    simp only [evT_q0, evT_q1, evT_q2, evT_q3, evT_q4, evT_q5] at hb ⊢
    refine isTrue_plain (lift c.wd (.refl c.wd) (hw (bind_ne hb)) (fun c σ h => bind_exc' h) fun x σ₁ ρ₁ v s₁ e₁ a₁ _ r₁ => ?_)
    rw [bind_ok' e₁] at hb ⊢
    cases ht : truthO x σ₁ with
    | bad => exact absurd ht hb
    | exc c σ' => exact absurd ht (truthO_nx c σ')
    | ok b σ' =>
      refine wpAny_mono (truthO_ok a₁.wd r₁ ht) (fun b' s₃ hq => ?_) fun _ _ z => z
      obtain ⟨rfl, t, rfl, rfl⟩ := hq
      exact ⟨b', _, _, rfl, a₁.trans (After.tok a₁.wd t), rfl⟩
  | .List _ _ => by
    intro A lv sc env es ρ l σ s S c hw hb
    exact absurd rfl hb
  | .Tuple _ _ _ => by
    intro A lv sc env es ρ l σ s S c hw hb
    exact absurd rfl hb
  | .Slice _ _ _ _ => by
    intro A lv sc env es ρ l σ s S c hw hb
    exact absurd rfl hb
theorem evTsOk (op : BoolOp) : ∀ (xs : List Expr) (A : Around) (lv : Nat) (sc : Scope) (env : Env) (es : List Env) (ρ : List Addr) (l : Loc) (σ : Sto) (s : Shared), ScOk sc env → Ct X n lv A env es ρ l σ s → evTs P cf lv sc op xs l σ ≠ .bad →
    wpAny (model prog w) A (allTrue op xs env) (OkB X ρ s (evTs P cf lv sc op xs l σ)) (ExV X lv ρ s (evTs P cf lv sc op xs l σ)) s
  | [] => by
    intro A lv sc env es ρ l σ s S c hb
    simp only [evTs_q0, evTs_q1]
    cases op
    · exact wpAny_pure ⟨true, σ, ρ, rfl, .refl c.wd, rfl⟩
    · exact wpAny_pure ⟨false, σ, ρ, rfl, .refl c.wd, rfl⟩
  | e :: r => by
    intro A lv sc env es ρ l σ s S c hb
    have ih := evTsOk op r
    simp only [evTs_q0, evTs_q1] at hb ⊢
    rw [allTrue_cons]
    refine wpAny_bind (lift c.wd (.refl c.wd) (evTOk e A lv sc env es ρ l σ s S c (evOk e A lv sc env es ρ l σ s S c) (bind_ne hb)) (fun c σ h => bind_exc' h) fun b σ₁ ρ₁ v s₁ e₁ a₁ _ r₁ => ?_)
    rw [bind_ok' e₁] at hb ⊢
    subst r₁
    cases op <;> cases v
    · exact wpAny_pure ⟨false, σ₁, ρ₁, rfl, a₁, rfl⟩
    · exact lift c.wd a₁ (ih A lv sc env es ρ₁ l σ₁ s₁ S (c.after a₁) hb) (fun c σ h => h) fun y σ₂ ρ₂ v' s₂ e₂ a₂ a₂' r₂ => ⟨y, σ₂, ρ₂, e₂, a₂, r₂⟩
    · exact lift c.wd a₁ (ih A lv sc env es ρ₁ l σ₁ s₁ S (c.after a₁) hb) (fun c σ h => h) fun y σ₂ ρ₂ v' s₂ e₂ a₂ a₂' r₂ => ⟨y, σ₂, ρ₂, e₂, a₂, r₂⟩
    · exact wpAny_pure ⟨true, σ₁, ρ₁, rfl, a₁, rfl⟩
end
end
end Mine

/- T1 -/
set_option tactic.hygienic false
/-! Mine: statements' ground. -/
namespace Mine
open PySem PySem.Spec PySem.Calls PyProof.Rows

theorem getL_setL (x y : Str) (a : AV) : ∀ (l : Loc), getL y (setL x a l) = bif x == y then some a else getL y l
  | [] => by simp only [setL, getL]
  | (z, b) :: r => by
    have ih := getL_setL x y a r
    simp only [setL]
    cases hz : z == x with
    | true =>
      have e := beq_iff_eq.mp hz
      subst e
      simp only [cond_true, getL]
      cases z == y <;> rfl
    | false =>
      simp only [cond_false, getL]
      rw [ih]
      cases hy : z == y with
      | false => rfl
      | true =>
        have e := beq_iff_eq.mp hy
        subst e
        have : (x == z) = false := by
          cases q : x == z with
          | false => rfl
          | true => have := beq_iff_eq.mp q; subst this; simp at hz
        rw [this]; rfl

/-- a function's own block -/
structure Sx (sc : Scope) (env : Env) : Prop where
  ok : ScOk sc env
  fn : ∀ x, isLoc sc x = true → env.kindOf x = some .local ∨ (env.kindOf x = some .cell ∧ ∃ c, env.cells.lookup x = some c)
  apart : env.cells.Pairwise fun x y => x.2 ≠ y.2
  frame : env.frame = some env.locals
  loc : ∀ x, isLocal sc x = true → env.kindOf x = some .local

noncomputable def FlowR (X : Cx) (ρ : List Addr) (h : Heap) : Flow → Fl → Prop
  | .next, .next => True
  | .ret v, .ret a => Rep X ρ h v a
  | _, _ => False

noncomputable def OkF (X : Cx) (env : Env) (ρ : List Addr) (s : Shared) (r : OutS) (f : Flow) (s' : Shared) : Prop := ∃ fl l' σ' ρ', r = .ok fl l' σ' ∧ Step X env ρ s ρ' σ' s' ∧ LocR X ρ' env s'.heap l' ∧ FlowR X ρ' s'.heap f fl
noncomputable def ExS (X : Cx) (env : Env) (lv : Nat) (ρ : List Addr) (s : Shared) (r : OutS) (e : Value) (s' : Shared) : Prop := ∃ c l' σ' ρ', r = .exc c l' σ' ∧ Step X env ρ s ρ' σ' s' ∧ LocR X ρ' env s'.heap l' ∧ Fly X lv s c e s'

theorem Step.refl {X : Cx} {env : Env} {ρ : List Addr} {σ : Sto} {s : Shared} (W : Wd X ρ σ s.heap) : Step X env ρ s ρ σ s := (After.refl W).step

theorem Ct.step {X : Cx} {n lv : Nat} {A : Around} {env : Env} {es : List Env} {ρ ρ' : List Addr} {l l' : Loc} {σ σ' : Sto} {s s' : Shared} (c : Ct X n lv A env es ρ l σ s) (x : Step X env ρ s ρ' σ' s') (r : LocR X ρ' env s'.heap l') : Ct X n lv A env es ρ' l' σ' s' := by
  obtain ⟨hv, rr, e1, e2, e3, e4⟩ := c.frame
  have so : SOk s.heap (own env ++ ρ) := c.loc.mut.app c.wd.sok
  refine ⟨x.wd, c.kind, c.glob, c.blt, r, fun b hb q => ?_, c.ownb, ⟨hv, rr, e1, e2, e3, e4.keep x.keep fun L hL => ?_⟩, fun L hL q => ?_, c.room, c.hand.keep x.keep so⟩
  · rcases x.new b q with z | z
    · exact c.ownr b hb z
    · obtain ⟨o, e⟩ := c.loc.there b hb; rw [z] at e; cases e
  · by_cases q : L ∈ own env
    · refine .inr ?_
      rcases List.mem_cons.mp q with rfl | q
      · obtain ⟨m, ⟨o', es, n, e, d, _⟩, _⟩ := r.ns
        exact ⟨o', es, n, e, d⟩
      · exfalso
        obtain ⟨v₀, o', e, d⟩ := c.loc.cell L q
        obtain ⟨ev, hev, qf⟩ := List.mem_filterMap.mp hL
        obtain ⟨_, L', o, ds, k, f1, _, f3, f4⟩ := e4 ev hev
        rw [qf] at f1; cases f1
        rw [e] at f3; cases f3; rw [d] at f4; cases f4
    · exact .inl fun z => (List.mem_append.mp z).elim q (c.offr L hL)
  · rcases x.new L q with z | z
    · exact c.offr L hL z
    · obtain ⟨o, e⟩ := e4.there L hL; rw [z] at e; cases e

theorem Step.own1 {X : Cx} {n lv : Nat} {A : Around} {env : Env} {es : List Env} {ρ : List Addr} {l : Loc} {σ : Sto} {s : Shared} {h' : Heap} {a : Addr} (c : Ct X n lv A env es ρ l σ s) (ha : a ∈ own env) (hs : Heap.SameBut a s.heap h') (ht : ∃ o, h'.get? a = some o) (t : Nat) : Step X env ρ s ρ σ { s with heap := h', toks := t } := by
  have k : Keep [a] s.heap h' := Keep.of_sameBut hs
  have so : SOk s.heap [a] := fun b hb o ho => c.loc.mut b (by rw [List.mem_singleton.mp hb]; exact ha) o ho
  refine ⟨.refl _, fun b hb => .inl hb, c.wd.step k so (fun b o e => ?_) (fun b hb => by rw [List.mem_singleton.mp hb]; exact c.ownr a ha), k.mono fun b hb => by rw [List.mem_singleton.mp hb]; exact List.mem_append_left _ ha, fun b _ o e => ?_, ⟨_, _, rfl⟩⟩
  · refine (hs.2 b fun q => ?_).trans (c.wd.stays b o e)
    rw [q, c.ownb a ha] at e; cases e
  · by_cases q : b = a
    · rw [q]; exact ht
    · exact ⟨o, (hs.2 b q).trans e⟩

theorem lookup_apart {l : List (Str × Addr)} (hp : l.Pairwise fun x y => x.2 ≠ y.2) {x y : Str} {c : Addr} (hx : l.lookup x = some c) (hy : l.lookup y = some c) : x = y := by
  have h1 := mem_of_lookup2 hx
  have h2 := mem_of_lookup2 hy
  induction l with
  | nil => cases h1
  | cons p r ih =>
    rw [List.pairwise_cons] at hp
    rcases List.mem_cons.mp h1 with e1 | e1 <;> rcases List.mem_cons.mp h2 with e2 | e2
    · rw [← e1] at e2; cases e2; rfl
    · exact absurd (by rw [← e1]) (hp.1 _ e2)
    · exact absurd (by rw [← e2]) (hp.1 _ e1)
    · rcases p with ⟨z, d⟩
      have hzx : (x == z) = false := by
        cases q : x == z with
        | false => rfl
        | true =>
          rw [List.lookup_cons, q] at hx
          cases hx
          exact absurd rfl (hp.1 (x, c) e1)
      have hzy : (y == z) = false := by
        cases q : y == z with
        | false => rfl
        | true =>
          rw [List.lookup_cons, q] at hy
          cases hy
          exact absurd rfl (hp.1 (x, c) e1)
      rw [List.lookup_cons, hzx] at hx
      rw [List.lookup_cons, hzy] at hy
      exact ih hp.2 hx hy e1 e2

section
variable {M : Model} {A : Around} {E : Value → Shared → Prop} {s : Shared} {X : Cx} {n lv : Nat} {env : Env} {es : List Env} {ρ : List Addr} {l : Loc} {σ : Sto} {sc : Scope}

theorem store_ok {x : Str} {v : Value} {a : AV} (S : Sx sc env) (c : Ct X n lv A env es ρ l σ s) (hx : isLoc sc x = true) (rv : Rep X ρ s.heap v a) {Q : Unit → Shared → Prop}
    (hQ : ∀ h' t, Step X env ρ s ρ σ { s with heap := h', toks := t } → LocR X ρ env h' (setL x a l) → Q () { s with heap := h', toks := t }) : wpAny M A (storeName env x v) Q E s := by
  have hp : (env.scope.kind == .class || (env.scope.kind == .module && env.locals != env.globals)) = false := by rw [c.kind]; rfl
  obtain ⟨m, hn, fm⟩ := c.loc.ns
  have hdict : ∀ cl ∈ env.cells.map (·.2), cl ≠ env.locals := fun cl hcl q => by
    obtain ⟨v₀, o', e, d⟩ := c.loc.cell cl hcl
    obtain ⟨o, es, ep, e', d', _⟩ := id hn
    rw [q, e'] at e; cases e; rw [d'] at d; cases d
  rcases S.fn x hx with k | ⟨k, cl, hc⟩
  · refine wpAny_storeName_local k hn (fun h' hn' hs => hQ h' _ (.own1 c (.head _) hs (let ⟨o, _, _, e, _⟩ := hn'; ⟨o, e⟩) _) ?_) hp
    have mv : ∀ {u b}, Rep X ρ s.heap u b → Rep X ρ h' u b := fun r => rep_ext hs.extBut (fun o e => Ns.mut hn e) r
    refine ⟨⟨_, hn', fun y b e h0 hy => ?_⟩, fun cl hcl => ?_, fun y b e hy => ?_⟩
    · rw [getL_setL] at e
      by_cases q : y = x
      · subst q
        simp only [beq_self_eq_true, cond_true, Option.some.injEq] at e
        subst e
        exact ⟨v, by simp, mv rv⟩
      · have : (x == y) = false := by simpa using Ne.symm q
        rw [this] at e
        obtain ⟨u, hu, r⟩ := fm y b e h0 hy
        exact ⟨u, by simp [q, hu], mv r⟩
    · obtain ⟨v₀, o', e, d⟩ := c.loc.cell cl hcl
      exact ⟨v₀, o', (hs.2 cl (hdict cl hcl)).trans e, d⟩
    · rw [getL_setL] at e
      have : (x == y) = false := by
        cases q : x == y with
        | false => rfl
        | true => have := beq_iff_eq.mp q; subst this; rw [k] at hy; rcases hy with hy | hy <;> cases hy
      rw [this] at e
      obtain ⟨cl, u, e1, ⟨o', e2, d⟩, r⟩ := c.loc.val y b e hy
      exact ⟨cl, u, e1, ⟨o', (hs.2 cl (hdict cl (List.mem_map.mpr ⟨_, mem_of_lookup2 e1, rfl⟩))).trans e2, d⟩, mv r⟩
  · have hm : cl ∈ env.cells.map (·.2) := List.mem_map.mpr ⟨_, mem_of_lookup2 hc, rfl⟩
    obtain ⟨v₀, hv₀⟩ := c.loc.cell cl hm
    refine wpAny_storeName_cell c.kind k hc hv₀ fun h' hc' hs => hQ h' s.toks (.own1 c (.tail _ hm) hs (let ⟨o, e, _⟩ := hc'; ⟨o, e⟩) _) ?_
    have mv : ∀ {u b}, Rep X ρ s.heap u b → Rep X ρ h' u b := fun r => rep_ext hs.extBut (fun o e => c.loc.mut cl (.tail _ hm) o e) r
    refine ⟨⟨m, hn.sameBut hs (Ne.symm (hdict cl hm)), fun y b e h0 hy => ?_⟩, fun cl' hcl' => ?_, fun y b e hy => ?_⟩
    · rw [getL_setL] at e
      have : (x == y) = false := by
        cases q : x == y with
        | false => rfl
        | true => have := beq_iff_eq.mp q; subst this; rw [k] at hy; cases hy
      rw [this] at e
      obtain ⟨u, hu, r⟩ := fm y b e h0 hy
      exact ⟨u, hu, mv r⟩
    · by_cases q : cl' = cl
      · rw [q]; exact ⟨_, hc'⟩
      · obtain ⟨v₀, o', e, d⟩ := c.loc.cell cl' hcl'
        exact ⟨v₀, o', (hs.2 cl' q).trans e, d⟩
    · rw [getL_setL] at e
      by_cases q : y = x
      · subst q
        simp only [beq_self_eq_true, cond_true, Option.some.injEq] at e
        subst e
        exact ⟨cl, v, hc, hc', mv rv⟩
      · have : (x == y) = false := by simpa using Ne.symm q
        rw [this] at e
        obtain ⟨cl', u, e1, ⟨o', e2, d⟩, r⟩ := c.loc.val y b e hy
        exact ⟨cl', u, e1, ⟨o', (hs.2 cl' fun z => q (lookup_apart S.apart e1 (z ▸ hc))).trans e2, d⟩, mv r⟩
end
end Mine

/- T2 -/
set_option tactic.hygienic false
/-! Mine: raise. -/
namespace Mine
open PySem PySem.Spec PySem.Calls PyProof.Rows

theorem Turn.same {X : Cx} {s₀ : Shared} {h h' : Heap} {a C : Addr} {o o' : Obj} {vs vs' : Array Value} (hs : Heap.SameBut a h h') (ho : h.get? a = some o) (hc : o.cls = .ref C) (hd : o.data = .fields vs) (ho' : h'.get? a = some o') (hc' : o'.cls = .ref C) (hd' : o'.data = .fields vs') (hn : s₀.heap.get? a = none) : Turn X s₀ h h' := by
  refine ⟨[a], Keep.of_sameBut hs, fun b hb o'' e => ?_, fun b hb => by rw [List.mem_singleton.mp hb]; exact hn, fun b hb o'' e => ?_, fun z1 z2 b o'' e => ?_⟩
  · rw [List.mem_singleton.mp hb] at e ⊢
    rw [ho] at e; cases e
    exact .inr ⟨C, vs, o', vs', hc, hd, ho', hc', hd'⟩
  · rw [List.mem_singleton.mp hb, ho] at e; cases e; exact ⟨vs, hd⟩
  · refine (hs.2 b fun q => ?_).trans (z2 b o'' e)
    have := z1 b o'' e
    rw [q, hn] at this; cases this

section
variable {M : Model} {A : Around} {E : Value → Shared → Prop} {s : Shared} {env : Env}
variable {nm q : Str} {C N : Addr} {bs bm : List Value} {hdct : Bool} {sn : List Str} {sub : List Value} {ab : Bool} {col : Option Bool} {dd : Option Addr} {k0 k1 k2 k3 k5 : Option Value} {newId : String}

theorem raiseStmt_made {x : Sem Value} {Q : Flow → Shared → Prop} (hbase : bm.contains (.type "BaseException") = true)
    (h : wpAny M A x (fun v s₁ => ∃ e t, v = .ref e ∧ s₁.heap.get? C = some (excClassObj nm q C N bs bm hdct sn sub ab col dd k0 k1 k2 k3 k5 newId) ∧
      s₁.heap.get? e = some { cls := .ref C, data := .fields #[.ref t, .none, .none, .none, .bool false, .none] } ∧ wpAny M A (raiseNew (.ref e) : Sem Flow) Q E s₁) E s) :
    wpAny M A (raiseStmt env (some x) none) Q E s := by
  have hcB : (Value.ref C :: bm).contains (.type "BaseException") = true := by rw [List.contains_cons, hbase, Bool.or_true]
  unfold raiseStmt
  refine wpAny_bind (wpAny_mono h (fun v s₁ h₁ => ?_) fun _ _ x => x)
  obtain ⟨e, t, rfl, hC, he, hE⟩ := h₁
  obtain ⟨hp, g, d, tk, os⟩ := s₁
  repeat (first | with_reducible refine wpAny_loadPart_at he ?_ | with_reducible refine wpAny_loadPart_at hC ?_ | (with_reducible refine wpAny_isSubtype_exc hC ?_; rw [hcB]) | wp_step)
  exact hE
end

section
variable {prog : Program} {w : World} {A : Around} {s : Shared} {X : Cx} {P : Prog} {mg mb : Str → Option Value} {n lv : Nat} {env : Env} {es : List Env} {ρ : List Addr} {l : Loc} {σ : Sto} {sc : Scope}

theorem raise_ok {c : Str} {x : Str} {k : Nat} {np cp cpos pos : Pos} (G : Gd prog w X P mg mb) (S : Sx sc env) (ct : Ct X n lv A env es ρ l σ s) (hg : isGlob sc c = true) (hc : P.cls c = true) (hl : lv ≤ 1) :
    wpAny (model prog w) A (exec (.Raise (some (.Call (.Name c np) [.Constant (.str x) k cp] [] cpos)) none pos) env) (OkF X env ρ s (.exc c l σ)) (ExS X env lv ρ s (.exc c l σ)) s := by
  obtain ⟨C, newId, bmB, Bn, inN, bmN, B, nid, initId, tv, O, Fn, hBn, F⟩ := G.cls c hc
  obtain ⟨bm, N, nm, q, bs, hdct, sn, sub, ab, col, dd, k0, k1, k2, k3, k5, mN, hC, hN, hni, T⟩ := O.obj
  rw [arm_exec_Raise]
  refine wpAny_bind (wpAny_standAt (raiseStmt_made (C := C) (nm := nm) (q := q) (N := N) (bs := bs) (bm := bm) (hdct := hdct) (sn := sn) (sub := sub) (ab := ab) (col := col) (dd := dd) (k0 := k0) (k1 := k1) (k2 := k2) (k3 := k3) (k5 := k5) (newId := newId) (T.hasType F.hasBase) ?_))
  refine wpAny_bind ?_
  refine wpAny_mono (Q := fun v s₁ => ∃ e t, v = .ref e ∧ s₁.heap.get? C = some (excClassObj nm q C N bs bm hdct sn sub ab col dd k0 k1 k2 k3 k5 newId) ∧
      s₁.heap.get? e = some { cls := .ref C, data := .fields #[.ref t, .none, .none, .none, .bool false, .none] } ∧ wpAny (model prog w) A (raiseNew (.ref e) : Sem Flow) (OkF X env ρ s (.exc c l σ)) (ExS X env lv ρ s (.exc c l σ)) s₁) ?_ (fun v s₃ h₃ => wpAny_bind (wpAny_standAt (wpAny_pure h₃))) fun _ _ z => z
  show wpAny _ A (eval (.Call (.Name c np) [.Constant (.str x) k cp] [] cpos) env) _ _ s
  refine wpAny_Call_Name_kw (glob_name G S.ok ct hg (.inl O.bound) ?_)
  unfold callWith
  refine wpAny_bind (wpAny_holding (evalArgs_plain (spliced_cons (wpAny_Constant_str (k := k) (pos := cp) (spliced_nil ?_)))))
  refine wpAny_bind (wpAny_standAt ?_)
  have W₁ : Wd X ρ σ ({ s with toks := s.toks + 1 } : Shared).heap := ct.wd
  have st := ct.wd.stays
  have hC₁ := st _ _ hC
  refine wpAny_bind (wpAny_keeperOf_exc hC₁ ?_)
  show wpAny _ A (call (.ref C) [.str x s.toks] >>= fun r => holding [r] point >>= fun _ => pure r) _ _ _
  refine wpAny_bind (wpAny_call_exc_subU (h := s.heap) Fn hBn F (T.keeps st) hC₁ (hN.keeps st) hni (fun h' e hm => wpAny_bind (wpAny_holding (wpAny_point (wpAny_pure ?_)))))
  obtain ⟨t, ht, _, _⟩ := hm.there
  refine ⟨e, t, rfl, hm.keeps _ _ hC₁, ht, ?_⟩
  have af : After X ρ s ρ σ { s with heap := h', toks := s.toks + 1 } := After.grow ct.wd hm.keeps _
  have c₁ := ct.after af
  refine raiseNew_hand (s := { s with heap := h', toks := s.toks + 1 }) hl c₁.hand (Hand.ne hl ct.hand hm.new) ht rfl (by simp) fun h₂ o' vs' hs hg hc' hd' hz hk h0 => ?_
  have tn : Turn X s h' h₂ := Turn.same hs ht rfl rfl hg hc' hd' hm.new
  have af₂ : After X ρ s ρ σ { s with heap := h₂, toks := s.toks + 1 } := After.turn (s' := { s with heap := h', toks := s.toks + 1 }) ct.wd af tn _
  refine ⟨c, l, σ, ρ, rfl, af₂.step, (ct.after af₂).loc, e, o', C, vs', rfl, hm.new, hg, hc', tv, hd', by rw [hz]; simp, fun z => ?_, .inl ⟨trivial, ?_⟩⟩
  · rw [h0 z]; rfl
  · rw [hk 1 (by decide)]; rfl
end
end Mine

/- T3 -/
set_option tactic.hygienic false
/-! Mine: loops. -/
namespace Mine
open PySem PySem.Spec PySem.Calls PyProof.Rows

theorem LocR.keepS {X : Cx} {ρ ρ' : List Addr} {env : Env} {h h' : Heap} {l : Loc} {S : List Addr} (r : LocR X ρ env h l) (hk : Keep S h h') (hs : Sane h h' S) (hr : Ext ρ ρ') (hn : ∀ b ∈ own env, b ∉ S) : LocR X ρ' env h' l := by
  refine ⟨?_, fun c hc => ?_, fun x a e k => ?_⟩
  · obtain ⟨m, n, f⟩ := r.ns
    refine ⟨m, Ns.keep hk (hn _ (.head _)) n, fun x a e z k => ?_⟩
    obtain ⟨v, hv, q⟩ := f x a e z k
    exact ⟨v, hv, q.monoS hk hs hr⟩
  · obtain ⟨v₀, q⟩ := r.cell c hc
    exact ⟨v₀, IsCell.keep hk (hn c (.tail _ hc)) q⟩
  · obtain ⟨c, v, hc, q, z⟩ := r.val x a e k
    exact ⟨c, v, hc, IsCell.keep hk (hn c (LocR.cellMem hc)) q, z.monoS hk hs hr⟩
theorem LocR.norec {X : Cx} {ρ : List Addr} {env : Env} {h : Heap} {l : Loc} (r : LocR X ρ env h l) {b : Addr} {o : Obj} {fs : Array Value} (e : h.get? b = some o) (d : o.data = .fields fs) : b ∉ own env := fun q => by
  rcases List.mem_cons.mp q with rfl | q
  · obtain ⟨m, ⟨o', es, n, e', d', _⟩, _⟩ := r.ns
    rw [e] at e'; cases e'; rw [d] at d'; cases d'
  · obtain ⟨v₀, o', e', d'⟩ := r.cell b q
    rw [e] at e'; cases e'; rw [d] at d'; cases d'
theorem LocR.turn {X : Cx} {ρ : List Addr} {env : Env} {s₀ : Shared} {h h' : Heap} {l : Loc} (r : LocR X ρ env h l) (t : Turn X s₀ h h') : LocR X ρ env h' l := by
  obtain ⟨N, k, sn, nw, fl, st⟩ := t
  refine r.keepS (S := N) k sn (.refl _) fun b hb q => ?_
  obtain ⟨o, e⟩ := r.there b hb
  obtain ⟨fs, d⟩ := fl b q o e
  exact r.norec e d hb

theorem Step.off1 {X : Cx} {env : Env} {ρ ρ' : List Addr} {σ' : Sto} {s s' : Shared} {h : Heap} {a : Addr} (x : Step X env ρ s ρ' σ' s') (hb : X.base.StaysIn s.heap) (hk : Heap.ExtBut a s'.heap h) (hm : ∀ o, s'.heap.get? a = some o → MutO o) (hn : s.heap.get? a = none) (hd : a ∉ ρ') (t : Nat) :
    Step X env ρ s ρ' σ' { s' with heap := h, toks := t } := by
  refine x.off (N := [a]) (fun b o e n => ⟨o.slots, hk b o (fun q => n (by simp [q])) e, fun _ => rfl⟩) (SOk.sane (fun b hb' o ho => hm o (by rw [← List.mem_singleton.mp hb']; exact ho)) _) (fun b hb' => by rw [List.mem_singleton.mp hb']; exact hn)
    (fun b hb' => by rw [List.mem_singleton.mp hb']; exact hd) (fun b o e => hk b o (fun q => ?_) (x.wd.stays b o e)) t
  have := hb b o e
  rw [q, hn] at this; cases this
theorem LocR.off1 {X : Cx} {ρ : List Addr} {env : Env} {h h' : Heap} {l : Loc} {a : Addr} (r : LocR X ρ env h l) (hk : Heap.ExtBut a h h') (hm : ∀ o, h.get? a = some o → MutO o) (ha : a ∉ own env) : LocR X ρ env h' l :=
  r.keep (S := [a]) (fun b o e n => ⟨o.slots, hk b o (fun q => n (by simp [q])) e, fun _ => rfl⟩) (fun b hb o ho => hm o (by rw [← List.mem_singleton.mp hb]; exact ho)) (.refl _) fun b hb q => ha (by rw [← List.mem_singleton.mp q]; exact hb)
theorem Step.notin {X : Cx} {env : Env} {ρ ρ' : List Addr} {σ' : Sto} {s s' : Shared} (x : Step X env ρ s ρ' σ' s') {a : Addr} {o : Obj} (h : a ∉ ρ) (e : s.heap.get? a = some o) : a ∉ ρ' := fun q =>
  (x.new a q).elim h fun z => by rw [z] at e; cases e

/-- what is left of a for ends so -/
inductive FrRun (B : AV → Loc → Sto → OutS) (src : Src) (res : OutS) : Nat → Nat → Loc → Sto → Prop
  | done {m i : Nat} {l : Loc} {σ : Sto} : srcIs σ src → srcAt σ i src = none → res = .ok .next l σ → FrRun B src res m i l σ
  | next {m i : Nat} {l l' : Loc} {σ σ' : Sto} {v : AV} : srcIs σ src → srcAt σ i src = some v → B v l σ = .ok .next l' σ' → FrRun B src res m (i + 1) l' σ' → FrRun B src res (m + 1) i l σ
  | stop {m i : Nat} {l : Loc} {σ : Sto} {v : AV} : srcIs σ src → srcAt σ i src = some v → B v l σ = res → res ≠ .bad → (∀ l' σ', res ≠ .ok .next l' σ') → FrRun B src res m i l σ
theorem FrRun.is {B : AV → Loc → Sto → OutS} {src : Src} {res : OutS} {m i : Nat} {l : Loc} {σ : Sto} (r : FrRun B src res m i l σ) : srcIs σ src := by
  cases r <;> assumption
theorem forItems_run {B : AV → Loc → Sto → OutS} {ys : List AV} {res : OutS} (hb : res ≠ .bad) : ∀ (m i : Nat) (l : Loc) (σ : Sto), ys.length = i + m → forItems B (ys.drop i) l σ = res → FrRun B (.items ys) res m i l σ
  | 0, i, l, σ, hl, e => by
    rw [List.drop_eq_nil_of_le (by omega)] at e
    simp only [forItems] at e
    exact .done trivial (List.getElem?_eq_none (by omega)) e.symm
  | m + 1, i, l, σ, hl, e => by
    have hi : i < ys.length := by omega
    rw [List.drop_eq_getElem_cons hi] at e
    simp only [forItems] at e
    have ha : srcAt σ i (.items ys) = some ys[i] := List.getElem?_eq_getElem hi
    cases hB : B ys[i] l σ with
    | bad => rw [hB] at e; exact absurd e.symm hb
    | exc c l' σ' =>
      rw [hB] at e
      exact .stop trivial ha (hB.trans e) hb (by rw [← e]; intro _ _ q; cases q)
    | ok f l' σ' =>
      cases f with
      | ret v =>
        rw [hB] at e
        exact .stop trivial ha (hB.trans e) hb (by rw [← e]; intro _ _ q; cases q)
      | next =>
        rw [hB] at e
        exact .next trivial ha hB (forItems_run hb m (i + 1) l' σ' (by omega) e)
theorem forLst_run {B : AV → Loc → Sto → OutS} {n : Nat} {res : OutS} (hb : res ≠ .bad) : ∀ (m i : Nat) (l : Loc) (σ : Sto), forLst B n m i l σ = res → FrRun B (.lst n) res m i l σ
  | 0, i, l, σ, e => by simp only [forLst] at e; exact absurd e.symm hb
  | m + 1, i, l, σ, e => by
    simp only [forLst] at e
    cases hn : σ[n]? with
    | none => rw [hn] at e; exact absurd e.symm hb
    | some o =>
      cases o with
      | dict es => rw [hn] at e; exact absurd e.symm hb
      | list ys =>
        rw [hn] at e
        have hl : listOf? σ (.ref n) = some ys := by simp only [listOf?]; rw [hn]
        have hs : srcIs σ (.lst n) := ⟨ys, hl⟩
        have ha : srcAt σ i (.lst n) = ys[i]? := by simp only [srcAt]; rw [hl]; rfl
        simp only at e
        cases hi : ys[i]? with
        | none =>
          rw [hi] at e
          exact .done hs (ha.trans hi) e.symm
        | some v =>
          rw [hi] at e
          simp only at e
          cases hB : B v l σ with
          | bad => rw [hB] at e; exact absurd e.symm hb
          | exc c l' σ' =>
            rw [hB] at e
            exact .stop hs (ha.trans hi) (hB.trans e) hb (by rw [← e]; intro _ _ q; cases q)
          | ok f l' σ' =>
            cases f with
            | ret v =>
              rw [hB] at e
              exact .stop hs (ha.trans hi) (hB.trans e) hb (by rw [← e]; intro _ _ q; cases q)
            | next =>
              rw [hB] at e
              exact .next hs (ha.trans hi) hB (forLst_run hb m (i + 1) l' σ' e)
theorem forSrc_run {lv : Nat} {B : AV → Loc → Sto → OutS} {src : Src} {l : Loc} {σ : Sto} (hb : forSrc lv B src l σ ≠ .bad) : lv ≤ 1 ∧ ∃ m, FrRun B src (forSrc lv B src l σ) m 0 l σ := by
  generalize hr : forSrc lv B src l σ = res at hb
  have e := hr
  unfold forSrc at e
  cases hl : Nat.ble lv 1 with
  | false => rw [hl] at e; exact absurd e.symm hb
  | true =>
    rw [hl] at e
    simp only [cond_true] at e
    refine ⟨Nat.le_of_ble_eq_true hl, ?_⟩
    split at e
    · exact ⟨_, forItems_run hb _ 0 l σ (Nat.zero_add _).symm (by simpa using e)⟩
    · split at e
      · exact ⟨_, forLst_run hb _ 0 l σ e⟩
      · exact absurd e.symm hb

inductive WhRun (T : Loc → Sto → Out Bool) (B : Loc → Sto → OutS) (l₂ : Loc) (σ₂ : Sto) : Nat → Loc → Sto → Prop
  | done {m : Nat} {σ : Sto} : T l₂ σ = .ok false σ₂ → WhRun T B l₂ σ₂ m l₂ σ
  | next {m : Nat} {l l' : Loc} {σ σ₁ σ' : Sto} : T l σ = .ok true σ₁ → B l σ₁ = .ok .next l' σ' → WhRun T B l₂ σ₂ m l' σ' → WhRun T B l₂ σ₂ (m + 1) l σ
theorem whileG_run {T : Loc → Sto → Out Bool} {B : Loc → Sto → OutS} : ∀ (f : Nat) (l : Loc) (σ : Sto), whileG T B f l σ ≠ .bad → ∃ l₂ σ₂, whileG T B f l σ = .ok .next l₂ σ₂ ∧ WhRun T B l₂ σ₂ f l σ
  | 0, l, σ, hb => by simp only [whileG] at hb; exact absurd rfl hb
  | f + 1, l, σ, hb => by
    simp only [whileG] at hb ⊢
    cases hT : T l σ with
    | bad => rw [hT] at hb; exact absurd rfl hb
    | exc c σ' => rw [hT] at hb; exact absurd rfl hb
    | ok b σ₁ =>
      rw [hT] at hb
      cases b with
      | false => exact ⟨l, σ₁, rfl, .done hT⟩
      | true =>
        simp only [cond_true] at hb ⊢
        cases hB : B l σ₁ with
        | bad => rw [hB] at hb; exact absurd rfl hb
        | exc c l' σ' => rw [hB] at hb; exact absurd rfl hb
        | ok fl l' σ' =>
          cases fl with
          | ret v => rw [hB] at hb; exact absurd rfl hb
          | next =>
            rw [hB] at hb
            obtain ⟨l₂, σ₂, e1, e2⟩ := whileG_run f l' σ' hb
            exact ⟨l₂, σ₂, e1, .next hT hB e2⟩

section
variable {prog : Program} {w : World} {A : Around} {s : Shared} {X : Cx} {P : Prog} {n lv : Nat} {env : Env} {es : List Env} {ρ : List Addr} {l : Loc} {σ : Sto} {sc : Scope} {cf : Calls}

theorem while_ok {t : Expr} {b : List Stmt} {pos : Pos} {T : Loc → Sto → Out Bool} {B : Loc → Sto → OutS} {f : Nat} (S : Sx sc env) (c : Ct X n lv A env es ρ l σ s)
    (hT : ∀ ρ' l' σ' s', Ct X n lv A env es ρ' l' σ' s' → T l' σ' ≠ .bad → wpAny (model prog w) A (isTrue t env (eval t env)) (OkB X ρ' s' (T l' σ')) (ExV X lv ρ' s' (T l' σ')) s')
    (hB : ∀ ρ' l' σ' s', Ct X n lv A env es ρ' l' σ' s' → B l' σ' ≠ .bad → wpAny (model prog w) A (execs b env) (OkF X env ρ' s' (B l' σ')) (ExS X env lv ρ' s' (B l' σ')) s')
    (hb : whileG T B f l σ ≠ .bad) : wpAny (model prog w) A (exec (.While t b [] pos) env) (OkF X env ρ s (whileG T B f l σ)) (ExS X env lv ρ s (whileG T B f l σ)) s := by
  obtain ⟨l₂, σ₂, e, run⟩ := whileG_run f l σ hb
  rw [e]
  refine wpAny_While (codeAny_whileLoop (fun m s' => ∃ l' σ' ρ', WhRun T B l₂ σ₂ m l' σ' ∧ Step X env ρ s ρ' σ' s' ∧ LocR X ρ' env s'.heap l') ?_ f ⟨l, σ, ρ, run, .refl c.wd, c.loc⟩)
  rintro m s' ⟨l', σ', ρ', run, st, lr⟩
  have c' := c.step st lr
  cases run with
  | done h =>
    refine wpAny_mono (hT ρ' _ σ' s' c' (by rw [h]; intro q; cases q)) (fun bv s₂ hq => ?_) fun x s₂ hq => ?_
    · obtain ⟨b', σ₃, ρ₃, e3, af, rfl⟩ := hq
      rw [h] at e3; cases e3
      rw [if_neg (by simp)]
      exact wpAny_execs_nil ⟨.next, _, σ₂, ρ₃, rfl, st.trans af.step, (c'.after af).loc, trivial⟩
    · obtain ⟨c, σ', ρ', e1, _⟩ := hq; rw [h] at e1; cases e1
  | next h h' r =>
    refine wpAny_mono (hT ρ' _ σ' s' c' (by rw [h]; intro q; cases q)) (fun bv s₂ hq => ?_) fun x s₂ hq => ?_
    · obtain ⟨b', σ₃, ρ₃, e3, af, rfl⟩ := hq
      rw [h] at e3; cases e3
      rw [if_pos rfl]
      have c₂ := c'.after af
      refine wpAny_mono (hB ρ₃ l' _ s₂ c₂ (by rw [h']; intro q; cases q)) (fun fl s₃ hq => ?_) fun x s₃ hq => ?_
      · obtain ⟨f', l₃, σ₄, ρ₄, e4, st₄, lr₄, hf⟩ := hq
        rw [h'] at e4; cases e4
        cases fl with
        | next => exact ⟨_, Nat.lt_succ_self _, _, _, ρ₄, r, (st.trans af.step).trans st₄, lr₄⟩
        | _ => exact hf.elim
      · obtain ⟨c, l', σ', ρ', e1, _⟩ := hq; rw [h'] at e1; cases e1
    · obtain ⟨c, σ', ρ', e1, _⟩ := hq; rw [h] at e1; cases e1
end
end Mine

/- T4 -/
set_option tactic.hygienic false
/-! Mine: for. -/
namespace Mine
open PySem PySem.Spec PySem.Calls PyProof.Rows

/-- the state between two turns of a for -/
structure FLp (X : Cx) (env : Env) (ρ : List Addr) (s : Shared) (I : Addr) (src : Src) (i : Nat) (l' : Loc) (ρ' : List Addr) (σ' : Sto) (s' : Shared) : Prop where
  st : Step X env ρ s ρ' σ' s'
  loc : LocR X ρ' env s'.heap l'
  it : It X ρ' s'.heap I i src
  off : I ∉ ρ'
  offo : I ∉ own env

theorem FLp.step {X : Cx} {env : Env} {ρ : List Addr} {s : Shared} {I : Addr} {src : Src} {i : Nat} {l' l'' : Loc} {ρ' ρ'' : List Addr} {σ' σ'' : Sto} {s' s'' : Shared} (L : FLp X env ρ s I src i l' ρ' σ' s') (x : Step X env ρ' s' ρ'' σ'' s'') (r : LocR X ρ'' env s''.heap l'') : FLp X env ρ s I src i l'' ρ'' σ'' s'' := by
  obtain ⟨oI, fs, eI, dI, _⟩ := L.it.rec'
  refine ⟨L.st.trans x, r, L.it.at x.ext fun o e => x.keep.exact e (fun q => (List.mem_append.mp q).elim L.offo L.off) fun es n q => ?_, x.notin L.off eI, L.offo⟩
  rw [eI] at e; cases e; rw [dI] at q; cases q

theorem Fly.step {X : Cx} {env : Env} {lv : Nat} {ρ ρ' : List Addr} {σ' : Sto} {s₀ s s' : Shared} {c : Str} {e : Value} (x : Step X env ρ s₀ ρ' σ' s) (f : Fly X lv s c e s') : Fly X lv s₀ c e s' := f.lift' fun _ h => x.gone h

section
variable {prog : Program} {w : World} {A : Around} {s : Shared} {X : Cx} {n lv : Nat} {env : Env} {es : List Env} {ρ : List Addr} {l : Loc} {σ : Sto} {sc : Scope}

/-- an exception out of a loop's turn -/
theorem exc_out {A' : Around} {ρ' : List Addr} {l' : Loc} {σ' : Sto} {s' : Shared} {c : Str} {e : Value} {R : OutS} (S : Sx sc env) (ct : Ct X n lv A env es ρ l σ s) (c' : Ct X n lv A env es ρ' l' σ' s') (st : Step X env ρ s ρ' σ' s') (fl : Fly X lv s c e s') (hR : R = .exc c l' σ') (hA : A'.frames = A.frames) :
    notedBy (model prog w) A' env (cameBackBy (model prog w) A env (ExS X env lv ρ s R)) e s' := by
  obtain ⟨hv, r, e1, e2, e3, e4⟩ := c'.frame
  subst e1
  refine cameBack_ok (hA.trans e3) e2 e4 S.frame (fun b h => st.gone h) fl fun h' f t => ?_
  exact ⟨c, l', σ', ρ', hR, Step.turn ct.wd st t s'.toks, c'.loc.turn t, f.weak⟩

theorem for_ok {it : Expr} {x : Str} {px pos : Pos} {b : List Stmt} {B : Loc → Sto → OutS} {r : Out Src} (S : Sx sc env) (c : Ct X n lv A env es ρ l σ s) (hx : isLoc sc x = true) (hfold : ∀ x, foldedSetIterable it env x = pure x)
    (hsrc : wpAny (model prog w) A (eval it env) (OkS X ρ s r) (ExV X lv ρ s r) s) (hsi : ∀ src σ', r = .ok src σ' → srcIs σ' src)
    (hB : ∀ ρ' l' σ' s', Ct X n lv A env es ρ' l' σ' s' → B l' σ' ≠ .bad → wpAny (model prog w) A (execs b env) (OkF X env ρ' s' (B l' σ')) (ExS X env lv ρ' s' (B l' σ')) s')
    (hb : (r.inS l fun src σ => forSrc lv (fun v l σ => B (setL x v l) σ) src l σ) ≠ .bad) :
    wpAny (model prog w) A (exec (.For (.Name x px) it b [] pos) env) (OkF X env ρ s (r.inS l fun src σ => forSrc lv (fun v l σ => B (setL x v l) σ) src l σ)) (ExS X env lv ρ s (r.inS l fun src σ => forSrc lv (fun v l σ => B (setL x v l) σ) src l σ)) s := by
  refine wpAny_For ?_ hfold
  have hne : r ≠ .bad := fun q => hb (by rw [q]; rfl)
  refine wpAny_mono hsrc (fun v s₁ hq => ?_) fun e s₁ hq => ?_
  · obtain ⟨src, σ₁, ρ₁, rfl, a₁, sv⟩ := hq
    have hsi₁ := hsi src σ₁ rfl
    have e0 : ((Out.ok src σ₁).inS l fun src σ => forSrc lv (fun v l σ => B (setL x v l) σ) src l σ) = forSrc lv (fun v l σ => B (setL x v l) σ) src l σ₁ := rfl
    rw [e0] at hb ⊢
    have c₁ := c.after a₁
    obtain ⟨hl, m0, run⟩ := forSrc_run hb
    generalize forSrc lv (fun v l σ => B (setL x v l) σ) src l σ₁ = res at run hb
    refine iter_ok a₁.wd sv hsi₁ fun h' st it0 => ?_
    obtain ⟨oI, fsI, eI, dI, _⟩ := it0.rec'
    have nI : s₁.heap.get? s₁.heap.objs.size = none := size_none _
    have a₂ : After X ρ s ρ₁ σ₁ { s₁ with heap := h' } := a₁.trans (After.grow a₁.wd st s₁.toks)
    have c₂ := c.after a₂
    have L0 : FLp X env ρ s s₁.heap.objs.size src 0 l ρ₁ σ₁ { s₁ with heap := h' } :=
      ⟨a₂.step, c₂.loc, it0, c₂.wd.record eI dI, c₂.loc.norec eI dI⟩
    have fI := a₁.gone nI
    refine codeAny_forLoop (fun m s' => ∃ i l' ρ' σ', FrRun (fun v l σ => B (setL x v l) σ) src res m i l' σ' ∧ FLp X env ρ s s₁.heap.objs.size src i l' ρ' σ' s') ?_ m0 ⟨0, l, ρ₁, σ₁, run, L0⟩
    rintro m s' ⟨i, l', ρ', σ', run, L⟩
    have c' := c.step L.st L.loc
    refine It.next c'.wd hl c'.hand L.it run.is (fun hn h' hx => ?_) fun a ha h' tk v hx' it' rv => ?_
    · cases run with
      | done _ _ hr =>
        exact wpAny_execs_nil ⟨.next, l', σ', ρ', hr, L.st.off1 c.wd.stays hx (fun o e => L.it.mut e) fI L.off s'.toks, L.loc.off1 hx (fun o e => L.it.mut e) L.offo, trivial⟩
      | next _ h _ _ => rw [hn] at h; cases h
      | stop _ h _ _ _ => rw [hn] at h; cases h
    · have hm : ∀ o, s'.heap.get? s₁.heap.objs.size = some o → MutO o := fun o e => L.it.mut e
      have st₁ : Step X env ρ s ρ' σ' { s' with heap := h', toks := tk } := L.st.off1 c.wd.stays hx' hm fI L.off tk
      have lr₁ := L.loc.off1 hx' hm L.offo
      have c₁ := c.step st₁ lr₁
      have L₁ : FLp X env ρ s s₁.heap.objs.size src (i + 1) l' ρ' σ' { s' with heap := h', toks := tk } := ⟨st₁, lr₁, it', L.off, L.offo⟩
      refine wpAny_assign_Name (store_ok S c₁ hx (rep_ext hx' hm rv) fun h₂ t₂ st₂ lr₂ => ?_)
      have L₂ := L₁.step st₂ lr₂
      have c₂ := c.step L₂.st L₂.loc
      have hne : B (setL x a l') σ' ≠ .bad := by
        cases run with
        | done _ h _ => rw [ha] at h; cases h
        | next _ h hB _ => rw [ha] at h; cases h; rw [hB]; intro q; cases q
        | stop _ h hB hbd _ => rw [ha] at h; cases h; rw [hB]; exact hbd
      refine wpAny_mono (hB ρ' (setL x a l') σ' _ c₂ hne) (fun f s₃ hq => ?_) fun e s₃ hq => ?_
      · obtain ⟨fl, l₃, σ₃, ρ₃, e3, st₃, lr₃, hf⟩ := hq
        have L₃ := L₂.step st₃ lr₃
        cases run with
        | done _ h _ => rw [ha] at h; cases h
        | next _ h hB' r' =>
          rw [ha] at h; cases h
          rw [hB'] at e3; cases e3
          cases f with
          | next => exact ⟨_, Nat.lt_succ_self _, i + 1, _, ρ₃, _, r', L₃⟩
          | _ => exact hf.elim
        | stop _ h hB' _ hnn =>
          rw [ha] at h; cases h
          have e4 : res = .ok fl l₃ σ₃ := hB'.symm.trans e3
          cases f with
          | ret v =>
            cases fl with
            | ret a => exact ⟨.ret a, l₃, σ₃, ρ₃, e4, L₃.st, L₃.loc, hf⟩
            | next => exact hf.elim
          | next =>
            cases fl with
            | next => exact absurd e4 (hnn _ _)
            | ret a => exact hf.elim
          | _ => exact hf.elim
      · obtain ⟨cc, l₃, σ₃, ρ₃, e3, st₃, lr₃, fl⟩ := hq
        have L₃ := L₂.step st₃ lr₃
        have c₃ := c.step L₃.st L₃.loc
        have hR : res = .exc cc l₃ σ₃ := by
          cases run with
          | done _ h _ => rw [ha] at h; cases h
          | next _ h hB' _ => rw [ha] at h; cases h; rw [hB'] at e3; cases e3
          | stop _ h hB' _ _ => rw [ha] at h; cases h; exact hB'.symm.trans e3
        exact exc_out S c c₃ L₃.st (fl.step L₂.st) hR rfl
  · obtain ⟨cc, σ', ρ', e1, af, fl⟩ := hq
    refine ⟨cc, l, σ', ρ', by rw [e1]; rfl, af.step, (c.after af).loc, fl⟩
end
end Mine

/- T5 -/
set_option tactic.hygienic false
/-! Mine: try. -/
namespace Mine
open PySem PySem.Spec PySem.Calls PyProof.Rows

section
variable {prog : Program} {w : World} {A : Around} {s : Shared} {X : Cx} {P : Prog} {mg mb : Str → Option Value} {n lv : Nat} {env : Env} {es : List Env} {ρ : List Addr} {l : Loc} {σ : Sto} {sc : Scope} {cf : Calls}

theorem Ct.mark {s₀ : Shared} {q : Prop} {c : Str} {e : Value} (ct : Ct X n lv A env es ρ l σ s) (f : FlyG X lv q s₀ c e s) : Ct X n (lv + 1) (A.mark (some e)) env es ρ l σ s := by
  refine ⟨ct.wd, ct.kind, ct.glob, ct.blt, ct.loc, ct.ownr, ct.ownb, ct.frame, ct.offr, ct.room, ?_⟩
  obtain ⟨a, oe, C, vs, h1, h2, h3, h4, h5, h6, h7, h8, h9⟩ := f
  match lv, h8 with
  | 0, h8 => exact ⟨a, oe, C, vs, by rw [h1]; rfl, h3, h4, h6, h8 rfl⟩
  | _ + 1, _ => trivial

/-- what a name's going leaves of it -/
theorem goes_ok {x : Str} {pos : Pos} {v : Value} {a : AV} (ct : Ct X n lv A env es ρ l σ s) (hx : env.kindOf x = some .local) (rv : Rep X ρ s.heap v a) {Q : Unit → Shared → Prop} {E : Value → Shared → Prop} {A' : Around}
    (hQ : ∀ h' t, Step X env ρ s ρ σ { s with heap := h', toks := t } → LocR X ρ env h' [] → Rep X ρ h' v a → Q () { s with heap := h', toks := t }) : wpAny (model prog w) A' (do bindName env x .none; unbindBehindTheSuite env x pos) Q E s := by
  have hp : (env.scope.kind == .class || (env.scope.kind == .module && env.locals != env.globals)) = false := by rw [ct.kind]; rfl
  obtain ⟨m, hn, fm⟩ := ct.loc.ns
  have hdict : ∀ cl ∈ env.cells.map (·.2), cl ≠ env.locals := fun cl hcl q => by
    obtain ⟨v₀, o', e, d⟩ := ct.loc.cell cl hcl
    obtain ⟨o, es, ep, e', d', _⟩ := id hn
    rw [q, e'] at e; cases e; rw [d'] at d; cases d
  refine wpAny_nameGoes hx hn hp fun h' m' hn' hs => hQ h' _ (.own1 ct (.head _) hs (let ⟨o, _, _, e, _⟩ := hn'; ⟨o, e⟩) _) ⟨⟨m', hn', fun x a e => (by cases e)⟩, fun cl hcl => ?_, fun x a e => (by cases e)⟩ (rep_ext hs.extBut (fun o e => Ns.mut hn e) rv)
  obtain ⟨v₀, o', e, d⟩ := ct.loc.cell cl hcl
  exact ⟨v₀, o', (hs.2 cl (hdict cl hcl)).trans e, d⟩

theorem FlyG.rep {s₀ : Shared} {q : Prop} {c : Str} {e : Value} (f : FlyG X lv q s₀ c e s) : Rep X ρ s.heap e (.exc c) := by
  obtain ⟨a, oe, C, vs, rfl, h2, h3, h4, h5, h6, h7, h8, h9⟩ := f
  exact .exc h3 h4 h6 h5

/-- one clause -/
theorem handler_ok {s₀ : Shared} {ρ₀ : List Addr} {l₀ : Loc} {σ₀ : Sto} {t : Str} {p pos : Pos} {nm : Option Str} {b : List Stmt} {rest : List ExceptHandler} {c : Str} {e : Value} (G : Gd prog w X P mg mb) (S : Sx sc env) (ct₀ : Ct X n lv A env es ρ₀ l₀ σ₀ s₀) (st : Step X env ρ₀ s₀ ρ σ s) (lr : LocR X ρ env s.heap l)
    (f : FlyG X lv False s₀ c e s)
    (hB : ∀ ρ' l' σ' s', Ct X n (lv + 1) (A.mark (some e)) env es ρ' l' σ' s' → exs P cf sc b (lv + 1) l' σ' ≠ .bad →
      wpAny (model prog w) (A.mark (some e)) (execs b env) (OkF X env ρ' s' (exs P cf sc b (lv + 1) l' σ')) (ExS X env (lv + 1) ρ' s' (exs P cf sc b (lv + 1) l' σ')) s')
    (hR : exH P cf sc rest lv c l σ ≠ .bad → wpAny (model prog w) A (handleBy e env rest) (OkF X env ρ₀ s₀ (exH P cf sc rest lv c l σ)) (ExS X env lv ρ₀ s₀ (exH P cf sc rest lv c l σ)) s)
    (hb : exH P cf sc (.ExceptHandler (some (.Name t p)) nm b pos :: rest) lv c l σ ≠ .bad) :
    wpAny (model prog w) A (handleBy e env (.ExceptHandler (some (.Name t p)) nm b pos :: rest)) (OkF X env ρ₀ s₀ (exH P cf sc (.ExceptHandler (some (.Name t p)) nm b pos :: rest) lv c l σ)) (ExS X env lv ρ₀ s₀ (exH P cf sc (.ExceptHandler (some (.Name t p)) nm b pos :: rest) lv c l σ)) s := by
  have ct := ct₀.step st lr
  simp only [exH_q0, exH_q1] at hb ⊢
  cases hg : (isGlob sc t && P.cls t) with
  | false => rw [hg] at hb; exact absurd rfl hb
  | true =>
  rw [hg] at hb
  simp only [Bool.not_true, cond_false] at hb ⊢
  have hg := Bool.and_eq_true_iff.mp hg
  obtain ⟨C, newId, bmB, Bn, inN, bmN, B, nid, initId, tv, O, Fn, hBn, F⟩ := G.cls t hg.2
  have cm := ct.mark f
  obtain ⟨a, oe, Ce, vs, rfl, h2, h3, h4, h5, h6, h7, h8, h9⟩ := id f
  refine wpAny_handleBy_cons (codeAny_handlers_test (glob_name G S.ok cm hg.1 (.inl O.bound) (G.exm _ _ s c t a oe Ce _ _ ct.wd.stays h3 h4 h5 hg.2 tv ?_))) (by intro q; cases q)
  cases hs : P.sub c t with
  | false =>
    rw [hs] at hb
    simp only [cond_false] at hb ⊢
    exact hR hb
  | true =>
    rw [hs] at hb
    simp only [cond_true] at hb ⊢
    cases b with
    | nil => cases q : catchN nm sc c l <;> (rw [q] at hb; exact absurd rfl hb)
    | cons b₀ body =>
    simp only [if_true]
    cases nm with
    | none =>
      simp only [catchN] at hb ⊢
      simp only [List.isEmpty_cons, cond_false] at hb ⊢
      refine codeAny_handlers_suite (wpAny_mono (setFlight_ok f) (fun _ s₁ hq => ?_) fun _ _ z => z)
      obtain ⟨f₁, h', rfl, t₁⟩ := hq
      have st₁ : Step X env ρ₀ s₀ ρ σ { s with heap := h' } := Step.turn ct₀.wd st t₁ s.toks
      have c₁ := (ct₀.step st₁ (lr.turn t₁)).mark f₁
      have hne : exs P cf sc (b₀ :: body) (lv + 1) l σ ≠ .bad := fun q => hb (by rw [q])
      refine wpAny_mono (hB ρ l σ _ c₁ hne) (fun fl s₂ hq => ?_) fun x s₂ hq => ?_
      · obtain ⟨fl', l₂, σ₂, ρ₂, e2, st₂, lr₂, hf⟩ := hq
        show OkF X env ρ₀ s₀ _ fl s₂
        rw [e2]
        cases fl' with
        | next => exact ⟨.next, l₂, σ₂, ρ₂, rfl, st₁.trans st₂, lr₂, hf⟩
        | ret v => exact ⟨.ret v, l₂, σ₂, ρ₂, rfl, st₁.trans st₂, lr₂, hf⟩
      · obtain ⟨c', l₂, σ₂, ρ₂, e2, _⟩ := hq
        rw [e2] at hb; exact absurd rfl hb
    | some x =>
      simp only [catchN] at hb ⊢
      cases hx : isLocal sc x with
      | false => rw [hx] at hb; exact absurd rfl hb
      | true =>
      rw [hx] at hb
      simp only [cond_true, List.isEmpty_cons, cond_false] at hb ⊢
      have hxl : isLoc sc x = true := by
        unfold isLocal at hx; unfold isLoc
        simp only [Bool.and_eq_true] at hx ⊢
        refine ⟨hx.1, ?_⟩
        have h2 := hx.2
        split at h2
        · rename_i q; rw [q]
        · cases h2
      have hk : env.kindOf x = some .local := S.loc x hx
      refine codeAny_handlers_suite_as (wpAny_mono (setFlight_ok f) (fun _ s₁ hq => ?_) fun _ _ z => z)
      obtain ⟨f₁, h', rfl, t₁⟩ := hq
      have st₁ : Step X env ρ₀ s₀ ρ σ { s with heap := h' } := Step.turn ct₀.wd st t₁ s.toks
      have c₁ := (ct₀.step st₁ (lr.turn t₁)).mark f₁
      refine store_ok S c₁ hxl f₁.rep fun h₂ t₂ st₂ lr₂ => ?_
      have c₂ := c₁.step st₂ lr₂
      have hne : exs P cf sc (b₀ :: body) (lv + 1) (setL x (.exc c) l) σ ≠ .bad := fun q => hb (by rw [q])
      refine wpAny_mono (hB ρ _ σ _ c₂ hne) (fun fl s₃ hq => ?_) fun x s₃ hq => ?_
      · obtain ⟨fl', l₃, σ₃, ρ₃, e3, st₃, lr₃, hf⟩ := hq
        rw [e3] at hb
        rw [e3]
        cases fl' with
        | next => exact absurd rfl hb
        | ret v =>
          cases fl with
          | ret u =>
            have c₃ := ct₀.step ((st₁.trans st₂).trans st₃) lr₃
            exact goes_ok c₃ hk (show Rep X ρ₃ s₃.heap u v from hf) fun h₄ t₄ st₄ lr₄ r₄ => ⟨.ret v, [], σ₃, ρ₃, rfl, ((st₁.trans st₂).trans st₃).trans st₄, lr₄, r₄⟩
          | _ => exact hf.elim
      · obtain ⟨c', l₂, σ₂, ρ₂, e2, _⟩ := hq
        rw [e2] at hb; exact absurd rfl hb

theorem try_ok {b : List Stmt} {h₀ : ExceptHandler} {hs : List ExceptHandler} {pos : Pos} (S : Sx sc env) (ct : Ct X n lv A env es ρ l σ s)
    (hB : exs P cf sc b lv l σ ≠ .bad → wpAny (model prog w) A (execs b env) (OkF X env ρ s (exs P cf sc b lv l σ)) (ExS X env lv ρ s (exs P cf sc b lv l σ)) s)
    (hH : ∀ ρ' l' σ' s' c e, Step X env ρ s ρ' σ' s' → LocR X ρ' env s'.heap l' → FlyG X lv False s c e s' → exH P cf sc (h₀ :: hs) lv c l' σ' ≠ .bad →
      wpAny (model prog w) A (handleBy e env (h₀ :: hs)) (OkF X env ρ s (exH P cf sc (h₀ :: hs) lv c l' σ')) (ExS X env lv ρ s (exH P cf sc (h₀ :: hs) lv c l' σ')) s')
    (hb : ex P cf sc (.Try b (h₀ :: hs) [] [] pos) lv l σ ≠ .bad) :
    wpAny (model prog w) A (exec (.Try b (h₀ :: hs) [] [] pos) env) (OkF X env ρ s (ex P cf sc (.Try b (h₀ :: hs) [] [] pos) lv l σ)) (ExS X env lv ρ s (ex P cf sc (.Try b (h₀ :: hs) [] [] pos) lv l σ)) s := by
  simp only [ex_q0, ex_q1, ex_q2, ex_q3, ex_q4, ex_q5, ex_q6, ex_q7, List.isEmpty_cons, cond_false] at hb ⊢
  have hne : exs P cf sc b lv l σ ≠ .bad := fun q => hb (by rw [q])
  refine wpAny_Try_except (wpAny_mono (hB hne) (fun fl s₁ hq => ?_) fun e s₁ hq => ?_)
  · obtain ⟨fl', l₂, σ₂, ρ₂, e2, st₂, lr₂, hf⟩ := hq
    rw [e2]
    cases fl with
    | next =>
      cases fl' with
      | next => exact wpAny_execs_nil ⟨.next, l₂, σ₂, ρ₂, rfl, st₂, lr₂, trivial⟩
      | ret v => exact hf.elim
    | ret u =>
      cases fl' with
      | next => exact hf.elim
      | ret v => exact ⟨.ret v, l₂, σ₂, ρ₂, rfl, st₂, lr₂, hf⟩
    | _ => exact hf.elim
  · obtain ⟨c, l₂, σ₂, ρ₂, e2, st₂, lr₂, fl⟩ := hq
    rw [e2] at hb
    rw [e2]
    have c₂ := ct.step st₂ lr₂
    obtain ⟨hv, r, e1, e2', e3, e4⟩ := c₂.frame
    subst e1
    refine wpAny_mono (noteFrame_ok e3 e2' e4 S.frame (fun b h => st₂.gone h) fl) (fun _ s₂ hq => ?_) fun _ _ z => z
    obtain ⟨f₁, h', rfl, t₁⟩ := hq
    refine wpAny_mono (setFlight_ok f₁) (fun _ s₃ hq => ?_) fun _ _ z => z
    obtain ⟨f₂, h'', rfl, t₂⟩ := hq
    have t := t₁.trans t₂
    exact hH ρ₂ l₂ σ₂ { s₁ with heap := h'' } c e (Step.turn ct.wd st₂ t s₁.toks) (lr₂.turn t) f₂ hb
end
end Mine

/- T6 -/
set_option tactic.hygienic false
/-! Mine: assignments. -/
namespace Mine
open PySem PySem.Spec PySem.Calls PyProof.Rows

theorem inS_ok {γ : Type} {r : Out γ} {l : Loc} {f : γ → Sto → OutS} {a : γ} {σ : Sto} (h : r = .ok a σ) : r.inS l f = f a σ := by rw [h]; rfl
theorem inS_exc {γ : Type} {r : Out γ} {l : Loc} {f : γ → Sto → OutS} {c : Str} {σ : Sto} (h : r = .exc c σ) : r.inS l f = .exc c l σ := by rw [h]; rfl
theorem inS_ne {γ : Type} {r : Out γ} {l : Loc} {f : γ → Sto → OutS} (h : r.inS l f ≠ .bad) : r ≠ .bad := fun q => h (by rw [q]; rfl)

section
variable {prog : Program} {w : World} {A : Around} {E : Value → Shared → Prop} {s s₀ : Shared} {X : Cx} {P : Prog} {mg mb : Str → Option Value} {n lv : Nat} {env : Env} {es : List Env} {ρ ρ₀ : List Addr} {l : Loc} {σ σ₀ : Sto} {sc : Scope} {cf : Calls}

theorem liftS {α γ : Type} {M : Model} {Rl : List Addr → Heap → α → γ → Prop} {t : Sem α} {r : Out γ} {R : OutS} {K : α → Shared → Prop} (c₀ : Ct X n lv A env es ρ₀ l σ₀ s₀) (x : After X ρ₀ s₀ ρ σ s) (h : wpAny M A t (OkG Rl X ρ s r) (ExV X lv ρ s r) s)
    (hE : ∀ cc σ', r = .exc cc σ' → R = .exc cc l σ') (hK : ∀ a σ' ρ' v s', r = .ok a σ' → After X ρ₀ s₀ ρ' σ' s' → After X ρ s ρ' σ' s' → Rl ρ' s'.heap v a → K v s') : wpAny M A t K (ExS X env lv ρ₀ s₀ R) s := by
  refine wpAny_mono h (fun v s' q => ?_) fun e s' q => ?_
  · obtain ⟨a, σ', ρ', e1, e2, e3⟩ := q
    exact hK a σ' ρ' v s' e1 (x.trans e2) e2 e3
  · obtain ⟨cc, σ', ρ', e1, e2, e3⟩ := q
    have af := x.trans e2
    exact ⟨cc, l, σ', ρ', hE cc σ' e1, af.step, (c₀.after af).loc, e3.lift c₀.wd x⟩

theorem list_setAt {a : Addr} {vs : List Value} {k : Int} {t : Tok} {v : Value} {Q : Unit → Shared → Prop} (hl : IsL s.heap a vs) (h0 : 0 ≤ k) (hfit : k < 2 ^ 63) (hn : k < vs.length)
    (hQ : ∀ h', IsL h' a (vs.set k.toNat v) → Heap.SameBut a s.heap h' → Q () { s with heap := h' }) : wpAny (model prog w) A (PySem.setItem (.ref a) (.int k t) v) Q E s := by
  obtain ⟨o, ne, ho, hc, hdn, hd⟩ := id hl
  have hli := hl.is
  unfold PySem.setItem
  try with_reducible refine wpAny_holding ?_
  first | refine wpAny_bind (wpAny_pure ?_) | skip
  refine wpAny_bind (wpAny_sequenceKey hli.typeIs (by decide) ?_)
  refine wpAny_bind (wpAny_callSpecial?_slot (name := Str.ofString "__setitem__") hli.typeIs slot_list_setitem
    (wpAny_call_entry slot_list_setitem hli.typeIs entry_list_setitem ?_ (args_list_setitem _ _ _)))
  show wpAny _ _ (Builtin.List.listSubscript? (.int k t) >>= _) _ _ s
  refine wpAny_bind (wpAny_listSubscript_int (fitsIndex_of h0 hfit) ?_)
  clear hfit
  obtain ⟨j, rfl⟩ := Int.eq_ofNat_of_zero_le h0
  have hj : j < vs.toArray.size := by simp only [List.size_toArray]; omega
  have hx' : vs.toArray[j]? = some vs.toArray[j] := Array.getElem?_eq_getElem hj
  show wpAny _ _ ((seqItemAt a j >>= fun r => pure (r.map (j, ·))) >>= _) _ _ s
  refine wpAny_bind (wpAny_bind (wpAny_seqItemAt ho hd (wpAny_pure ?_)))
  rw [hx']
  show wpAny _ _ (setSeqItemAt a j v >>= _) _ _ s
  obtain ⟨n', hd'⟩ := Obj.data_mapSeq hd (·.setIfInBounds j v)
  have hfin : IsL (s.heap.update a (Obj.mapSeq (·.setIfInBounds j v))) a (vs.set j v) :=
    ⟨_, n', Heap.get?_update_self _ ho (Obj.isFreed_of_seq hd'), (Obj.cls_mapSeq ..).trans hc, (Obj.dict_mapSeq ..).trans hdn, by rw [hd']; simp⟩
  refine wpAny_bind (wpAny_setSeqItemAt ho hd ?_)
  first
    | exact wpAny_bind (wpAny_pure (wpAny_pure ⟨.none, rfl, wpAny_pure (hQ _ hfin (Heap.SameBut.update ..))⟩))
    | exact wpAny_pure ⟨.none, rfl, wpAny_pure (hQ _ hfin (Heap.SameBut.update ..))⟩

theorem setItem_ok {vo vi vv : Value} {o i v : AV} {σ' : Sto} (W : Wd X ρ σ s.heap) (ro : Rep X ρ s.heap vo o) (ri : Rep X ρ s.heap vi i) (rv : Rep X ρ s.heap vv v) (e : setItem o i v σ = some σ') :
    wpAny (model prog w) A (PySem.setItem vo vi vv) (fun _ s' => After X ρ s ρ σ' s') E s := by
  unfold setItem at e
  set_option tactic.hygienic true in split at e
  · rename_i m k
    obtain ⟨_, rfl⟩ := ri.int_inv
    obtain ⟨_, rfl, hr⟩ := ro.ref_inv
    set_option tactic.hygienic true in split at e
    · rename_i xs hx
      cases hc : (decide (0 ≤ k) && decide (k < (xs.length : Int))) with
      | false => rw [hc] at e; cases e
      | true =>
        rw [hc] at e; cases e
        have hb := Bool.and_eq_true_iff.mp hc
        have h1 := of_decide_eq_true hb.1
        have h2 := of_decide_eq_true hb.2
        obtain ⟨a', ha', vs, il, hz, ra⟩ := W.objs m _ hx
        rw [hr] at ha'; cases ha'
        have hv := ra.length
        refine list_setAt il h1 (by unfold bigN at hz; omega) (by omega) fun h' hl' hs => After.setList W hr hs hl' (by simpa using hz) (ra.set rv _) s.toks
    · rename_i es hx
      obtain ⟨_, _, q⟩ := W.objs m _ hx
      exact q.elim
    · cases e
  · cases e

theorem swaps_no {e : Expr} (h : notComp e = true) (t : Option Expr) (line : Nat) : swapsWith e t line env = pure false := by
  cases e <;> first | rfl | exact (Bool.false_ne_true h).elim
theorem swaps_sub {e : Expr} {o i : Expr} {p : Pos} (line : Nat) : swapsWith e (some (.Subscript o i p)) line env = pure false := by
  cases e <;> rfl
theorem swaps_name (e : Expr) (x : Str) (p : Pos) (line : Nat) : ∃ b, swapsWith e (some (.Name x p)) line env = pure b ∧ (b = true → (notComp e = false ∧ env.kindOf x = some .local)) := by
  have one : ∀ (scope : Scope) (q : Pos), ∃ b, (pure (env.blockKind == .function && env.kindOf x == some .local && p.line == q.line && !(scope.names.any fun (n, k) => n == x && (k == .local || k == .cell))) : Sem Bool) = pure b ∧ (b = true → env.kindOf x = some .local) := fun scope q => by
    refine ⟨_, rfl, fun h => ?_⟩
    simp only [Bool.and_eq_true] at h
    exact eq_of_beq h.1.1.2
  cases e with
  | ListComp a b c d => obtain ⟨b, e, h⟩ := one c d; exact ⟨b, e, fun z => ⟨rfl, h z⟩⟩
  | SetComp a b c d => obtain ⟨b, e, h⟩ := one c d; exact ⟨b, e, fun z => ⟨rfl, h z⟩⟩
  | DictComp a b c d f => obtain ⟨b, e, h⟩ := one d f; exact ⟨b, e, fun z => ⟨rfl, h z⟩⟩
  | _ => exact ⟨false, rfl, fun z => by cases z⟩
end
end Mine

/- T7 -/
set_option tactic.hygienic false
/-! Mine: x = [..]. -/
namespace Mine
open PySem PySem.Spec PySem.Calls PyProof.Rows
section
variable {prog : Program} {w : World} {A : Around} {s : Shared} {X : Cx} {P : Prog} {mg mb : Str → Option Value} {n lv : Nat} {env : Env} {es : List Env} {ρ : List Addr} {l : Loc} {σ : Sto} {sc : Scope} {cf : Calls}

theorem assign_used {elt it : Expr} {k x : Str} {px p' pos spos : Pos} {ifs : List Expr} {csc : Scope} (G : Gd prog w X P mg mb) (C : CallS prog w X mg n cf) (S : Sx sc env) (c : Ct X n lv A env es ρ l σ s) (hx : isLoc sc x = true)
    (hsw : swapsWith (.ListComp elt [⟨.Name k px, it, ifs, 0⟩] csc pos) (some (.Name x p')) spos.line env = pure true)
    (hb : ev P cf lv sc (.ListComp elt [⟨.Name k px, it, ifs, 0⟩] csc pos) l σ ≠ .bad) :
    wpAny (model prog w) A (exec (.Assign [.Name x p'] (.ListComp elt [⟨.Name k px, it, ifs, 0⟩] csc pos) spos) env)
      (OkF X env ρ s ((ev P cf lv sc (.ListComp elt [⟨.Name k px, it, ifs, 0⟩] csc pos) l σ).inS l fun v σ => .ok .next (setL x v l) σ)) (ExS X env lv ρ s ((ev P cf lv sc (.ListComp elt [⟨.Name k px, it, ifs, 0⟩] csc pos) l σ).inS l fun v σ => .ok .next (setL x v l) σ)) s := by
  have h1 := evOk G C it
  have h2 := evSrcOk G C it
  have h3 := evIfsOk G C ifs
  have h4 := evOk G C elt
  simp only [ev_q0, ev_q1, ev_q2, ev_q3, ev_q4, ev_q5, ev_q6, ev_q7, ev_q8, ev_q9, ev_q10, ev_q11, ev_q12] at hb ⊢
  cases hf : scopeFine sc csc k with
  | false => rw [hf] at hb; exact absurd rfl hb
  | true =>
  rw [hf] at hb
  simp only [Bool.not_true, cond_false] at hb ⊢
  have hsrc := bind_ne hb
  have hb' : ((evSrc P cf lv sc it (fun l σ => ev P cf lv sc it l σ) l σ).bind fun src σ => cpSrc lv (cpF P cf lv csc ifs elt k l) src σ) ≠ .bad := fun q => hb (by
    cases e : evSrc P cf lv sc it (fun l σ => ev P cf lv sc it l σ) l σ with
    | bad => rfl
    | exc c σ' => rw [bind_exc' e] at q; cases q
    | ok src σ' => rw [bind_ok' e] at q; show Out.bind (cpSrc lv (cpF P cf lv csc ifs elt k l) src σ') _ = .bad; rw [q]; rfl)
  have E1 : ∀ e s', ExV X lv ρ s ((evSrc P cf lv sc it (fun l σ => ev P cf lv sc it l σ) l σ).bind fun src σ => (cpSrc lv (cpF P cf lv csc ifs elt k l) src σ).bind fun xs σ => newL xs σ) e s' →
      ExS X env lv ρ s (((evSrc P cf lv sc it (fun l σ => ev P cf lv sc it l σ) l σ).bind fun src σ => (cpSrc lv (cpF P cf lv csc ifs elt k l) src σ).bind fun xs σ => newL xs σ).inS l fun v σ => .ok .next (setL x v l) σ) e s' := fun e s' q => by
    obtain ⟨cc, σ', ρ', e1, e2, e3⟩ := q
    exact ⟨cc, l, σ', ρ', inS_exc e1, e2.step, (c.after e2).loc, e3⟩
  rw [exec_Assign_Name_used _ _ _ _ hsw]
  refine wpAny_bind (wpAny_standAt (wpAny_bind ?_))
  show wpAny _ A (do let _ ← comprehension (.ListComp elt [⟨.Name k px, it, ifs, 0⟩] csc pos) csc env (firstIterPos [⟨.Name k px, it, ifs, 0⟩] pos) (newList []) false (eval it env) (some (assign (.Name x p') env))) _ _ s
  refine wpAny_bind (wpAny_mono (comp_ok (R := (evSrc P cf lv sc it (fun l σ => ev P cf lv sc it l σ) l σ).bind fun src σ => (cpSrc lv (cpF P cf lv csc ifs elt k l) src σ).bind fun xs σ => newL xs σ)
    (Q := fun _ s' => OkF X env ρ s (((evSrc P cf lv sc it (fun l σ => ev P cf lv sc it l σ) l σ).bind fun src σ => (cpSrc lv (cpF P cf lv csc ifs elt k l) src σ).bind fun xs σ => newL xs σ).inS l fun v σ => .ok .next (setL x v l) σ) .next s')
    S.ok (Fine.of hf) c (evSrc_fold hsrc) (h2 A lv sc env es ρ l σ s S.ok c (h1 A lv sc env es ρ l σ s S.ok c) hsrc) (fun src σ' h => evSrc_is h)
    (fun env' ρ' σ' s' a S' c' h => h3 A lv csc env' es ρ' _ σ' s' S' c' h) (fun env' ρ' σ' s' a S' c' h => h4 A lv csc env' es ρ' _ σ' s' S' c' h) hb' (fun c σ' h => bind_exc' h) ?_) (fun _ s' hq => wpAny_pure (wpAny_pure hq)) E1)
  intro xs σ₂ ρ' s' D CC vs m e af fD fC hDC hl ra hz hns oD oC
  obtain ⟨src, σ₁, e1, e2⟩ := bind_ok_inv e
  have hR : ((evSrc P cf lv sc it (fun l σ => ev P cf lv sc it l σ) l σ).bind fun src σ => (cpSrc lv (cpF P cf lv csc ifs elt k l) src σ).bind fun xs σ => newL xs σ) = newL xs σ₂ := by rw [bind_ok' e1, bind_ok' e2]
  have hb2 : newL xs σ₂ ≠ .bad := fun q => hb (by rw [← hR] at q; exact q)
  have nb : X.base.get? D = none := by
    cases q : X.base.get? D with
    | none => rfl
    | some o => rw [c.wd.stays D o q] at fD; cases fD
  have af2 := af.adopt oD nb fD hl hz ra
  have c2 := c.after af2
  have rD : Rep X (ρ' ++ [D]) s'.heap (.ref D) (.ref σ₂.length) := .ref (by rw [← af.wd.len]; simp)
  have oC2 : CC ∉ ρ' ++ [D] := fun q => (List.mem_append.mp q).elim oC fun z => hDC (List.mem_singleton.mp z).symm
  have oC3 : CC ∉ own env := fun q => by obtain ⟨o, e⟩ := c.loc.there CC q; rw [fC] at e; cases e
  show wpAny _ A (assign (.Name x p') env (.ref D)) _ _ s'
  refine wpAny_assign_Name (store_ok S c2 hx rD fun h₂ t₂ st₂ lr₂ => ⟨m, Ns.keep st₂.keep (fun q => (List.mem_append.mp q).elim oC3 oC2) hns, fun h' hs' => ?_⟩)
  have hns₂ : h₂.Ns CC m := Ns.keep st₂.keep (fun q => (List.mem_append.mp q).elim oC3 oC2) hns
  have hm : ∀ o, h₂.get? CC = some o → MutO o := fun o e => Ns.mut hns₂ e
  exact ⟨.next, _, _, _, inS_ok (hR.trans (newL_eq hb2)), (af2.step.trans st₂).off1 c.wd.stays hs'.extBut hm fC oC2 t₂, lr₂.off1 hs'.extBut hm oC3, trivial⟩
end
end Mine
namespace Mine
open PySem PySem.Spec PySem.Calls PyProof.Rows
section
variable {prog : Program} {w : World} {A : Around} {s s₀ : Shared} {X : Cx} {P : Prog} {mg mb : Str → Option Value} {n lv : Nat} {env : Env} {es : List Env} {ρ ρ₀ : List Addr} {l : Loc} {σ : Sto} {sc : Scope} {cf : Calls}
theorem stepF {M : Model} {t : Sem Flow} {r : OutS} (h : wpAny M A t (OkF X env ρ s r) (ExS X env lv ρ s r) s) (x : Step X env ρ₀ s₀ ρ σ s) : wpAny M A t (OkF X env ρ₀ s₀ r) (ExS X env lv ρ₀ s₀ r) s := by
  refine wpAny_mono h (fun f s₁ hq => ?_) fun e s₁ hq => ?_
  · obtain ⟨fl, l₁, σ₁, ρ₁, e₁, st₁, lr₁, hf⟩ := hq
    exact ⟨fl, l₁, σ₁, ρ₁, e₁, x.trans st₁, lr₁, hf⟩
  · obtain ⟨cc, l₁, σ₁, ρ₁, e₁, st₁, lr₁, fl⟩ := hq
    exact ⟨cc, l₁, σ₁, ρ₁, e₁, x.trans st₁, lr₁, fl.step x⟩
theorem nameX_inv {e : Expr} {c : Str} (h : nameX e = some c) : ∃ p, e = .Name c p := by
  cases e with
  | Name x p => cases h; exact ⟨p, rfl⟩
  | _ => exact nomatch (show (none : Option Str) = some c from h)
theorem strX_inv {e : Expr} (h : strX e = true) : ∃ x k p, e = .Constant (.str x) k p := by
  cases e with
  | Constant v k p => cases v with
    | str x => exact ⟨x, k, p, rfl⟩
    | _ => exact (Bool.false_ne_true h).elim
  | _ => exact (Bool.false_ne_true h).elim
theorem str1_inv {es : List Expr} (h : str1 es = true) : ∃ x k p, es = [.Constant (.str x) k p] := by
  cases es with
  | nil => exact (Bool.false_ne_true h).elim
  | cons e r =>
    have h := Bool.and_eq_true_iff.mp (show (strX e && r.isEmpty) = true from h)
    obtain ⟨x, k, p, rfl⟩ := strX_inv h.1
    cases r with
    | nil => exact ⟨x, k, p, rfl⟩
    | cons _ _ => exact (Bool.false_ne_true h.2).elim
theorem raiseN_inv {e : Expr} {c : Str} (h : raiseN P sc e = some c) : (∃ np x k cp p, e = .Call (.Name c np) [.Constant (.str x) k cp] [] p) ∧ isGlob sc c = true ∧ P.cls c = true := by
  cases e with
  | Call f es ks p =>
    have h : (match nameX f with
      | some c => bif isGlob sc c && P.cls c && (str1 es && ks.isEmpty) then some c else Option.none
      | Option.none => Option.none) = some c := h
    cases hn : nameX f with
    | none => rw [hn] at h; exact nomatch h
    | some c' =>
      rw [hn] at h
      cases hg : (isGlob sc c' && P.cls c' && (str1 es && ks.isEmpty)) with
      | false => simp only [hg, cond_false] at h; exact nomatch h
      | true =>
        simp only [hg, cond_true] at h
        cases h
        obtain ⟨np, rfl⟩ := nameX_inv hn
        have h1 := Bool.and_eq_true_iff.mp hg
        have h2 := Bool.and_eq_true_iff.mp h1.1
        have h3 := Bool.and_eq_true_iff.mp h1.2
        obtain ⟨x, k, cp, rfl⟩ := str1_inv h3.1
        cases ks with
        | nil => exact ⟨⟨np, x, k, cp, p, rfl⟩, h2⟩
        | cons _ _ => exact (Bool.false_ne_true h3.2).elim
  | _ => exact nomatch (show (none : Option Str) = some c from h)
theorem raise_any {e : Expr} {pos : Pos} (G : Gd prog w X P mg mb) (S : Sx sc env) (c : Ct X n lv A env es ρ l σ s) (hb : raiseA P sc e lv l σ ≠ .bad) :
    wpAny (model prog w) A (exec (.Raise (some e) none pos) env) (OkF X env ρ s (raiseA P sc e lv l σ)) (ExS X env lv ρ s (raiseA P sc e lv l σ)) s := by
  unfold raiseA at hb ⊢
  cases hn : raiseN P sc e with
  | none => rw [hn] at hb; exact absurd rfl hb
  | some c' =>
    simp only [hn] at hb ⊢
    cases hg : Nat.ble lv 1 with
    | false => rw [hg] at hb; exact absurd rfl hb
    | true =>
      obtain ⟨⟨np, x, k, cp, p, rfl⟩, h1, h2⟩ := raiseN_inv hn
      exact raise_ok G S c h1 h2 (Nat.le_of_ble_eq_true hg)
end
end Mine

/- T8 -/
set_option tactic.hygienic false
/-! Mine: statements (printed by gen_ex.py). -/
namespace Mine
open PySem PySem.Spec PySem.Calls PyProof.Rows
set_option linter.unusedVariables false
section
variable {prog : Program} {w : World} {X : Cx} {P : Prog} {mg mb : Str → Option Value} {n : Nat} {cf : Calls} (G : Gd prog w X P mg mb) (C : CallS prog w X mg n cf)
include G C
mutual
theorem exOk : ∀ (st : Stmt) (A : Around) (lv : Nat) (sc : Scope) (env : Env) (es : List Env) (ρ : List Addr) (l : Loc) (σ : Sto) (s : Shared), Sx sc env → Ct X n lv A env es ρ l σ s → ex P cf sc st lv l σ ≠ .bad →
    wpAny (model prog w) A (exec st env) (OkF X env ρ s (ex P cf sc st lv l σ)) (ExS X env lv ρ s (ex P cf sc st lv l σ)) s
  | .FunctionDef _ _ _ _ _ _ _ _ _ _ => by
    intro A lv sc env es ρ l σ s S c hb
    exact absurd rfl hb
  | .AsyncFunctionDef _ _ _ _ _ _ _ _ _ _ => by
    intro A lv sc env es ρ l σ s S c hb
    exact absurd rfl hb
  | .ClassDef _ _ _ _ _ _ _ _ _ _ _ => by
    intro A lv sc env es ρ l σ s S c hb
    exact absurd rfl hb
  | .Return e pos => by
    intro A lv sc env es ρ l σ s S c hb
    cases e with
    | none => exact absurd rfl hb
    | some e =>
      simp only [ex_q0, ex_q1, ex_q2, ex_q3, ex_q4, ex_q5, ex_q6, ex_q7] at hb ⊢
      refine wpAny_Return_some (liftS c (.refl c.wd) (evOk G C e A lv sc env es ρ l σ s S.ok c (inS_ne hb)) (fun cc σ h => inS_exc h) fun a σ₁ ρ₁ v s₁ e₁ a₁ _ r₁ => ?_)
      exact ⟨.ret a, l, σ₁, ρ₁, inS_ok e₁, a₁.step, (c.after a₁).loc, r₁⟩
  | .Delete _ _ => by
    intro A lv sc env es ρ l σ s S c hb
    exact absurd rfl hb
  | .Assign ts e pos => by
    intro A lv sc env es ρ l σ s S c hb
    cases ts with
    | nil => exact absurd rfl hb
    | cons t r => cases r with
      | cons _ _ => exact absurd rfl hb
      | nil =>
        simp only [ex_q0, ex_q1, ex_q2, ex_q3, ex_q4, ex_q5, ex_q6, ex_q7] at hb ⊢
        cases t with
        | Name x p =>
          simp only [bindT, okT] at hb ⊢
          cases hx : isLoc sc x with
          | false =>
            rw [hx] at hb
            exact absurd rfl hb
          | true =>
          rw [hx] at hb
          simp only [cond_true] at hb ⊢
          obtain ⟨sw, hsw, hswt⟩ := swaps_name (env := env) e x p pos.line
          cases sw with
          | false =>
            refine wpAny_Assign_Name (liftS c (.refl c.wd) (evOk G C e A lv sc env es ρ l σ s S.ok c (inS_ne hb)) (fun cc σ h => inS_exc h) fun a σ₁ ρ₁ v s₁ e₁ a₁ _ r₁ => ?_) hsw
            refine store_ok S (c.after a₁) hx r₁ fun h' t st lr => ?_
            exact ⟨.next, _, σ₁, ρ₁, inS_ok e₁, a₁.step.trans st, lr, trivial⟩
          | true =>
            have hne := inS_ne hb
            have hnc := (hswt rfl).1
            cases e with
            | ListComp elt gs csc cpos =>
              cases gs with
              | nil => exact absurd rfl hne
              | cons g r => cases r with
                | cons _ _ => cases g; exact absurd rfl hne
                | nil =>
                  obtain ⟨tg, it, ifs, as⟩ := g
                  cases tg with
                  | Name k px =>
                    by_cases ha : as = 0
                    · subst ha; exact assign_used G C S c hx hsw hne
                    · simp only [ev_q0, ev_q1, ev_q2, ev_q3, ev_q4, ev_q5, ev_q6, ev_q7, ev_q8, ev_q9, ev_q10, ev_q11, ev_q12] at hne
                      split at hne
                      · exact absurd rfl ha
                      · exact absurd rfl hne
                  | _ => exact absurd rfl hne
            | SetComp => exact absurd rfl hne
            | DictComp => exact absurd rfl hne
            | _ => exact absurd (show true = false from hnc) (by decide)
        | Subscript o i p =>
          simp only [bindT, okT, cond_true] at hb ⊢
          refine wpAny_Assign_Subscript (liftS c (.refl c.wd) (evOk G C e A lv sc env es ρ l σ s S.ok c (inS_ne hb)) (fun cc σ h => inS_exc h) fun a σ₁ ρ₁ v s₁ e₁ a₁ _ r₁ => ?_) (swaps_sub _)
          rw [inS_ok e₁] at hb ⊢
          refine liftS c a₁ (evOk G C o A lv sc env es ρ₁ l σ₁ s₁ S.ok (c.after a₁) (inS_ne hb)) (fun cc σ h => inS_exc h) fun b σ₂ ρ₂ v₂ s₂ e₂ a₂ a₂' r₂ => ?_
          rw [inS_ok e₂] at hb ⊢
          refine liftS c a₂ (evOk G C i A lv sc env es ρ₂ l σ₂ s₂ S.ok (c.after a₂) (inS_ne hb)) (fun cc σ h => inS_exc h) fun d σ₃ ρ₃ v₃ s₃ e₃ a₃ a₃' r₃ => ?_
          rw [inS_ok e₃] at hb ⊢
          cases hs : setItem b d a σ₃ with
          | none => rw [hs] at hb; exact absurd rfl hb
          | some σ₄ =>
            refine wpAny_mono (setItem_ok a₃.wd (a₃'.rep a₂.wd r₂) r₃ (a₃'.rep a₂.wd (a₂'.rep a₁.wd r₁)) hs) (fun _ s₄ hq => ?_) fun _ _ z => z
            have a₄ := a₃.trans hq
            exact ⟨.next, l, σ₄, ρ₃, rfl, a₄.step, (c.after a₄).loc, trivial⟩
        | _ => simp only [okT, cond_false] at hb; exact absurd rfl hb
  | .TypeAlias _ _ _ _ _ _ _ => by
    intro A lv sc env es ρ l σ s S c hb
    exact absurd rfl hb
  | .AugAssign _ _ _ _ => by
    intro A lv sc env es ρ l σ s S c hb
    exact absurd rfl hb
  | .AnnAssign _ _ _ _ _ => by
    intro A lv sc env es ρ l σ s S c hb
    exact absurd rfl hb
  | .For tg it b o pos => by
    intro A lv sc env es ρ l σ s S c hb
    have h1 := exsOk b
    cases o with
    | cons _ _ => cases tg <;> (exact absurd rfl hb)
    | nil => cases tg with
      | Name x p =>
        simp only [ex_q0, ex_q1, ex_q2, ex_q3, ex_q4, ex_q5, ex_q6, ex_q7] at hb ⊢
        cases hx : isLoc sc x with
        | false => rw [hx] at hb; exact absurd rfl hb
        | true =>
          rw [hx] at hb
          simp only [cond_true] at hb ⊢
          have hne := inS_ne hb
          exact for_ok (B := fun l σ => exs P cf sc b lv l σ) S c hx (evSrc_fold hne) (evSrcOk G C it A lv sc env es ρ l σ s S.ok c (evOk G C it A lv sc env es ρ l σ s S.ok c) hne) (fun src σ' h => evSrc_is h) (fun ρ' l' σ' s' c' h => h1 A lv sc env es ρ' l' σ' s' S c' h) hb
      | _ => exact absurd rfl hb
  | .AsyncFor _ _ _ _ _ => by
    intro A lv sc env es ρ l σ s S c hb
    exact absurd rfl hb
  | .While t b o pos => by
    intro A lv sc env es ρ l σ s S c hb
    have h1 := exsOk b
    cases o with
    | cons _ _ => exact absurd rfl hb
    | nil =>
      simp only [ex_q0, ex_q1, ex_q2, ex_q3, ex_q4, ex_q5, ex_q6, ex_q7] at hb ⊢
      exact while_ok S c (fun ρ' l' σ' s' c' h => evTOk G C t A lv sc env es ρ' l' σ' s' S.ok c' (evOk G C t A lv sc env es ρ' l' σ' s' S.ok c') h) (fun ρ' l' σ' s' c' h => h1 A lv sc env es ρ' l' σ' s' S c' h) hb
  | .If t b o pos => by
    intro A lv sc env es ρ l σ s S c hb
    have h1 := exsOk b
    have h2 := exsOk o
    simp only [ex_q0, ex_q1, ex_q2, ex_q3, ex_q4, ex_q5, ex_q6, ex_q7] at hb ⊢
    refine wpAny_If (liftS c (.refl c.wd) (evTOk G C t A lv sc env es ρ l σ s S.ok c (evOk G C t A lv sc env es ρ l σ s S.ok c) (inS_ne hb)) (fun cc σ h => inS_exc h) fun a σ₁ ρ₁ v s₁ e₁ a₁ _ r₁ => ?_)
    subst r₁
    rw [inS_ok e₁] at hb ⊢
    have c₁ := c.after a₁
    cases v with
    | true =>
      rw [if_pos rfl]
      exact stepF (h1 A lv sc env es ρ₁ l σ₁ s₁ S c₁ hb) a₁.step
    | false =>
      rw [if_neg (by simp)]
      exact stepF (h2 A lv sc env es ρ₁ l σ₁ s₁ S c₁ hb) a₁.step
  | .With _ _ _ => by
    intro A lv sc env es ρ l σ s S c hb
    exact absurd rfl hb
  | .AsyncWith _ _ _ => by
    intro A lv sc env es ρ l σ s S c hb
    exact absurd rfl hb
  | .Match _ _ _ => by
    intro A lv sc env es ρ l σ s S c hb
    exact absurd rfl hb
  | .Raise e cs pos => by
    intro A lv sc env es ρ l σ s S c hb
    cases e with
    | none => exact absurd rfl hb
    | some e => cases cs with
      | some _ => exact absurd rfl hb
      | none =>
        simp only [ex_q0, ex_q1, ex_q2, ex_q3, ex_q4, ex_q5, ex_q6, ex_q7] at hb ⊢
        exact raise_any G S c hb
  | .Try b hs o f pos => by
    intro A lv sc env es ρ l σ s S c hb
    have h1 := exsOk b
    have h2 := exHOk hs
    cases o with
    | cons _ _ => exact absurd rfl hb
    | nil => cases f with
      | cons _ _ => exact absurd rfl hb
      | nil => cases hs with
        | nil => exact absurd rfl hb
        | cons h₀ hs => exact try_ok S c (fun h => h1 A lv sc env es ρ l σ s S c h) (fun ρ' l' σ' s' cc e st lr f h => h2 A lv sc env es ρ l σ s S c ρ' l' σ' s' cc e st lr f h) hb
  | .TryStar _ _ _ _ _ => by
    intro A lv sc env es ρ l σ s S c hb
    exact absurd rfl hb
  | .Assert _ _ _ => by
    intro A lv sc env es ρ l σ s S c hb
    exact absurd rfl hb
  | .Import _ _ => by
    intro A lv sc env es ρ l σ s S c hb
    exact absurd rfl hb
  | .ImportFrom _ _ _ _ => by
    intro A lv sc env es ρ l σ s S c hb
    exact absurd rfl hb
  | .Global _ _ => by
    intro A lv sc env es ρ l σ s S c hb
    exact absurd rfl hb
  | .Nonlocal _ _ => by
    intro A lv sc env es ρ l σ s S c hb
    exact absurd rfl hb
  | .Expr e pos => by
    intro A lv sc env es ρ l σ s S c hb
    simp only [ex_q0, ex_q1, ex_q2, ex_q3, ex_q4, ex_q5, ex_q6, ex_q7] at hb ⊢
    cases hn : notComp e with
    | false => rw [hn] at hb; exact absurd rfl hb
    | true =>
    rw [hn] at hb
    simp only [cond_true] at hb ⊢
    refine wpAny_Expr_any (liftS c (.refl c.wd) (evOk G C e A lv sc env es ρ l σ s S.ok c (inS_ne hb)) (fun cc σ h => inS_exc h) fun a σ₁ ρ₁ v s₁ e₁ a₁ _ r₁ => ?_) (by unfold interactive; rw [c.kind]; rfl) (swaps_no hn _ _)
    exact ⟨.next, l, σ₁, ρ₁, inS_ok e₁, a₁.step, (c.after a₁).loc, trivial⟩
  | .Pass _ => by
    intro A lv sc env es ρ l σ s S c hb
    exact absurd rfl hb
  | .Break _ => by
    intro A lv sc env es ρ l σ s S c hb
    exact absurd rfl hb
  | .Continue _ => by
    intro A lv sc env es ρ l σ s S c hb
    exact absurd rfl hb
theorem exsOk : ∀ (sts : List Stmt) (A : Around) (lv : Nat) (sc : Scope) (env : Env) (es : List Env) (ρ : List Addr) (l : Loc) (σ : Sto) (s : Shared), Sx sc env → Ct X n lv A env es ρ l σ s → exs P cf sc sts lv l σ ≠ .bad →
    wpAny (model prog w) A (execs sts env) (OkF X env ρ s (exs P cf sc sts lv l σ)) (ExS X env lv ρ s (exs P cf sc sts lv l σ)) s
  | [] => by
    intro A lv sc env es ρ l σ s S c hb
    simp only [exs_q0, exs_q1]
    exact wpAny_execs_nil ⟨.next, l, σ, ρ, rfl, .refl c.wd, c.loc, trivial⟩
  | st :: r => by
    intro A lv sc env es ρ l σ s S c hb
    have ih := exsOk r
    simp only [exs_q0, exs_q1] at hb ⊢
    have hne : ex P cf sc st lv l σ ≠ .bad := fun q => hb (by rw [q]; rfl)
    refine wpAny_execs_cons (wpAny_mono (exOk st A lv sc env es ρ l σ s S c hne) (fun f s₁ hq => ?_) fun e s₁ hq => ?_)
    · obtain ⟨fl, l₁, σ₁, ρ₁, e₁, st₁, lr₁, hf⟩ := hq
      rw [e₁] at hb ⊢
      cases fl with
      | next =>
        cases f with
        | next => exact stepF (ih A lv sc env es ρ₁ l₁ σ₁ s₁ S (c.step st₁ lr₁) hb) st₁
        | _ => exact hf.elim
      | ret v =>
        cases f with
        | ret u => exact ⟨.ret v, l₁, σ₁, ρ₁, rfl, st₁, lr₁, hf⟩
        | _ => exact hf.elim
    · obtain ⟨cc, l₁, σ₁, ρ₁, e₁, st₁, lr₁, fl⟩ := hq
      exact ⟨cc, l₁, σ₁, ρ₁, by rw [e₁]; rfl, st₁, lr₁, fl⟩
theorem exHOk : ∀ (hs : List ExceptHandler) (A : Around) (lv : Nat) (sc : Scope) (env : Env) (es : List Env) (ρ : List Addr) (l : Loc) (σ : Sto) (s : Shared), Sx sc env → Ct X n lv A env es ρ l σ s →
    ∀ (ρ' : List Addr) (l' : Loc) (σ' : Sto) (s' : Shared) (c : Str) (e : Value), Step X env ρ s ρ' σ' s' → LocR X ρ' env s'.heap l' → FlyG X lv False s c e s' → exH P cf sc hs lv c l' σ' ≠ .bad →
    wpAny (model prog w) A (handleBy e env hs) (OkF X env ρ s (exH P cf sc hs lv c l' σ')) (ExS X env lv ρ s (exH P cf sc hs lv c l' σ')) s'
  | [] => by
    intro A lv sc env es ρ l σ s S c ρ' l' σ' s' cc e st lr f hb
    exact absurd rfl hb
  | .ExceptHandler ty nm b pos :: rest => by
    intro A lv sc env es ρ l σ s S c ρ' l' σ' s' cc e st lr f hb
    have h1 := exsOk b
    have h2 := exHOk rest
    cases ty with
    | none => exact absurd rfl hb
    | some t => cases t with
      | Name t p => exact handler_ok G S c st lr f (fun ρ'' l'' σ'' s'' c'' h => h1 _ (lv + 1) sc env es ρ'' l'' σ'' s'' S c'' h) (fun h => h2 A lv sc env es ρ l σ s S c ρ' l' σ' s' cc e st lr f h) hb
      | _ => exact absurd rfl hb
end
end
end Mine

/- T9 -/
set_option tactic.hygienic false
/-! Mine: calls. -/
namespace Mine
open PySem PySem.Spec PySem.Calls PyProof.Rows

theorem distinct_nodup : ∀ {l : List Str}, distinct l = true → l.Nodup
  | [], _ => .nil
  | x :: r, h => by
    simp only [distinct, Bool.and_eq_true, Bool.not_eq_true'] at h
    refine List.nodup_cons.mpr ⟨fun q => ?_, distinct_nodup h.2⟩
    have : r.contains x = true := by simpa using q
    rw [h.1] at this; cases this

theorem cells_mem : ∀ (names : List (Str × NameKind)) (k : Nat) (acc : List (Str × Addr)) (n : Str), n ∈ (cellsFrom k names acc).map (·.1) ↔ ((n, NameKind.cell) ∈ names ∨ n ∈ acc.map (·.1))
  | [], k, acc, n => by simp [cellsFrom]
  | (m, kd) :: r, k, acc, n => by
    unfold cellsFrom
    by_cases h : kd = .cell
    · subst h
      simp only [beq_self_eq_true, if_true]
      rw [cells_mem r]
      simp only [List.map_cons, List.mem_cons, Prod.mk.injEq, and_true]
      constructor
      · rintro (h | h | h)
        · exact .inl (.inr h)
        · exact .inl (.inl h)
        · exact .inr h
      · rintro ((h | h) | h)
        · exact .inr (.inl h)
        · exact .inl h
        · exact .inr (.inr h)
    · have hb : (kd == NameKind.cell) = false := by simpa using h
      simp only [hb, Bool.false_eq_true, if_false]
      rw [cells_mem r]
      simp only [List.mem_cons, Prod.mk.injEq]
      constructor
      · rintro (h' | h')
        · exact .inl (.inr h')
        · exact .inr h'
      · rintro ((⟨_, h'⟩ | h') | h')
        · exact absurd h'.symm h
        · exact .inl h'
        · exact .inr h'
theorem cells_nodup : ∀ (names : List (Str × NameKind)) (k : Nat) (acc : List (Str × Addr)), (names.map (·.1)).Nodup → (acc.map (·.1)).Nodup → (∀ n ∈ names.map (·.1), n ∉ acc.map (·.1)) → ((cellsFrom k names acc).map (·.1)).Nodup
  | [], _, _, _, h, _ => h
  | (m, kd) :: r, k, acc, hn, ha, hd => by
    unfold cellsFrom
    rw [List.map_cons, List.nodup_cons] at hn
    by_cases h : kd = .cell
    · subst h
      simp only [beq_self_eq_true, if_true]
      refine cells_nodup r _ _ hn.2 (by rw [List.map_cons]; exact List.nodup_cons.mpr ⟨hd m (.head _), ha⟩) fun n hn' q => ?_
      rw [List.map_cons] at q
      rcases List.mem_cons.mp q with rfl | q
      · exact hn.1 hn'
      · exact hd n (.tail _ hn') q
    · have hb : (kd == NameKind.cell) = false := by simpa using h
      simp only [hb, Bool.false_eq_true, if_false]
      exact cells_nodup r _ _ hn.2 ha fun n hn' => hd n (.tail _ hn')
theorem lookup_of_mem {α : Type} {x : Str} {c : α} : ∀ {l : List (Str × α)}, (l.map (·.1)).Nodup → (x, c) ∈ l → l.lookup x = some c
  | [], _, h => (nomatch h)
  | (y, d) :: r, hn, h => by
    rw [List.map_cons, List.nodup_cons] at hn
    rw [List.lookup_cons]
    rcases List.mem_cons.mp h with e | h2
    · cases e; simp
    · have : (x == y) = false := by
        cases q : x == y with
        | false => rfl
        | true => have := beq_iff_eq.mp q; subst this; exact absurd (List.mem_map.mpr ⟨_, h2, rfl⟩) hn.1
      rw [this]; exact lookup_of_mem hn.2 h2
theorem lookup_none_of {α : Type} {x : Str} : ∀ {l : List (Str × α)}, x ∉ l.map (·.1) → l.lookup x = none
  | [], _ => rfl
  | (y, d) :: r, h => by
    rw [List.map_cons, List.mem_cons, not_or] at h
    rw [List.lookup_cons, show (x == y) = false by simpa using h.1]
    exact lookup_none_of h.2

theorem bindL_other {kd : Str → Option NameKind} {x : Str} : ∀ (bs : List (Str × Value)) (m : Str → Option Value), x ∉ bs.map (·.1) → bindL kd bs m x = m x
  | [], m, _ => rfl
  | (n, v) :: r, m, h => by
    rw [List.map_cons, List.mem_cons, not_or] at h
    unfold bindL
    rw [bindL_other r _ h.2]
    split
    · exact if_neg h.1
    · rfl
theorem bindC_other {kd : Str → Option NameKind} {x : Str} : ∀ (bs : List (Str × Value)) (m : Str → Option Value), x ∉ bs.map (·.1) → bindC kd bs m x = m x
  | [], m, _ => rfl
  | (n, v) :: r, m, h => by
    rw [List.map_cons, List.mem_cons, not_or] at h
    unfold bindC
    rw [bindC_other r _ h.2]
    split
    · rfl
    · exact if_neg h.1
theorem zip_names {α : Type} : ∀ {ps : List Str} {vs : List α}, ∀ x, x ∈ (ps.zip vs).map (·.1) → x ∈ ps
  | [], _, _, h => by simp at h
  | _ :: _, [], _, h => by simp at h
  | p :: ps, v :: vs, x, h => by
    rw [List.zip_cons_cons, List.map_cons] at h
    rcases List.mem_cons.mp h with rfl | h
    · exact .head _
    · exact .tail _ (zip_names x h)

theorem bound_rep {X : Cx} {ρ : List Addr} {h : Heap} {kd : Str → Option NameKind} {x : Str} {a : AV} : ∀ {ps : List Str} {vs : List Value} {xs : List AV} (m cm : Str → Option Value), ps.Nodup → RepAll X ρ h vs xs → getL x (ps.zip xs) = some a →
    ∃ v, Rep X ρ h v a ∧ (kd x = some .local → bindL kd (ps.zip vs) m x = some v) ∧ (kd x ≠ some .local → bindC kd (ps.zip vs) cm x = some v)
  | [], _, _, _, _, _, _, e => by simp [getL] at e
  | _ :: _, _, _, _, _, _, .nil, e => by simp [getL] at e
  | p :: ps, _, _, m, cm, hn, .cons (v := v) (vs := vs) (x := y) (xs := ys) r rs, e => by
    rw [List.nodup_cons] at hn
    rw [List.zip_cons_cons] at e ⊢
    simp only [getL] at e
    by_cases hp : p = x
    · subst hp
      simp only [beq_self_eq_true, cond_true, Option.some.injEq] at e
      subst e
      have nx : p ∉ (ps.zip vs).map (·.1) := fun q => hn.1 (zip_names _ q)
      refine ⟨v, r, fun hk => ?_, fun hk => ?_⟩
      · unfold bindL; rw [bindL_other _ _ nx, if_pos hk]; simp
      · unfold bindC; rw [bindC_other _ _ nx, if_neg hk]; simp
    · have : (p == x) = false := by simpa using hp
      rw [this] at e
      unfold bindL bindC
      exact bound_rep _ _ hn.2 rs e

theorem After.callee {X : Cx} {env : Env} {ρ ρ' : List Addr} {σ' : Sto} {s s₁ s' : Shared} (hk : s.heap.StaysIn s₁.heap) (hs : ∃ h tk, s₁ = { s with heap := h, toks := tk }) (ho : ∀ b ∈ own env, s.heap.get? b = none) (x : Step X env ρ s₁ ρ' σ' s') : After X ρ s ρ' σ' s' := by
  have nn : ∀ b, s₁.heap.get? b = none → s.heap.get? b = none := fun b h => by
    cases q : s.heap.get? b with
    | none => rfl
    | some o => rw [hk b o q] at h; cases h
  refine ⟨x.ext, fun b hb => (x.new b hb).imp id (nn b), x.wd, fun b o e n => x.keep b o (hk b o e) fun q => (List.mem_append.mp q).elim (fun z => ?_) n, ?_⟩
  · rw [ho b z] at e; cases e
  · obtain ⟨h, tk, rfl⟩ := hs
    obtain ⟨h', tk', rfl⟩ := x.same
    exact ⟨h', tk', rfl⟩
theorem mem_lookup {α : Type} {x : Str} : ∀ {l : List (Str × α)}, x ∈ l.map (·.1) → ∃ c, l.lookup x = some c
  | [], h => by simp at h
  | (y, d) :: r, h => by
    rw [List.lookup_cons]
    cases q : x == y with
    | true => exact ⟨d, rfl⟩
    | false =>
      rw [List.map_cons] at h
      rcases List.mem_cons.mp h with e | h
      · rw [e] at q; simp at q
      · exact mem_lookup h
theorem cells_some {names : List (Str × NameKind)} {k : Nat} {x : Str} (h : names.lookup x = some .cell) : ∃ c, (cellsFrom k names []).lookup x = some c :=
  mem_lookup ((cells_mem names k [] x).mpr (.inl (mem_of_lookup h)))

theorem fn_kind {ps : List Str} {sc : Scope} {x : Str} (hf : fnFine ps sc = true) (hx : isLoc sc x = true) : sc.names.lookup x = some .local ∨ sc.names.lookup x = some .cell := by
  simp only [fnFine, Bool.and_eq_true, List.all_eq_true] at hf
  simp only [isLoc, Bool.and_eq_true] at hx
  obtain ⟨_, hx⟩ := hx
  split at hx
  · rename_i q; exact .inl q
  · rename_i q; exact .inr q
  · rename_i q
    have := hf.2 _ (mem_of_lookup q)
    cases this
  · cases hx

theorem fn_sx {fd : FuncData} {L a : Addr} {ps : List Str} {sc : Scope} (hs : fd.scope = sc) (hf : fnFine ps sc = true) (hp : (cellsFrom (L + 1) sc.names []).Pairwise fun x y => x.2 ≠ y.2) : Sx sc (callEnvC fd L a) := by
  subst hs
  have hk : ∀ x, (callEnvC fd L a).kindOf x = fd.scope.names.lookup x := fun _ => rfl
  have hc : (callEnvC fd L a).cells = cellsFrom (L + 1) fd.scope.names [] := rfl
  have cs : ∀ x, isCell fd.scope x = true → fd.scope.names.lookup x = some .cell := fun x hx => by
    simp only [isCell] at hx
    split at hx
    · rename_i q; exact q
    · rename_i q
      simp only [fnFine, Bool.and_eq_true, List.all_eq_true] at hf
      have := hf.2 _ (mem_of_lookup q)
      cases this
    · cases hx
  refine ⟨⟨fun x hx => ?_, fun x hx => ?_, fun x hx => ?_, fun x hx => ?_⟩, fun x hx => ?_, hp, rfl, fun x hx => ?_⟩
  · rw [hk]
    exact (fn_kind hf hx).imp id .inl
  · rw [hk]
    simp only [isGlob] at hx
    split at hx
    · assumption
    · cases hx
  · rw [hk, hc]
    exact ⟨.inl (cs x hx), cells_some (cs x hx)⟩
  · have : ∃ k, (x, k) ∈ fd.scope.names := by
      rcases hx with h | h
      · rcases fn_kind hf h with q | q <;> exact ⟨_, mem_of_lookup q⟩
      · simp only [isGlob] at h
        split at h
        · rename_i q; exact ⟨_, mem_of_lookup q⟩
        · cases h
    obtain ⟨k, hm⟩ := this
    simp only [fnFine, tableFine, Bool.and_eq_true, List.all_eq_true] at hf
    have h1 := hf.1.1.1.1.2 _ hm
    simp only [Bool.not_eq_true', Bool.or_eq_false_iff] at h1
    exact ⟨h1.1.1, h1.1.2⟩
  · rw [hk, hc]
    rcases fn_kind hf hx with q | q
    · exact .inl q
    · exact .inr ⟨q, cells_some q⟩
  · rw [hk]
    simp only [isLocal, Bool.and_eq_true] at hx
    obtain ⟨_, hx⟩ := hx
    split at hx
    · assumption
    · cases hx

section
variable {prog : Program} {w : World} {X : Cx} {P : Prog} {mg mb : Str → Option Value}

theorem callOk (G : Gd prog w X P mg mb) : ∀ n, CallS prog w X mg n (callN P n)
  | 0 => fun A es ρ σ s lv f a o fd vs xs c hmg ho hd ra hb => absurd rfl hb
  | n + 1 => fun A es ρ σ s lv f a o fd vs xs c hmg ho hd ra hb => by
    have IH := callOk G n
    have hN : callN P (n + 1) lv f xs σ = callBody P (callN P n) lv f xs σ := rfl
    rw [hN] at hb ⊢
    unfold callBody at hb ⊢
    cases hfn : P.fn f with
    | none => rw [hfn] at hb; exact absurd rfl hb
    | some t =>
    obtain ⟨ps, body, sc⟩ := t
    rw [hfn] at hb
    simp only at hb ⊢
    cases hlf : (ps.length == xs.length && fnFine ps sc) with
    | false => rw [hlf] at hb; exact absurd rfl hb
    | true =>
    rw [hlf] at hb
    simp only [cond_true] at hb ⊢
    rw [Bool.and_eq_true] at hlf
    obtain ⟨hlen, hff⟩ := hlf
    have hlen : ps.length = xs.length := by simpa using hlen
    obtain ⟨f1, f2, f3, f4, f5, f6, f7⟩ := G.fn f ps body sc a o fd hfn hmg ho hd
    have hvl : vs.length = ps.length := by rw [ra.length, hlen]
    have hne : exs P (callN P n) sc body lv (ps.zip xs) σ ≠ .bad := fun q => hb (by rw [q])
    have hff' := hff
    simp only [fnFine, tableFine, Bool.and_eq_true, List.all_eq_true, Bool.not_eq_true'] at hff'
    have nd : ps.Nodup := distinct_nodup hff'.1.1.2
    have nds : (sc.names.map (·.1)).Nodup := distinct_nodup hff'.1.1.1.2
    have stb : X.base.StaysIn s.heap := c.wd.stays
    refine wpAny_call (codeAny_call_cells (fd := fd) (Nat.lt_of_le_of_lt (Nat.le_add_right _ _) c.room.1) (stb _ _ ho) hd (G.nolimit.keeps stb) (f7.keeps stb) f1 (f6 vs hvl) f3 (fun x hx => ?_) (fun s₁ ic => ?_)
      (by rw [f2]; exact hff'.1.1.1.1.1.2) (by rw [f2]; exact hff'.1.1.1.1.1.1.2) (by rw [f2]; exact of_decide_eq_true hff'.1.1.1.1.1.1.1))
    · rw [f2]
      have hx1 : x.1 ∈ ps := zip_names (vs := vs) _ (List.mem_map.mpr ⟨x, hx, rfl⟩)
      rcases fn_kind hff (hff'.1.2 _ hx1) with q | q
      · exact .inl q
      · obtain ⟨z, hz⟩ := cells_some (k := s.heap.objs.size + 1) q
        exact .inr ⟨q, by rw [hz]; rfl⟩
    · have keep := ic.toInCall.keep
      have hcl : (callEnvC fd s.heap.objs.size a).cells = cellsFrom (s.heap.objs.size + 1) sc.names [] := by rw [← f2]; rfl
      have hkd : ∀ x, (callEnvC fd s.heap.objs.size a).kindOf x = sc.names.lookup x := fun x => by rw [← f2]; rfl
      have S : Sx sc (callEnvC fd s.heap.objs.size a) := fn_sx f2 hff (by have := ic.apart; rwa [hcl] at this)
      have own0 : ∀ b ∈ own (callEnvC fd s.heap.objs.size a), s.heap.get? b = none := fun b hb' => by
        refine Heap.get?_none_of_le ?_
        rcases List.mem_cons.mp hb' with rfl | hb'
        · exact ic.toInCall.fresh
        · obtain ⟨⟨y, d⟩, hy, rfl⟩ := List.mem_map.mp hb'
          exact Nat.le_trans ic.toInCall.fresh (Nat.le_of_lt (ic.above y d hy))
      have ρ0 : ∀ b ∈ ρ, s.heap.get? b ≠ none := fun b hb' q => by
        obtain ⟨o', e', _⟩ := c.wd.at hb'
        rw [q] at e'; cases e'
      have wd₁ : Wd X ρ σ s₁.heap := c.wd.step (Keep.of_stays keep) SOk.nil (fun b o' e => keep b o' (stb b o' e)) (fun b hb' => (nomatch hb'))
      have frs₁ : Frs s₁.heap X.base es := c.frs.keep (Keep.of_stays (S := []) keep) fun L _ => .inl (by simp)
      have ct : Ct X n lv (A.deeper (callEnvC fd s.heap.objs.size a)) (callEnvC fd s.heap.objs.size a) (callEnvC fd s.heap.objs.size a :: es) ρ (ps.zip xs) σ s₁ := by
        refine ⟨wd₁, ?_, f4, f5, ⟨⟨_, ic.toInCall.ns, fun x v e _ k => ?_⟩, fun d hd' => ?_, fun x v e k => ?_⟩, fun b hb' q => ρ0 b q (own0 b hb'), fun b hb' => ?_, ⟨_, es, rfl, rfl, ?_, ?_⟩, fun L hL q => ?_, ?_, ?_⟩
        · exact by rw [show (callEnvC fd s.heap.objs.size a).scope = sc from f2]; exact of_decide_eq_true hff'.1.1.1.1.1.1.1
        · obtain ⟨u, ru, h1, _⟩ := bound_rep (kd := (callEnvC fd s.heap.objs.size a).kindOf) (fun _ => none) (fun _ => none) nd ra e
          exact ⟨u, h1 k, ru.mono (Keep.of_stays (S := []) keep) SOk.nil (.refl _)⟩
        · obtain ⟨⟨y, d'⟩, hy, rfl⟩ := List.mem_map.mp hd'
          refine ⟨_, ic.cell y d' (lookup_of_mem ?_ hy)⟩
          rw [hcl]
          exact cells_nodup _ _ _ nds .nil fun _ _ q => by simp at q
        · obtain ⟨u, ru, _, h2⟩ := bound_rep (kd := (callEnvC fd s.heap.objs.size a).kindOf) (fun _ => none) (fun _ => none) nd ra e
          have hnl : (callEnvC fd s.heap.objs.size a).kindOf x ≠ some .local := fun q => by rcases k with k | k <;> (rw [q] at k; cases k)
          have hcell : sc.names.lookup x = some .cell := by
            rcases k with k | k
            · rw [hkd] at k; exact k
            · rw [hkd] at k
              have := hff'.2 _ (mem_of_lookup k)
              cases this
          obtain ⟨d, hd'⟩ := cells_some (k := s.heap.objs.size + 1) hcell
          have hd2 : (callEnvC fd s.heap.objs.size a).cells.lookup x = some d := by rw [hcl]; exact hd'
          refine ⟨d, u, hd2, ?_, ru.mono (Keep.of_stays (S := []) keep) SOk.nil (.refl _)⟩
          have := ic.cell x d hd2
          rwa [h2 hnl] at this
        · cases z : X.base.get? b with
          | none => rfl
          | some o' => have := stb b o' z; rw [own0 b hb'] at this; cases this
        · show A.frames.map _ = _
          rw [c.frames]; rfl
        · intro e he
          rcases List.mem_cons.mp he with rfl | he
          · obtain ⟨o', ds, k', e1, d1, _⟩ := ic.toInCall.ns
            refine ⟨?_, _, o', ds, k', rfl, ?_, e1, d1⟩
            · rw [show (callEnvC fd s.heap.objs.size a).scope = sc from f2, show sc.kind = .function from of_decide_eq_true hff'.1.1.1.1.1.1.1]; decide
            · cases z : X.base.get? (callEnvC fd s.heap.objs.size a).locals with
              | none => exact z
              | some o' => have := stb _ o' z; rw [own0 _ (.head _)] at this; cases this
          · exact frs₁ e he
        · rw [List.filterMap_cons] at hL
          rcases List.mem_cons.mp (show L ∈ (callEnvC fd s.heap.objs.size a).locals :: es.filterMap (·.frame) from hL) with rfl | hL
          · exact ρ0 _ q (own0 _ (.head _))
          · exact c.offr L hL q
        · obtain ⟨r1, r2⟩ := c.room
          refine ⟨?_, ?_⟩
          · show A.depth + 1 + n < recursionLimit
            omega
          · show A.units + 3 + 16 * n + 200 < cLine
            omega
        · exact (c.hand.keep (Keep.of_stays (S := []) keep) SOk.nil : Hand lv A s₁.heap)
      have sm : ∃ h tk, s₁ = { s with heap := h, toks := tk } := ic.toInCall.same
      have sub₁ : ∀ b, s₁.heap.get? b = none → s.heap.get? b = none := fun b h => by
        cases q : s.heap.get? b with
        | none => rfl
        | some o' => rw [keep b o' q] at h; cases h
      refine wpAny_mono (exsOk G IH body _ lv sc _ _ ρ (ps.zip xs) σ s₁ S ct hne) (fun fl s' q => ?_) fun e s' q => ?_
      · obtain ⟨fl', l', σ', ρ', e1, st, lr, fr⟩ := q
        rw [e1]
        have af : After X ρ s ρ' σ' s' := After.callee keep sm own0 st
        cases fl' with
        | next => cases fl with
          | next => exact ⟨.none, σ', ρ', rfl, af, .none⟩
          | _ => exact fr.elim
        | ret v => cases fl with
          | ret u => exact ⟨v, σ', ρ', rfl, af, fr⟩
          | _ => exact fr.elim
      · obtain ⟨cc, l', σ', ρ', e1, st, lr, fr⟩ := q
        rw [e1]
        have af : After X ρ s ρ' σ' s' := After.callee keep sm own0 st
        obtain ⟨hv, r, q1, q2, q3, q4⟩ := (ct.step st lr).frame
        cases q1
        refine wpAny_mono (leaving_ok (s₀ := s) q3 rfl q4 rfl (fun b h => sub₁ b (st.gone h)) (fr.lift' sub₁)) (fun _ s'' hq => ?_) fun _ _ z => z
        obtain ⟨fl, h', rfl, t⟩ := hq
        exact ⟨cc, σ', ρ', rfl, af.turn c.wd t s'.toks, fl.weak⟩
end
end Mine

/- B1 -/
set_option tactic.hygienic false
namespace Mine
open PySem PySem.Calls PyProof.Rows
theorem lookup_zip : ∀ (ps : List Str) (vs : List Value), vs.length = ps.length → ∀ n ∈ ps, ((ps.zip vs).lookup n).isNone = false
  | [], _, _, _, h => by simp at h
  | p :: ps, [], h, _, _ => by simp at h
  | p :: ps, v :: vs, h, n, hn => by
    rw [List.zip_cons_cons, List.lookup_cons]
    cases q : n == p with
    | true => rfl
    | false =>
      rcases List.mem_cons.mp hn with e | hn
      · rw [e] at q; simp at q
      · exact lookup_zip ps vs (by simpa using h) n hn
theorem List.filterMap_congr' {α β : Type} {f g : α → Option β} : ∀ {l : List α}, (∀ x ∈ l, f x = g x) → l.filterMap f = l.filterMap g
  | [], _ => rfl
  | x :: r, h => by
    rw [List.filterMap_cons, List.filterMap_cons, h x (.head _), List.filterMap_congr' fun y hy => h y (.tail _ hy)]
theorem lookup_none_zip : ∀ (ps : List Str) (vs : List Value) (n : Str), n ∉ ps → (ps.zip vs).lookup n = none
  | [], _, _, _ => by simp
  | p :: ps, [], _, _ => by simp
  | p :: ps, v :: vs, n, h => by
    rw [List.mem_cons, not_or] at h
    rw [List.zip_cons_cons, List.lookup_cons, show (n == p) = false by simpa using h.1]
    exact lookup_none_zip ps vs n h.2
theorem zip_back : ∀ (ps : List Str) (vs : List Value), vs.length = ps.length → ps.Nodup → ps.filterMap (fun n => ((ps.zip vs).lookup n).map (n, ·)) = ps.zip vs
  | [], _, _, _ => by simp
  | p :: ps, [], h, _ => by simp at h
  | p :: ps, v :: vs, h, hd => by
    rw [List.nodup_cons] at hd
    rw [List.zip_cons_cons, List.filterMap_cons, List.lookup_cons]
    simp only [beq_self_eq_true, Option.map_some]
    congr 1
    rw [← zip_back ps vs (by simpa using h) hd.2]
    apply List.filterMap_congr'
    intro n hn
    rw [List.lookup_cons]
    have : (n == p) = false := by
      cases q : n == p with
      | false => rfl
      | true => exact absurd (beq_iff_eq.mp q ▸ hn) hd.1
    rw [this, zip_back ps vs (by simpa using h) hd.2]
theorem bind_plain {name : Str} {params : Arguments} {body : List Stmt} {scope : Scope} {pm cd doc : Value} (h1 : params.posonlyargs = []) (h2 : params.kwonlyargs = []) (h3 : params.vararg = none) (h4 : params.kwarg = none)
    (hnd : (params.args.map (·.arg)).Nodup) (vals : List Value) (hl : vals.length = params.args.length) : bindArgs (docDef name params body scope pm cd doc) ⟨vals, []⟩ = pure ((params.args.map (·.arg)).zip vals) := by
  obtain ⟨po, ar, va, kwo, kd, kwa, df⟩ := params
  simp only at h1 h2 h3 h4 hl hnd
  subst h1 h2 h3 h4
  have hm : ((ar.map (·.arg)).take (ar.map (·.arg)).length).filter (fun n => (((ar.map (·.arg)).zip vals).lookup n).isNone) = [] := by
    rw [List.take_length, List.filter_eq_nil_iff]
    intro n hn
    rw [lookup_zip _ _ (by simpa using hl) n hn]; simp
  have hg : ¬ (vals.length > (ar.map (·.arg)).length) := by rw [List.length_map]; omega
  have hb : (ar.map (·.arg)).filterMap (fun n => (((ar.map (·.arg)).zip vals).lookup n).map (n, ·)) = (ar.map (·.arg)).zip vals := zip_back _ _ (by simpa using hl) hnd
  have hs : seqItems? .none = pure none := rfl
  have e0 : ((none : Option (Array Value)).getD #[]).toList = [] := rfl
  unfold bindArgs docDef
  simp only [List.map_nil, List.nil_append, List.forIn_nil, pure_bind, hs, e0, hg, decide_false, Bool.false_and, Bool.false_eq_true, if_false, List.length_nil, List.drop_nil, Nat.sub_zero, hm, List.isEmpty_nil, Bool.not_true, List.drop_length, List.zip_nil_right, List.append_nil, hb, List.zip_nil_left]
end Mine

/- J1 -/
set_option tactic.hygienic false
/-! Mine: from a fragment of the heap to isinstance and except over own exception classes. -/
namespace Mine
open PySem PySem.Spec PySem.Calls PyProof.Rows PySem.W PySem.Builtin PySem.Builtin.ObjectAttr PySem.Builtin.Getset_descriptor
set_option maxRecDepth 100000

theorem ns_at {K : Frag} {h : Heap} {a : Addr} {mg : Str → Option Value} {o : Obj} {x : Str} {v : Value} (X : K.In h) (N : h.Ns a mg) (e : K.lookup a = some o) (hx : (match o.data with | .dict es _ => nsFind es x | _ => none) = some v) : mg x = some v := by
  obtain ⟨o', es, ep, ho, hd, _, hf⟩ := N
  rw [X a o e] at ho; cases ho
  rw [hd] at hx
  rw [← hf x]; exact hx

section
variable {prog : Program} {w : World} {A : Around} {E : Value → Shared → Prop} {s : Shared} {K : Frag} {x D : Addr}

/-- x.__class__, for an exception whose class is known: the type's own data descriptor answers -/
theorem class_of {Q : Option Value → Shared → Prop} (X : K.In s.heap) (LT : ∀ M, Looks M s.heap (typeOf (.ref x)) (.ref D)) (hga : findIn K (.ref D) "__getattribute__" = some (some (.builtin "BaseException.__getattribute__"))) (hgn : findIn K (.ref D) "__getattr__" = some none)
    (ha : findIn K (.ref D) "__class__" = some (some (.builtin "object.__class__")))
    (hn : specialIn K (.builtin "object.__class__") "__get__" = some (some (.builtin "getset_descriptor.__get__"))) (htk : takesIn K (.builtin "object.__class__") = some true) (hm : mroIn K D (.type "object") = some true) (hb : mroIn K D (.type "BaseException") = some true)
    (h : Q (some (.ref D)) { s with toks := s.toks + 1 }) : wpAny (model prog w) A (getAttr? (.ref x) "__class__") Q E s := by
  obtain ⟨hp, g, d, t, os⟩ := s
  have L := LT (model prog w)
  have l1 := looks_findIn (M := model prog w) X hga
  have l2 := looks_findIn (M := model prog w) X hgn
  have l3 := looks_findIn (M := model prog w) X ha
  have l4 : Looks (model prog w) hp (getOf (some (.builtin "object.__class__"))) (some (.builtin "getset_descriptor.__get__")) := looks_specialIn X hn
  have l5 : Looks (model prog w) hp (dataDescriptor? (some (.builtin "object.__class__")) (some (.builtin "getset_descriptor.__get__"))) (some (.builtin "getset_descriptor.__get__", .builtin "object.__class__")) := (looks_takesIn (M := model prog w) X htk).andThen .now
  have l6 : Looks (model prog w) hp (find (.ref x) (.ref D) "__class__") (.bind (.builtin "getset_descriptor.__get__") (.builtin "object.__class__")) := l3.andThen (l4.andThen (l5.andThen (.tag .now)))
  have l7 := looks_mroIn (M := model prog w) X hm
  have l8 := looks_mroIn (M := model prog w) X hb
  have FX := PySem.F.excAttr_ValueError
  have f3 : bindSpecial (.builtin "BaseException.__getattribute__") (.ref x) = pure (.builtin "BaseException.__getattribute__", [.ref x]) := FX.ga.bind (.ref x)
  have l9 : Looks (model prog w) hp (bindSpecial (.builtin "BaseException.__getattribute__") (.ref x)) (.builtin "BaseException.__getattribute__", [.ref x]) := Looks.of_pure f3
  have hx2 : (Value.builtin "BaseException.__getattribute__" == Value.builtin "object.__getattribute__") = false := by decide +kernel
  have hx1 : (onTheHeap (Value.ref D) && Value.builtin "BaseException.__getattribute__" == Value.builtin "object.__getattribute__") = false := by rw [hx2]; rfl
  unfold getAttr? getAttrBy? getAttrBy
  refine wpAny_bind (wpAny_mkText (wpAny_bind (wpAny_attempt (wpAny_holding (wpAny_bind (L.at (wpAny_bind (l1.at ?_))))))))
  simp only [hx1, Bool.false_eq_true, if_false]
  unfold getAttrByItsOwn
  refine wpAny_bind ?_
  show wpAny _ _ (typeLookup (.ref D) "__getattr__") _ _ _
  refine l2.at ?_
  refine wpAny_bind (wpAny_attempt (wpAny_holding ?_))
  show wpAny _ _ (boundAndCalled (.builtin "BaseException.__getattribute__") (.ref x) _) _ _ _
  unfold boundAndCalled
  refine wpAny_bind (l9.at ?_)
  show wpAny _ _ (call (.builtin "BaseException.__getattribute__") [.ref x, .str "__class__" _]) _ _ _
  have hk : builtinKind "BaseException.__getattribute__" = some .slot := by decide +kernel
  have hsplit : splitId "BaseException.__getattribute__" = some ("BaseException", "__getattribute__") := by decide +kernel
  have hargs := PySem.F.args_bexc_ga (.ref x) (.str "__class__" t)
  refine wpAny_call (codeAny_call_builtin FX.ga.plain PySem.F.entry_bexc_ga ?_)
  simp only [checkBuiltinCall, hk, hsplit]
  have li : Looks (model prog w) hp (isInstance (.ref x) (.type "BaseException")) true := L.andThen l8
  refine wpAny_bind (li.at ?_)
  simp only [Bool.not_true, Bool.false_eq_true, if_false]
  have hck : ∀ {Q' : Unit → Shared → Prop} {E' : Value → Shared → Prop} {A' : Around} {s' : Shared}, Q' () s' → wpAny (model prog w) A' (match Manifest.signature? "BaseException.__getattribute__" with | some sig => Bind.checkArgs "BaseException.__getattribute__" sig ⟨[.ref x, .str "__class__" t], []⟩ | _ => pure ()) Q' E' s' := by
    intro Q' E' A' s' q
    unfold argsOk at hargs
    cases hsig : Manifest.signature? "BaseException.__getattribute__" with
    | none => exact wpAny_pure q
    | some sig =>
      rw [hsig] at hargs
      have e : Bind.checkArgs "BaseException.__getattribute__" sig ⟨[.ref x, .str "__class__" t], []⟩ = pure () := hargs
      simp only
      rw [e]; exact wpAny_pure q
  refine hck ?_
  unfold Builtin.«object.__getattribute__»
  refine wpAny_bind (wpAny_pure ?_)
  show wpAny _ _ (attrName (.str "__class__" t) >>= _) _ _ _
  refine wpAny_bind (wpAny_pure ?_)
  refine wpAny_bind (L.at ?_)
  refine wpAny_bind (l6.at ?_)
  show wpAny _ _ (bindTo (.builtin "getset_descriptor.__get__") (.builtin "object.__class__") (.ref x) (.ref D)) _ _ _
  unfold bindTo
  show wpAny _ _ (holding [_] (call (.builtin "getset_descriptor.__get__") [.builtin "object.__class__", .ref x, .ref D]) >>= ret) _ _ _
  refine wpAny_bind (wpAny_holding (wpAny_call ?_))
  refine codeAny_call_builtin KF.slot_gs.plain KF.entry_gs (KF.slot_gs.check _ _ _ _ _ _ _ _ KF.type_class (KF.args_gs _ _ _) ?_)
  unfold Builtin.«getset_descriptor.__get__» descrGet
  rw [dga_obj]
  refine wpAny_bind (wpAny_pure ?_)
  unfold descrGetter descrCheckInstance descrNameAndClass isInstance
  simp only [KF.owner_class]
  repeat lk
  refine ⟨Code.quiet_builtin _ (by decide +kernel), codeAny_builtin KF.entry_class ?_⟩
  unfold Builtin.«object.__class__» shownTypeOf
  repeat lk
  exact h

/-- what is asked of an own exception class's place in the fragment -/
noncomputable def excIn (K : Frag) (D : Addr) : Bool := findIn K (.ref D) "__getattribute__" == some (some (.builtin "BaseException.__getattribute__")) && findIn K (.ref D) "__getattr__" == some none && mroIn K D (.type "BaseException") == some true && findIn K (.ref D) "__class__" == some (some (.builtin "object.__class__")) && specialIn K (.builtin "object.__class__") "__get__" == some (some (.builtin "getset_descriptor.__get__")) &&
  takesIn K (.builtin "object.__class__") == some true && mroIn K D (.type "object") == some true && (clsIn K D).isSome
noncomputable def ExcAt (x D : Addr) (h : Heap) : Prop := ∃ o, h.get? x = some o ∧ o.cls = .ref D

theorem kitx_exc (hD : excIn K D = true) : KitX K (.ref x) (.ref D) (ExcAt x D) := by
  unfold excIn at hD
  simp only [Bool.and_eq_true] at hD
  obtain ⟨⟨⟨⟨⟨⟨⟨h1, h7⟩, h8⟩, h2⟩, h3⟩, h4⟩, h5⟩, h6⟩ := hD
  have ty : ∀ (M : Model) (h : Heap), ExcAt x D h → Looks M h (typeOf (.ref x)) (.ref D) := fun M h ⟨o, ho, hc⟩ => hc ▸ (Looks.ld ho).andThen .now
  have hK : ∃ c d cd sl, K.lookup D = some ⟨c, d, .cls cd, sl⟩ := by
    unfold clsIn at h6
    split at h6
    · rename_i e; exact ⟨_, _, _, _, e⟩
    · cases h6
  obtain ⟨c, d, cd, sl, hK⟩ := hK
  refine ⟨fun M h _ p => ty M h p, fun M h X _ A Q E s k q => ?_, fun h tp dd its n sl' X htp => ?_, fun X p k => class_of X (fun M => ty M _ p) (beq_iff_eq.mp h1) (beq_iff_eq.mp h7) (beq_iff_eq.mp h2) (beq_iff_eq.mp h3) (beq_iff_eq.mp h4) (beq_iff_eq.mp h5) (beq_iff_eq.mp h8) k⟩
  · unfold isType loadHead
    exact wpAny_bind (wpAny_loadPart (k _ _ (X _ _ hK)) (wpAny_pure q))
  · refine Bool.eq_false_iff.mpr fun q => ?_
    have e : D = tp := Value.ref.inj (beq_iff_eq.mp q)
    subst e
    rw [X _ _ hK] at htp; cases htp

theorem isi_exc {c : Value} {b : Bool} {Q : Value → Shared → Prop} (hD : excIn K D = true) (X : K.In s.heap) (p : ExcAt x D s.heap) (e : kitOne K (.ref D) c = some b) (h : ∀ tk, Q (.bool b) { s with toks := tk }) :
    wpAny (model prog w) A (call (.builtin "isinstance") [.ref x, c]) Q E s := kia_one (kitx_exc hD) X p e (by intro z; cases z) h
theorem exm_exc {c : Value} {b : Bool} {Q : Bool → Shared → Prop} (X : K.In s.heap) (p : ExcAt x D s.heap) (e : exmOne K (.ref D) c = some b) (h : Q b s) : wpAny (model prog w) A (excMatches (.ref x) c) Q E s := by
  obtain ⟨o, ho, hc⟩ := p
  exact (exm_one (M := model prog w) X (hc ▸ (Looks.ld ho).andThen .now) e).here h
end
end Mine

/- L1 -/
set_option tactic.hygienic false
/-! Mine: plain trees and what the program's functions do with them. -/
namespace Mine.L
open PySem
set_option linter.unusedVariables false
set_option maxRecDepth 100000
set_option linter.unusedSimpArgs false

inductive Tr where
  | leaf
  | node (p : Bool) (l : Tr) (k : Int) (v : AV) (r : Tr)

namespace Tr
noncomputable def io : Tr → List (Int × AV)
  | leaf => []
  | node _ l k v r => io l ++ (k, v) :: io r
noncomputable def size (t : Tr) : Nat := t.io.length
noncomputable def red : Tr → Bool
  | leaf => false
  | node p _ _ _ _ => p
noncomputable def blk : Tr → Tr
  | leaf => leaf
  | node _ l k v r => node false l k v r
noncomputable def dep : Tr → Nat
  | leaf => 0
  | node _ l _ _ r => max (dep l) (dep r) + 1
noncomputable def BH : Tr → Nat → Prop
  | leaf, h => h = 0
  | node true l _ _ r, h => BH l h ∧ BH r h
  | node false l _ _ r, 0 => False
  | node false l _ _ r, h + 1 => BH l h ∧ BH r h
noncomputable def NR : Tr → Prop
  | leaf => True
  | node p l _ _ r => NR l ∧ NR r ∧ (p = true → red l = false ∧ red r = false)
end Tr
open Tr

noncomputable def enc : Tr → AV
  | .leaf => .none
  | .node p l k v r => .tup [.bool p, enc l, .int k, v, enc r, .int ((Tr.node p l k v r).size : Int)]

@[simp] theorem bq_true {R : Type} (a : R) (b : Th R) : @bq R true (.mk a) b = a := rfl
@[simp] theorem bq_false {R : Type} (a : Th R) (b : R) : @bq R false a (.mk b) = b := rfl
@[simp] theorem pkE_ok {α β : Type} (a : α) (σ : Sto) (f : α → Sto → Out β) : @qk _ _ (eE β) (.ok a σ) (.mk f) = f a σ := rfl
/-- the same, with a step that simp keeps -/
theorem bq_truec {R : Type} (a : R) (b : Th R) : @bq R true (.mk a) b = a := congrArg (fun x => x) rfl
theorem bq_falsec {R : Type} (a : Th R) (b : R) : @bq R false a (.mk b) = b := congrArg (fun x => x) rfl
theorem pkE_okc {α β : Type} (a : α) (σ : Sto) (f : α → Sto → Out β) : @qk _ _ (eE β) (.ok a σ) (.mk f) = f a σ := congrArg (fun x => x) rfl
@[simp] theorem pkE_exc {α β : Type} (c : Str) (σ : Sto) (f : α → Sto → Out β) : @qk _ _ (eE β) (.exc c σ) (.mk f) = .exc c σ := rfl
@[simp] theorem cmp_is (a : AV) (σ : Sto) : cmpop .Is a .none σ = .ok (.bool (isNone a)) σ := rfl
@[simp] theorem cmp_isnot (a : AV) (σ : Sto) : cmpop .IsNot a .none σ = .ok (.bool (!isNone a)) σ := rfl
theorem eqv_int (a b : Int) (σ : Sto) : eqv σ (.int a) (.int b) = some (a == b) := by
  show some (PyData.eqv (.int a) (.int b)) = _
  simp only [PyData.eqv]
@[simp] theorem cmp_eq (a b : Int) (σ : Sto) : cmpop .Eq (.int a) (.int b) σ = .ok (.bool (decide (a = b))) σ := by
  show okB (eqv σ (.int a) (.int b)) σ = _
  rw [eqv_int]; rfl
@[simp] theorem cmp_ne (a b : Int) (σ : Sto) : cmpop .NotEq (.int a) (.int b) σ = .ok (.bool (!decide (a = b))) σ := by
  show okB ((eqv σ (.int a) (.int b)).map (!·)) σ = _
  rw [eqv_int]; rfl
@[simp] theorem cmp_lt (a b : Int) (σ : Sto) : cmpop .Lt (.int a) (.int b) σ = .ok (.bool (decide (a < b))) σ := rfl
@[simp] theorem cmp_le (a b : Int) (σ : Sto) : cmpop .LtE (.int a) (.int b) σ = .ok (.bool (decide (a ≤ b))) σ := rfl
@[simp] theorem cmp_gt (a b : Int) (σ : Sto) : cmpop .Gt (.int a) (.int b) σ = .ok (.bool (decide (a > b))) σ := rfl
@[simp] theorem cmp_ge (a b : Int) (σ : Sto) : cmpop .GtE (.int a) (.int b) σ = .ok (.bool (decide (a ≥ b))) σ := rfl
@[simp] theorem tr_bool (b : Bool) (σ : Sto) : truthO (.bool b) σ = .ok b σ := rfl
@[simp] theorem b_add (a b : Int) (σ : Sto) : binop .Add (.int a) (.int b) σ = .ok (.int (a + b)) σ := rfl
@[simp] theorem b_sub (a b : Int) (σ : Sto) : binop .Sub (.int a) (.int b) σ = .ok (.int (a - b)) σ := rfl
@[simp] theorem it6_0 (a b c d e f : AV) (σ : Sto) : item (.tup [a, b, c, d, e, f]) (.int 0) σ = .ok a σ := rfl
@[simp] theorem it6_1 (a b c d e f : AV) (σ : Sto) : item (.tup [a, b, c, d, e, f]) (.int 1) σ = .ok b σ := rfl
@[simp] theorem it6_2 (a b c d e f : AV) (σ : Sto) : item (.tup [a, b, c, d, e, f]) (.int 2) σ = .ok c σ := rfl
@[simp] theorem it6_3 (a b c d e f : AV) (σ : Sto) : item (.tup [a, b, c, d, e, f]) (.int 3) σ = .ok d σ := rfl
@[simp] theorem it6_4 (a b c d e f : AV) (σ : Sto) : item (.tup [a, b, c, d, e, f]) (.int 4) σ = .ok e σ := rfl
@[simp] theorem it6_5 (a b c d e f : AV) (σ : Sto) : item (.tup [a, b, c, d, e, f]) (.int 5) σ = .ok f σ := rfl
@[simp] theorem it2_0 (a b : AV) (σ : Sto) : item (.tup [a, b]) (.int 0) σ = .ok a σ := rfl
@[simp] theorem it2_1 (a b : AV) (σ : Sto) : item (.tup [a, b]) (.int 1) σ = .ok b σ := rfl
@[simp] theorem it3_0 (a b c : AV) (σ : Sto) : item (.tup [a, b, c]) (.int 0) σ = .ok a σ := rfl
@[simp] theorem it3_1 (a b c : AV) (σ : Sto) : item (.tup [a, b, c]) (.int 1) σ = .ok b σ := rfl
@[simp] theorem it3_2 (a b c : AV) (σ : Sto) : item (.tup [a, b, c]) (.int 2) σ = .ok c σ := rfl
@[simp] theorem isNone_leaf : isNone (enc .leaf) = true := rfl
@[simp] theorem isNone_node (p l k v r) : isNone (enc (.node p l k v r)) = false := rfl
@[simp] theorem isNone_none : isNone .none = true := rfl
@[simp] theorem isNone_tup (xs) : isNone (.tup xs) = false := rfl

/-- room that is known leaves room for less -/
theorem fu {k m : Nat} (h : k ≤ m) {j : Nat} (hj : Nat.ble j k = true := by rfl) : j ≤ m := Nat.le_trans (Nat.le_of_ble_eq_true hj) h
theorem un {n : Nat} {k : Nat} (h : k + 1 ≤ n) : ∃ m, n = m + 1 ∧ k ≤ m := ⟨n - 1, by omega, by omega⟩
theorem cN (n lv : Nat) (f : Str) (xs : List AV) (σ : Sto) : callN PP (n + 1) lv f xs σ = callBody PP (callN PP n) lv f xs σ := rfl

theorem size_of_ok {n : Nat} (h : 1 ≤ n) (lv : Nat) (t : Tr) (σ : Sto) : callN PP n lv "size_of" [enc t] σ = .ok (.int (t.size : Int)) σ := by
  obtain ⟨m, rfl, _⟩ := un h
  rw [cN, size_of_K]
  cases t <;> simp [enc, size, io]
theorem knot_ok {n : Nat} (h : 2 ≤ n) (lv : Nat) (p : Bool) (l : Tr) (k : Int) (v : AV) (r : Tr) (σ : Sto) : callN PP n lv "knot" [.bool p, enc l, .int k, v, enc r] σ = .ok (enc (.node p l k v r)) σ := by
  obtain ⟨m, rfl, h'⟩ := un h
  rw [cN, knot_K]
  simp [size_of_ok h', enc, size, io]
  omega
theorem is_painted_ok {n : Nat} (h : 1 ≤ n) (lv : Nat) (t : Tr) (σ : Sto) : callN PP n lv "is_painted" [enc t] σ = .ok (.bool t.red) σ := by
  obtain ⟨m, rfl, _⟩ := un h
  rw [cN, is_painted_K]
  cases t <;> simp [enc, red]
theorem unpainted_ok {n : Nat} (h : 3 ≤ n) (lv : Nat) (t : Tr) (σ : Sto) : callN PP n lv "unpainted" [enc t] σ = .ok (enc t.blk) σ := by
  obtain ⟨m, rfl, h'⟩ := un h
  rw [cN, unpainted_K]
  rw [is_painted_ok (by omega)]
  cases t with
  | leaf => simp [enc, red, blk]
  | node p l k v r =>
    cases p
    · simp [enc, red, blk]
    · simp [red, blk, knot_ok h']
      simp [enc, knot_ok h']

/-- the test and the body of a while, and the body of a for -/
noncomputable def whT (f : Str) (i : Nat) (cf : Calls) (lv : Nat) : Loc → Sto → Out Bool := match PP.fn f with
  | some (_, body, sc) => (match body[i]? with
    | some (.While c _ _ _) => fun l σ => evTK PP cf lv sc c (fun l σ t k => evK PP cf lv sc c l σ t k) l σ (eE Bool) fun b σ => .ok b σ
    | _ => fun _ _ => .bad)
  | _ => fun _ _ => .bad
noncomputable def whB (f : Str) (i : Nat) (cf : Calls) (lv : Nat) : Loc → Sto → OutS := match PP.fn f with
  | some (_, body, sc) => (match body[i]? with
    | some (.While _ b _ _) => fun l σ => exsK PP cf sc b lv l σ ktS fun l σ => .ok .next l σ
    | some (.For _ _ b _ _) => fun l σ => exsK PP cf sc b lv l σ ktS fun l σ => .ok .next l σ
    | _ => fun _ _ => .bad)
  | _ => fun _ _ => .bad

theorem whileG_stop {T : Loc → Sto → Out Bool} {B : Loc → Sto → OutS} {f : Nat} {l : Loc} {σ : Sto} (h : T l σ = .ok false σ) : whileG T B (f + 1) l σ = .ok .next l σ := by
  simp [whileG, h]
theorem whileG_go {T : Loc → Sto → Out Bool} {B : Loc → Sto → OutS} {f : Nat} {l l' : Loc} {σ : Sto} (h : T l σ = .ok true σ) (hb : B l σ = .ok .next l' σ) : whileG T B (f + 1) l σ = whileG T B f l' σ := by
  simp [whileG, h, hb]

/-- return of a name -/
noncomputable def retL (x : Str) (l : Loc) (σ : Sto) : Out AV := match getL x l with
  | some v => .ok v σ
  | Option.none => .bad

theorem height_of_K (cf : Calls) (lv : Nat) (t : AV) (σ : Sto) : callBody PP cf lv "height_of" [t] σ =
    sk ktO (whileG (whT "height_of" 1 cf lv) (whB "height_of" 1 cf lv) 1000 [("tree", t), ("found", .int 0)] σ) (fun l σ => retL "found" l σ) := by
  rw [callBody_K PP cf lv "height_of" _ _ _ _ _ rfl rfl]
  kernel_rfl
theorem height_of_T (cf : Calls) (lv : Nat) (t f : AV) (σ : Sto) : whT "height_of" 1 cf lv [("tree", t), ("found", f)] σ = @qk _ _ (eE Bool) (cmpop .IsNot t .none σ) (.mk fun v σ => @qk _ _ (eE Bool) (truthO v σ) (.mk fun b σ => .ok b σ)) := by
  kernel_rfl
theorem height_of_B (cf : Calls) (lv : Nat) (t f : AV) (σ : Sto) : whB "height_of" 1 cf lv [("tree", t), ("found", f)] σ =
    @qk _ _ (ktS.e [("tree", t), ("found", f)]) (@qk _ _ (eE Bool) (item t (.int 0) σ) (.mk fun v σ => @qk _ _ (eE Bool) (truthO v σ) (.mk fun b σ => .ok (!b) σ))) (.mk fun c σ =>
      @bq _ (c) (.mk (@qk _ _ (ktS.e [("tree", t), ("found", f)]) (binop .Add f (.int 1) σ) (.mk fun v σ => @qk _ _ (ktS.e [("tree", t), ("found", v)]) (item t (.int 1) σ) (.mk fun u σ => .ok .next [("tree", u), ("found", v)] σ)))) (.mk (@qk _ _ (ktS.e [("tree", t), ("found", f)]) (item t (.int 1) σ) (.mk fun u σ => .ok .next [("tree", u), ("found", f)] σ)))) := by
  kernel_rfl

end Mine.L

/- L2 -/
set_option tactic.hygienic false
/-! Mine: plain trees, the walks. -/
namespace Mine.L
open PySem Tr
set_option linter.unusedVariables false
set_option maxRecDepth 100000
set_option linter.unusedSimpArgs false

@[simp] theorem pkS_ok {α : Type} (l : Loc) (a : α) (σ : Sto) (f : α → Sto → OutS) : @qk _ _ (ktS.e l) (.ok a σ) (.mk f) = f a σ := rfl
@[simp] theorem skO_next (l : Loc) (σ : Sto) (k : Loc → Sto → Out AV) : sk ktO (.ok .next l σ) k = k l σ := rfl
@[simp] theorem skO_ret (v : AV) (l : Loc) (σ : Sto) (k : Loc → Sto → Out AV) : sk ktO (.ok (.ret v) l σ) k = .ok v σ := rfl
@[simp] theorem skO_exc (c : Str) (l : Loc) (σ : Sto) (k : Loc → Sto → Out AV) : sk ktO (.exc c l σ) k = .exc c σ := rfl

theorem height_loop (cf : Calls) (lv : Nat) (σ : Sto) : ∀ (t : Tr) (h f : Nat) (found : Int), BH t h → dep t < f →
    whileG (whT "height_of" 1 cf lv) (whB "height_of" 1 cf lv) f [("tree", enc t), ("found", .int found)] σ = .ok .next [("tree", .none), ("found", .int (found + h))] σ
  | .leaf, h, f + 1, found, hb, _ => by
    simp only [BH] at hb; subst hb
    rw [whileG_stop]
    · simp [enc]
    · rw [height_of_T]; simp
  | .node p l k v r, h, f + 1, found, hb, hf => by
    simp only [dep] at hf
    rw [whileG_go (l' := [("tree", enc l), ("found", .int (found + bif p then 0 else 1))])]
    · cases p with
      | true =>
        simp only [BH] at hb
        rw [height_loop cf lv σ l h f _ hb.1 (by omega)]; simp
      | false =>
        cases h with
        | zero => exact hb.elim
        | succ h =>
          simp only [BH] at hb
          rw [height_loop cf lv σ l h f _ hb.1 (by omega)]
          simp; omega
    · rw [height_of_T]; simp
    · rw [height_of_B]
      cases p <;> simp [enc]
theorem height_of_ok {n : Nat} (hn : 1 ≤ n) (lv : Nat) {t : Tr} {h : Nat} (hb : BH t h) (hd : dep t < 1000) (σ : Sto) : callN PP n lv "height_of" [enc t] σ = .ok (.int h) σ := by
  obtain ⟨m, rfl, _⟩ := un hn
  rw [cN, height_of_K, height_loop _ _ _ t h 1000 0 hb hd]
  simp [retL, getL]
  rfl

theorem greatest_K (cf : Calls) (lv : Nat) (t : AV) (σ : Sto) : callBody PP cf lv "greatest" [t] σ =
    sk ktO (whileG (whT "greatest" 0 cf lv) (whB "greatest" 0 cf lv) 1000 [("tree", t)] σ) (fun l σ => retL "tree" l σ) := by
  rw [callBody_K PP cf lv "greatest" _ _ _ _ _ rfl rfl]
  kernel_rfl
theorem greatest_T (cf : Calls) (lv : Nat) (t : AV) (σ : Sto) : whT "greatest" 0 cf lv [("tree", t)] σ = @qk _ _ (eE Bool) (item t (.int 4) σ) (.mk fun v σ => @qk _ _ (eE Bool) (cmpop .IsNot v .none σ) (.mk fun v σ => @qk _ _ (eE Bool) (truthO v σ) (.mk fun b σ => .ok b σ))) := by
  kernel_rfl
theorem greatest_B (cf : Calls) (lv : Nat) (t : AV) (σ : Sto) : whB "greatest" 0 cf lv [("tree", t)] σ = @qk _ _ (ktS.e [("tree", t)]) (item t (.int 4) σ) (.mk fun u σ => .ok .next [("tree", u)] σ) := by
  kernel_rfl
theorem least_K (cf : Calls) (lv : Nat) (t : AV) (σ : Sto) : callBody PP cf lv "least" [t] σ =
    sk ktO (whileG (whT "least" 0 cf lv) (whB "least" 0 cf lv) 1000 [("tree", t)] σ) (fun l σ => retL "tree" l σ) := by
  rw [callBody_K PP cf lv "least" _ _ _ _ _ rfl rfl]
  kernel_rfl
theorem least_T (cf : Calls) (lv : Nat) (t : AV) (σ : Sto) : whT "least" 0 cf lv [("tree", t)] σ = @qk _ _ (eE Bool) (item t (.int 1) σ) (.mk fun v σ => @qk _ _ (eE Bool) (cmpop .IsNot v .none σ) (.mk fun v σ => @qk _ _ (eE Bool) (truthO v σ) (.mk fun b σ => .ok b σ))) := by
  kernel_rfl
theorem least_B (cf : Calls) (lv : Nat) (t : AV) (σ : Sto) : whB "least" 0 cf lv [("tree", t)] σ = @qk _ _ (ktS.e [("tree", t)]) (item t (.int 1) σ) (.mk fun u σ => .ok .next [("tree", u)] σ) := by
  kernel_rfl

theorem greatest_loop : ∀ (t : Tr) (f : Nat) (p : Bool) (l : Tr) (k : Int) (v : AV), dep t < f →
    ∃ p' l' k' v' pre, (∀ cf lv σ, whileG (whT "greatest" 0 cf lv) (whB "greatest" 0 cf lv) f [("tree", enc (.node p l k v t))] σ = .ok .next [("tree", enc (.node p' l' k' v' .leaf))] σ) ∧ io (.node p l k v t) = pre ++ [(k', v')]
  | .leaf, f + 1, p, l, k, v, _ => by
    refine ⟨p, l, k, v, io l, fun cf lv σ => ?_, by simp [io]⟩
    rw [whileG_stop]
    rw [greatest_T]; simp [enc]
  | .node p₁ l₁ k₁ v₁ r₁, f + 1, p, l, k, v, hf => by
    simp only [dep] at hf
    obtain ⟨p', l', k', v', pre, h1, h2⟩ := greatest_loop r₁ f p₁ l₁ k₁ v₁ (by omega)
    refine ⟨p', l', k', v', io l ++ (k, v) :: pre, fun cf lv σ => ?_, ?_⟩
    · rw [whileG_go (l' := [("tree", enc (.node p₁ l₁ k₁ v₁ r₁))])]
      · exact h1 cf lv σ
      · rw [greatest_T]; simp [enc]
      · rw [greatest_B]; simp [enc]
    · rw [io, h2]; simp
theorem greatest_ok {t : Tr} (ht : t ≠ .leaf) (hd : dep t < 1000) : ∃ p' l' k' v' pre, (∀ n lv σ, 1 ≤ n → callN PP n lv "greatest" [enc t] σ = .ok (enc (.node p' l' k' v' .leaf)) σ) ∧ io t = pre ++ [(k', v')] := by
  cases t with
  | leaf => exact absurd rfl ht
  | node p l k v r =>
    simp only [dep] at hd
    obtain ⟨p', l', k', v', pre, h1, h2⟩ := greatest_loop r 1000 p l k v (by omega)
    refine ⟨p', l', k', v', pre, fun n lv σ hn => ?_, h2⟩
    obtain ⟨m, rfl, _⟩ := un hn
    rw [cN, greatest_K, h1]
    rfl

theorem least_loop : ∀ (t : Tr) (f : Nat) (p : Bool) (r : Tr) (k : Int) (v : AV), dep t < f →
    ∃ p' r' k' v' post, (∀ cf lv σ, whileG (whT "least" 0 cf lv) (whB "least" 0 cf lv) f [("tree", enc (.node p t k v r))] σ = .ok .next [("tree", enc (.node p' .leaf k' v' r'))] σ) ∧ io (.node p t k v r) = (k', v') :: post
  | .leaf, f + 1, p, r, k, v, _ => by
    refine ⟨p, r, k, v, io r, fun cf lv σ => ?_, by simp [io]⟩
    rw [whileG_stop]
    rw [least_T]; simp [enc]
  | .node p₁ l₁ k₁ v₁ r₁, f + 1, p, r, k, v, hf => by
    simp only [dep] at hf
    obtain ⟨p', l', k', v', post, h1, h2⟩ := least_loop l₁ f p₁ r₁ k₁ v₁ (by omega)
    refine ⟨p', l', k', v', post ++ (k, v) :: io r, fun cf lv σ => ?_, ?_⟩
    · rw [whileG_go (l' := [("tree", enc (.node p₁ l₁ k₁ v₁ r₁))])]
      · exact h1 cf lv σ
      · rw [least_T]; simp [enc]
      · rw [least_B]; simp [enc]
    · rw [io, h2]; simp
theorem least_ok {t : Tr} (ht : t ≠ .leaf) (hd : dep t < 1000) : ∃ p' r' k' v' post, (∀ n lv σ, 1 ≤ n → callN PP n lv "least" [enc t] σ = .ok (enc (.node p' .leaf k' v' r')) σ) ∧ io t = (k', v') :: post := by
  cases t with
  | leaf => exact absurd rfl ht
  | node p l k v r =>
    simp only [dep] at hd
    obtain ⟨p', l', k', v', pre, h1, h2⟩ := least_loop l 1000 p r k v (by omega)
    refine ⟨p', l', k', v', pre, fun n lv σ hn => ?_, h2⟩
    obtain ⟨m, rfl, _⟩ := un hn
    rw [cN, least_K, h1]
    rfl
end Mine.L

/- L3 -/
set_option tactic.hygienic false
/-! Mine: plain trees, joining. -/
namespace Mine.L
open PySem Tr
set_option linter.unusedVariables false
set_option maxRecDepth 100000
set_option linter.unusedSimpArgs false

@[simp] theorem ei0 (p l k v r) (σ : Sto) : item (enc (.node p l k v r)) (.int 0) σ = .ok (.bool p) σ := rfl
@[simp] theorem ei1 (p l k v r) (σ : Sto) : item (enc (.node p l k v r)) (.int 1) σ = .ok (enc l) σ := rfl
@[simp] theorem ei2 (p l k v r) (σ : Sto) : item (enc (.node p l k v r)) (.int 2) σ = .ok (.int k) σ := rfl
@[simp] theorem ei3 (p l k v r) (σ : Sto) : item (enc (.node p l k v r)) (.int 3) σ = .ok v σ := rfl
@[simp] theorem ei4 (p l k v r) (σ : Sto) : item (enc (.node p l k v r)) (.int 4) σ = .ok (enc r) σ := rfl
@[simp] theorem ei5 (p l k v r) (σ : Sto) : item (enc (.node p l k v r)) (.int 5) σ = .ok (.int (size (.node p l k v r) : Int)) σ := rfl

theorem red_node (p l k v r) : red (.node p l k v r) = p := rfl
theorem red_leaf : red .leaf = false := rfl
theorem io_blk (t : Tr) : io (blk t) = io t := by cases t <;> rfl
theorem NR_blk {t : Tr} (h : NR t) : NR (blk t) := by
  cases t with
  | leaf => trivial
  | node p l k v r => exact ⟨h.1, h.2.1, fun z => by cases z⟩
theorem red_blk (t : Tr) : red (blk t) = false := by cases t <;> rfl
theorem BH_blk {t : Tr} {h : Nat} (x : BH t h) : ∃ h', BH (blk t) h' := by
  cases t with
  | leaf => exact ⟨0, rfl⟩
  | node p l k v r => cases p with
    | true => exact ⟨h + 1, x⟩
    | false => exact ⟨h, x⟩
theorem BH_blk_red {t : Tr} {h : Nat} (x : BH t h) (r : red t = true) : BH (blk t) (h + 1) := by
  cases t with
  | leaf => cases r
  | node p l k v r' => cases p with
    | true => exact x
    | false => cases r
theorem dep_blk (t : Tr) : dep (blk t) = dep t := by cases t <;> rfl

noncomputable def AR : Tr → Prop
  | .leaf => False
  | .node p l _ _ r => NR l ∧ NR r ∧ (p = true → red l = false)
noncomputable def AL : Tr → Prop
  | .leaf => False
  | .node p l _ _ r => NR l ∧ NR r ∧ (p = true → red r = false)
theorem AR.blk {t : Tr} (h : AR t) : NR (Tr.blk t) := by
  cases t with
  | leaf => exact h.elim
  | node p l k v r => exact ⟨h.1, h.2.1, fun z => by cases z⟩
theorem AL.blk {t : Tr} (h : AL t) : NR (Tr.blk t) := by
  cases t with
  | leaf => exact h.elim
  | node p l k v r => exact ⟨h.1, h.2.1, fun z => by cases z⟩

theorem hung_right_ok (k : Int) (v : AV) (o : Tr) (w : Nat) (hob : BH o w) (hon : NR o) (hor : red o = false) : ∀ (one : Tr) (h : Nat), BH one h → NR one → w ≤ h →
    ∃ t, (∀ n lv σ, dep one + 5 ≤ n → callN PP n lv "hung_right" [enc one, .int h, .int k, v, enc o, .int w] σ = .ok (enc t) σ) ∧ io t = io one ++ (k, v) :: io o ∧ BH t h ∧ AR t ∧ (red one = false → NR t) := by
  intro one
  induction one with
  | leaf =>
    intro h hb _ hw
    simp only [BH] at hb; subst hb
    have : w = 0 := by omega
    subst this
    refine ⟨.node true .leaf k v o, fun n lv σ hn => ?_, rfl, ⟨rfl, hob⟩, ⟨trivial, hon, fun _ => rfl⟩, fun _ => ⟨trivial, hon, fun _ => ⟨rfl, hor⟩⟩⟩
    obtain ⟨m, rfl, hm⟩ := un (show 4 + 1 ≤ n by simp [dep] at hn; omega)
    rw [cN, hung_right_K]
    simp (disch := first | exact fu hm | omega) [is_painted_ok, knot_ok, red_node, red_leaf]
  | node p l k₁ v₁ r _ ihr =>
    intro h hb hn hw
    by_cases hst : h = w ∧ p = false
    · obtain ⟨rfl, rfl⟩ := hst
      refine ⟨.node true (.node false l k₁ v₁ r) k v o, fun n lv σ hn => ?_, rfl, ⟨hb, hob⟩, ⟨hn, hon, fun _ => rfl⟩, fun _ => ⟨hn, hon, fun _ => ⟨rfl, hor⟩⟩⟩
      obtain ⟨m, rfl, hm⟩ := un (show 4 + 1 ≤ n by simp [dep] at hn; omega)
      rw [cN, hung_right_K]
      simp (disch := first | exact fu hm | omega) [is_painted_ok, knot_ok, red_node, red_leaf]
    · cases p with
      | false =>
        have hne : h ≠ w := fun q => hst ⟨q, rfl⟩
        cases h with
        | zero => exact hb.elim
        | succ h =>
        simp only [BH] at hb
        obtain ⟨t', c1, c2, c3, c4, c5⟩ := ihr h hb.2 hn.2.1 (by first | exact fu hm | omega)
        have hne' : ¬ ((h : Int) + 1 = (w : Int)) := by omega
        have e1 : ((h : Int) + 1 - 1) = (h : Int) := by omega
        cases t' with
        | leaf => exact c4.elim
        | node q a k₂ v₂ b =>
          by_cases hr : q = true ∧ red b = true
          · obtain ⟨rfl, hrb⟩ := hr
            refine ⟨.node true (.node false l k₁ v₁ a) k₂ v₂ (blk b), fun n lv σ hn => ?_, ?_, ⟨⟨hb.1, c3.1⟩, BH_blk_red c3.2 hrb⟩, ⟨⟨hn.1, c4.1, fun z => by cases z⟩, NR_blk c4.2.1, fun _ => rfl⟩, fun _ => ⟨⟨hn.1, c4.1, fun z => by cases z⟩, NR_blk c4.2.1, fun _ => ⟨rfl, red_blk _⟩⟩⟩
            · simp only [dep] at hn
              obtain ⟨m, rfl, hm⟩ := un (show max (dep l) (dep r) + 5 + 1 ≤ n by omega)
              rw [cN, hung_right_K]
              have := c1 m lv σ (by first | exact fu hm | omega)
              simp (disch := first | exact fu hm | omega) [is_painted_ok, knot_ok, unpainted_ok, red_node, red_leaf, hne', e1, this, hrb]
            · simp only [io] at c2 ⊢
              rw [io_blk]
              simp only [List.append_assoc, List.cons_append] at c2 ⊢
              rw [c2]
          · refine ⟨.node false l k₁ v₁ (.node q a k₂ v₂ b), fun n lv σ hn => ?_, ?_, ⟨hb.1, c3⟩, ?_⟩
            · simp only [dep] at hn
              obtain ⟨m, rfl, hm⟩ := un (show max (dep l) (dep r) + 5 + 1 ≤ n by omega)
              rw [cN, hung_right_K]
              have := c1 m lv σ (by first | exact fu hm | omega)
              cases q with
              | false => simp (disch := first | exact fu hm | omega) [is_painted_ok, knot_ok, unpainted_ok, red_node, red_leaf, hne', e1, this]
              | true =>
                have hrb : red b = false := by simpa using hr
                simp (disch := first | exact fu hm | omega) [is_painted_ok, knot_ok, unpainted_ok, red_node, red_leaf, hne', e1, this, hrb]
            · simp only [io] at c2 ⊢
              rw [c2]; simp
            · have : NR (.node q a k₂ v₂ b) := ⟨c4.1, c4.2.1, fun z => ⟨c4.2.2 z, by subst z; simpa using hr⟩⟩
              exact ⟨⟨hn.1, this, fun z => by cases z⟩, fun _ => ⟨hn.1, this, fun z => by cases z⟩⟩
      | true =>
        simp only [BH] at hb
        obtain ⟨t', c1, c2, c3, c4, c5⟩ := ihr h hb.2 hn.2.1 (by first | exact fu hm | omega)
        have hlr := hn.2.2 rfl
        refine ⟨.node true l k₁ v₁ t', fun n lv σ hn => ?_, ?_, ⟨hb.1, c3⟩, ⟨hn.1, c5 hlr.2, fun _ => hlr.1⟩, fun z => by cases z⟩
        · simp only [dep] at hn
          obtain ⟨m, rfl, hm⟩ := un (show max (dep l) (dep r) + 5 + 1 ≤ n by omega)
          rw [cN, hung_right_K]
          have := c1 m lv σ (by first | exact fu hm | omega)
          cases hd : decide ((h : Int) = (w : Int)) <;> simp (disch := first | exact fu hm | omega) [is_painted_ok, knot_ok, unpainted_ok, red_node, red_leaf, this, hd]
        · simp only [io] at c2 ⊢
          rw [c2]; simp

theorem hung_left_ok (k : Int) (v : AV) (one : Tr) (w : Nat) (hob : BH one w) (hon : NR one) (hor : red one = false) : ∀ (o : Tr) (h : Nat), BH o h → NR o → w ≤ h →
    ∃ t, (∀ n lv σ, dep o + 5 ≤ n → callN PP n lv "hung_left" [enc one, .int w, .int k, v, enc o, .int h] σ = .ok (enc t) σ) ∧ io t = io one ++ (k, v) :: io o ∧ BH t h ∧ AL t ∧ (red o = false → NR t) := by
  intro o
  induction o with
  | leaf =>
    intro h hb _ hw
    simp only [BH] at hb; subst hb
    have : w = 0 := by omega
    subst this
    refine ⟨.node true one k v .leaf, fun n lv σ hn => ?_, rfl, ⟨hob, rfl⟩, ⟨hon, trivial, fun _ => rfl⟩, fun _ => ⟨hon, trivial, fun _ => ⟨hor, rfl⟩⟩⟩
    obtain ⟨m, rfl, hm⟩ := un (show 4 + 1 ≤ n by simp [dep] at hn; omega)
    rw [cN, hung_left_K]
    simp (disch := first | exact fu hm | omega) [is_painted_ok, knot_ok, red_node, red_leaf]
  | node p l k₁ v₁ r ihl _ =>
    intro h hb hn hw
    by_cases hst : h = w ∧ p = false
    · obtain ⟨rfl, rfl⟩ := hst
      refine ⟨.node true one k v (.node false l k₁ v₁ r), fun n lv σ hn => ?_, rfl, ⟨hob, hb⟩, ⟨hon, hn, fun _ => rfl⟩, fun _ => ⟨hon, hn, fun _ => ⟨hor, rfl⟩⟩⟩
      obtain ⟨m, rfl, hm⟩ := un (show 4 + 1 ≤ n by simp [dep] at hn; omega)
      rw [cN, hung_left_K]
      simp (disch := first | exact fu hm | omega) [is_painted_ok, knot_ok, red_node, red_leaf]
    · cases p with
      | false =>
        have hne : h ≠ w := fun q => hst ⟨q, rfl⟩
        cases h with
        | zero => exact hb.elim
        | succ h =>
        simp only [BH] at hb
        obtain ⟨t', c1, c2, c3, c4, c5⟩ := ihl h hb.1 hn.1 (by first | exact fu hm | omega)
        have hne' : ¬ ((h : Int) + 1 = (w : Int)) := by omega
        have e1 : ((h : Int) + 1 - 1) = (h : Int) := by omega
        cases t' with
        | leaf => exact c4.elim
        | node q a k₂ v₂ b =>
          by_cases hr : q = true ∧ red a = true
          · obtain ⟨rfl, hrb⟩ := hr
            refine ⟨.node true (blk a) k₂ v₂ (.node false b k₁ v₁ r), fun n lv σ hn => ?_, ?_, ⟨BH_blk_red c3.1 hrb, c3.2, hb.2⟩, ⟨NR_blk c4.1, ⟨c4.2.1, hn.2.1, fun z => by cases z⟩, fun _ => rfl⟩, fun _ => ⟨NR_blk c4.1, ⟨c4.2.1, hn.2.1, fun z => by cases z⟩, fun _ => ⟨red_blk _, rfl⟩⟩⟩
            · simp only [dep] at hn
              obtain ⟨m, rfl, hm⟩ := un (show max (dep l) (dep r) + 5 + 1 ≤ n by omega)
              rw [cN, hung_left_K]
              have := c1 m lv σ (by first | exact fu hm | omega)
              simp (disch := first | exact fu hm | omega) [is_painted_ok, knot_ok, unpainted_ok, red_node, red_leaf, hne', e1, this, hrb]
            · simp only [io] at c2 ⊢
              rw [io_blk]
              rw [show io a ++ (k₂, v₂) :: (io b ++ (k₁, v₁) :: io r) = (io a ++ (k₂, v₂) :: io b) ++ (k₁, v₁) :: io r by simp, c2]
              simp
          · refine ⟨.node false (.node q a k₂ v₂ b) k₁ v₁ r, fun n lv σ hn => ?_, ?_, ⟨c3, hb.2⟩, ?_⟩
            · simp only [dep] at hn
              obtain ⟨m, rfl, hm⟩ := un (show max (dep l) (dep r) + 5 + 1 ≤ n by omega)
              rw [cN, hung_left_K]
              have := c1 m lv σ (by first | exact fu hm | omega)
              cases q with
              | false => simp (disch := first | exact fu hm | omega) [is_painted_ok, knot_ok, unpainted_ok, red_node, red_leaf, hne', e1, this]
              | true =>
                have hrb : red a = false := by simpa using hr
                simp (disch := first | exact fu hm | omega) [is_painted_ok, knot_ok, unpainted_ok, red_node, red_leaf, hne', e1, this, hrb]
            · rw [io, c2]; simp [io]
            · have : NR (.node q a k₂ v₂ b) := ⟨c4.1, c4.2.1, fun z => ⟨by subst z; simpa using hr, c4.2.2 z⟩⟩
              exact ⟨⟨this, hn.2.1, fun z => by cases z⟩, fun _ => ⟨this, hn.2.1, fun z => by cases z⟩⟩
      | true =>
        simp only [BH] at hb
        obtain ⟨t', c1, c2, c3, c4, c5⟩ := ihl h hb.1 hn.1 (by first | exact fu hm | omega)
        have hlr := hn.2.2 rfl
        refine ⟨.node true t' k₁ v₁ r, fun n lv σ hn => ?_, ?_, ⟨c3, hb.2⟩, ⟨c5 hlr.1, hn.2.1, fun _ => hlr.2⟩, fun z => by cases z⟩
        · simp only [dep] at hn
          obtain ⟨m, rfl, hm⟩ := un (show max (dep l) (dep r) + 5 + 1 ≤ n by omega)
          rw [cN, hung_left_K]
          have := c1 m lv σ (by first | exact fu hm | omega)
          cases hd : decide ((h : Int) = (w : Int)) <;> simp (disch := first | exact fu hm | omega) [is_painted_ok, knot_ok, unpainted_ok, red_node, red_leaf, this, hd]
        · rw [io, c2]; simp [io]

/-- a tree without two reds in a row, as many blacks on each way -/
noncomputable def Good (t : Tr) : Prop := NR t ∧ ∃ h, BH t h

theorem BH_size : ∀ (t : Tr) (h : Nat), BH t h → 2 ^ h ≤ size t + 1
  | .leaf, h, b => by simp only [BH] at b; subst b; simp [size, io]
  | .node true l k v r, h, b => by
    have := BH_size l h b.1
    simp only [size, io, List.length_append, List.length_cons] at this ⊢; omega
  | .node false l k v r, 0, b => b.elim
  | .node false l k v r, h + 1, b => by
    have h1 := BH_size l h b.1
    have h2 := BH_size r h b.2
    simp only [size, io, List.length_append, List.length_cons] at h1 h2 ⊢
    rw [Nat.pow_succ]; omega
theorem dep_le : ∀ (t : Tr) (h : Nat), BH t h → NR t → dep t ≤ 2 * h + bif red t then 1 else 0
  | .leaf, h, b, _ => by simp [dep]
  | .node true l k v r, h, b, n => by
    have h1 := dep_le l h b.1 n.1
    have h2 := dep_le r h b.2 n.2.1
    have := n.2.2 rfl
    rw [this.1] at h1; rw [this.2] at h2
    simp only [dep, red_node, cond_true, bq_true, cond_false, bq_false] at h1 h2 ⊢; omega
  | .node false l k v r, 0, b, _ => b.elim
  | .node false l k v r, h + 1, b, n => by
    have h1 := dep_le l h b.1 n.1
    have h2 := dep_le r h b.2 n.2.1
    have e1 : (bif red l then 1 else 0) ≤ 1 := by cases red l <;> simp
    have e2 : (bif red r then 1 else 0) ≤ 1 := by cases red r <;> simp
    simp only [dep, red_node, cond_true, bq_true, cond_false, bq_false] at h1 h2 ⊢; omega
theorem Good.dep {t : Tr} (g : Good t) (hs : size t ≤ 1000) : Tr.dep t ≤ 19 := by
  obtain ⟨n, h, b⟩ := g
  have h1 := BH_size t h b
  have h2 := dep_le t h b n
  have e1 : (bif red t then 1 else 0) ≤ 1 := by cases red t <;> simp
  have : h < 10 := by
    rcases Nat.lt_or_ge h 10 with q | q
    · exact q
    · have := Nat.pow_le_pow_right (n := 2) (by first | exact fu hm | omega) q
      omega
  omega
theorem size_blk (t : Tr) : size (blk t) = size t := by simp [size, io_blk]
theorem Good.blk {t : Tr} (g : Good t) : Good (Tr.blk t) := ⟨NR_blk g.1, let ⟨_, b⟩ := g.2; BH_blk b⟩

theorem bound_ok (one other : Tr) (k : Int) (v : AV) (g1 : Good one) (g2 : Good other) (s1 : size one ≤ 1000) (s2 : size other ≤ 1000) :
    ∃ t, (∀ n lv σ, 30 ≤ n → callN PP n lv "bound" [enc one, .int k, v, enc other] σ = .ok (enc t) σ) ∧ io t = io one ++ (k, v) :: io other ∧ Good t ∧ red t = false := by
  have d1 := g1.blk.dep (by rw [size_blk]; exact s1)
  have d2 := g2.blk.dep (by rw [size_blk]; exact s2)
  obtain ⟨n1, a, b1⟩ := g1.blk
  obtain ⟨n2, b, b2⟩ := g2.blk
  by_cases hab : a = b
  · subst hab
    refine ⟨.node false (blk one) k v (blk other), fun n lv σ hn => ?_, by simp [io, io_blk], ⟨⟨n1, n2, fun z => by cases z⟩, a + 1, b1, b2⟩, rfl⟩
    obtain ⟨m, rfl, hm⟩ := un (show 29 + 1 ≤ n by first | exact hn | omega)
    rw [cN, bound_K]
    simp (disch := first | exact fu hm | omega) [unpainted_ok, height_of_ok (t := blk one) (h := a) _ _ b1, height_of_ok (t := blk other) (h := a) _ _ b2, knot_ok]
  · have hab' : ¬ ((a : Int) = (b : Int)) := by omega
    by_cases hlt : b < a
    · obtain ⟨t, c1, c2, c3, c4, c5⟩ := hung_right_ok k v (blk other) b b2 n2 (red_blk _) (blk one) a b1 n1 (by first | exact fu hm | omega)
      refine ⟨blk t, fun n lv σ hn => ?_, by rw [io_blk, c2, io_blk, io_blk], ⟨c4.blk, BH_blk c3⟩, red_blk _⟩
      obtain ⟨m, rfl, hm⟩ := un (show 29 + 1 ≤ n by first | exact hn | omega)
      rw [cN, bound_K]
      have := c1 m lv σ (by first | exact fu hm | omega)
      have hlt' : (b : Int) < (a : Int) := by omega
      simp (disch := first | exact fu hm | omega) [unpainted_ok, height_of_ok (t := blk one) (h := a) _ _ b1, height_of_ok (t := blk other) (h := b) _ _ b2, knot_ok, hab', hlt', this]
    · obtain ⟨t, c1, c2, c3, c4, c5⟩ := hung_left_ok k v (blk one) a b1 n1 (red_blk _) (blk other) b b2 n2 (by first | exact fu hm | omega)
      refine ⟨blk t, fun n lv σ hn => ?_, by rw [io_blk, c2, io_blk, io_blk], ⟨c4.blk, BH_blk c3⟩, red_blk _⟩
      obtain ⟨m, rfl, hm⟩ := un (show 29 + 1 ≤ n by first | exact hn | omega)
      rw [cN, bound_K]
      have := c1 m lv σ (by first | exact fu hm | omega)
      have hlt' : ¬ ((b : Int) < (a : Int)) := by omega
      simp (disch := first | exact fu hm | omega) [unpainted_ok, height_of_ok (t := blk one) (h := a) _ _ b1, height_of_ok (t := blk other) (h := b) _ _ b2, knot_ok, hab', hlt', this]
end Mine.L

/- L4 -/
set_option tactic.hygienic false
/-! Mine: plain trees, cutting and laying. -/
namespace Mine.L
open PySem Tr
set_option linter.unusedVariables false
set_option maxRecDepth 100000
set_option linter.unusedSimpArgs false

noncomputable def Srt (l : List (Int × AV)) : Prop := l.Pairwise fun a b => a.1 < b.1
theorem Good.left {p l k v r} (g : Good (.node p l k v r)) : Good l := by
  obtain ⟨n, h, b⟩ := g
  refine ⟨n.1, ?_⟩
  cases p with
  | true => exact ⟨h, b.1⟩
  | false => cases h with
    | zero => exact b.elim
    | succ h => exact ⟨h, b.1⟩
theorem Good.right {p l k v r} (g : Good (.node p l k v r)) : Good r := by
  obtain ⟨n, h, b⟩ := g
  refine ⟨n.2.1, ?_⟩
  cases p with
  | true => exact ⟨h, b.2⟩
  | false => cases h with
    | zero => exact b.elim
    | succ h => exact ⟨h, b.2⟩
theorem Good.leaf : Good .leaf := ⟨trivial, 0, rfl⟩
theorem size_node (p l k v r) : size (.node p l k v r) = size l + 1 + size r := by simp [size, io]; omega
theorem Srt.node {l r : List (Int × AV)} {k : Int} {v : AV} (h : Srt (l ++ (k, v) :: r)) : Srt l ∧ Srt r ∧ (∀ x ∈ l, x.1 < k) ∧ (∀ x ∈ r, k < x.1) ∧ (∀ x ∈ l, ∀ y ∈ r, x.1 < y.1) := by
  unfold Srt at h
  rw [List.pairwise_append, List.pairwise_cons] at h
  exact ⟨h.1, h.2.1.2, fun x hx => h.2.2 x hx (k, v) (.head _), fun x hx => h.2.1.1 x hx, fun x hx y hy => h.2.2 x hx y (.tail _ hy)⟩

theorem fl_all {l : List (Int × AV)} {p : Int × AV → Bool} (h : ∀ x ∈ l, p x = true) : l.filter p = l := List.filter_eq_self.mpr h
theorem fl_none {l : List (Int × AV)} {p : Int × AV → Bool} (h : ∀ x ∈ l, p x = false) : l.filter p = [] := List.filter_eq_nil_iff.mpr fun x hx => by rw [h x hx]; decide

noncomputable def midOf : Option (Int × AV) → AV
  | some (k, v) => .tup [.int k, v]
  | none => .none

theorem cut_at_ok (key : Int) : ∀ (t : Tr), Good t → Srt (io t) → size t ≤ 1000 →
    ∃ lo hi, (∀ n lv σ, dep t + 32 ≤ n → callN PP n lv "cut_at" [enc t, .int key] σ = .ok (.tup [enc lo, midOf ((io t).find? fun x => decide (x.1 = key)), enc hi]) σ) ∧ Good lo ∧ Good hi ∧ red lo = false ∧ red hi = false ∧
      io lo = (io t).filter (fun x => decide (x.1 < key)) ∧ io hi = (io t).filter (fun x => decide (key < x.1)) := by
  intro t
  induction t with
  | leaf =>
    intro _ _ _
    refine ⟨.leaf, .leaf, fun n lv σ hn => ?_, .leaf, .leaf, rfl, rfl, rfl, rfl⟩
    obtain ⟨m, rfl, hm⟩ := un (show 29 + 1 ≤ n by simp only [dep] at hn; omega)
    rw [cN, cut_at_K]
    simp [enc, io, midOf]
  | node p l k v r ihl ihr =>
    intro g hs hz
    have hz' := hz
    rw [size_node] at hz
    obtain ⟨sl, sr, hl, hr, hlr⟩ := Srt.node (show Srt (io l ++ (k, v) :: io r) from hs)
    by_cases hk : key = k
    · subst hk
      refine ⟨blk l, blk r, fun n lv σ hn => ?_, g.left.blk, g.right.blk, red_blk _, red_blk _, ?_, ?_⟩
      · obtain ⟨m, rfl, hm⟩ := un (show 29 + 1 ≤ n by simp only [dep] at hn; omega)
        rw [cN, cut_at_K]
        have hf : (io (.node p l key v r)).find? (fun x => decide (x.1 = key)) = some (key, v) := by
          rw [io, List.find?_append, List.find?_eq_none.mpr]
          · simp
          · intro x hx; have := hl x hx; simp; omega
        rw [hf]
        simp (disch := first | exact fu hm | omega) [unpainted_ok, midOf]
      · rw [io_blk, io, List.filter_append, fl_all (fun x hx => by simpa using hl x hx), List.filter_cons, fl_none (fun x hx => by have := hr x hx; simp; omega)]
        simp
      · rw [io_blk, io, List.filter_append, fl_none (fun x hx => by have := hl x hx; simp; omega), List.filter_cons, fl_all (fun x hx => by simpa using hr x hx)]
        simp
    · by_cases hlt : key < k
      · obtain ⟨lo, hi, c1, g1, g2, r1, r2, i1, i2⟩ := ihl g.left sl (by first | exact fu hm | omega)
        have zh : size hi ≤ 1000 := by
          have : size hi ≤ size l := by simp only [size, i2]; exact List.length_filter_le _ _
          omega
        obtain ⟨b, c2, i3, g3, r3⟩ := bound_ok hi r k v g2 g.right zh (by first | exact fu hm | omega)
        refine ⟨lo, b, fun n lv σ hn => ?_, g1, g3, r1, r3, ?_, ?_⟩
        · simp only [dep] at hn
          obtain ⟨m, rfl, hm⟩ := un (show max (dep l) (dep r) + 32 + 1 ≤ n by omega)
          rw [cN, cut_at_K]
          have hf : (io (.node p l k v r)).find? (fun x => decide (x.1 = key)) = (io l).find? (fun x => decide (x.1 = key)) := by
            rw [io, List.find?_append, List.find?_cons]
            have : decide (k = key) = false := by simp; omega
            simp only [this]
            rw [show (io r).find? (fun x => decide (x.1 = key)) = none from List.find?_eq_none.mpr fun x hx => by have := hr x hx; simp; omega, Option.or_none]
          rw [hf]
          have q1 := c1 m lv σ (by first | exact fu hm | omega)
          have q2 := c2 m lv σ (by first | exact fu hm | omega)
          simp (disch := first | exact fu hm | omega) [unpainted_ok, q1, q2, hk, hlt]
        · rw [i1, io, List.filter_append, List.filter_cons, fl_none (l := io r) (fun x hx => by have := hr x hx; simp; omega)]
          have : decide (k < key) = false := by simp; omega
          simp [this]
        · rw [i3, i2, io, List.filter_append, List.filter_cons, fl_all (l := io r) (fun x hx => by have := hr x hx; simp; omega)]
          simp [hlt]
      · obtain ⟨lo, hi, c1, g1, g2, r1, r2, i1, i2⟩ := ihr g.right sr (by first | exact fu hm | omega)
        have zh : size lo ≤ 1000 := by
          have : size lo ≤ size r := by simp only [size, i1]; exact List.length_filter_le _ _
          omega
        obtain ⟨b, c2, i3, g3, r3⟩ := bound_ok l lo k v g.left g1 (by first | exact fu hm | omega) zh
        refine ⟨b, hi, fun n lv σ hn => ?_, g3, g2, r3, r2, ?_, ?_⟩
        · simp only [dep] at hn
          obtain ⟨m, rfl, hm⟩ := un (show max (dep l) (dep r) + 32 + 1 ≤ n by omega)
          rw [cN, cut_at_K]
          have hf : (io (.node p l k v r)).find? (fun x => decide (x.1 = key)) = (io r).find? (fun x => decide (x.1 = key)) := by
            rw [io, List.find?_append, show (io l).find? (fun x => decide (x.1 = key)) = none from List.find?_eq_none.mpr fun x hx => by have := hl x hx; simp; omega, List.find?_cons]
            have : decide (k = key) = false := by simp; omega
            simp [this]
          rw [hf]
          have q1 := c1 m lv σ (by first | exact fu hm | omega)
          have q2 := c2 m lv σ (by first | exact fu hm | omega)
          simp (disch := first | exact fu hm | omega) [unpainted_ok, q1, q2, hk, hlt]
        · have h1 : decide (k < key) = true := by simp; omega
          rw [i3, i1, io, List.filter_append, List.filter_cons, fl_all (l := io l) (fun x hx => by have := hl x hx; simp; omega)]
          simp [h1]
        · rw [i2, io, List.filter_append, List.filter_cons, fl_none (l := io l) (fun x hx => by have := hl x hx; simp; omega)]
          simp [hlt]

theorem bound_alone_ok (one other : Tr) (g1 : Good one) (g2 : Good other) (hs : Srt (io one)) (z1 : size one ≤ 1000) (z2 : size other ≤ 1000) :
    ∃ t, (∀ n lv σ, 60 ≤ n → callN PP n lv "bound_alone" [enc one, enc other] σ = .ok (enc t) σ) ∧ io t = io one ++ io other ∧ Good t ∧ red t = false := by
  cases one with
  | leaf =>
    refine ⟨blk other, fun n lv σ hn => ?_, by simp [io, io_blk], g2.blk, red_blk _⟩
    obtain ⟨m, rfl, hm⟩ := un (show 59 + 1 ≤ n by first | exact hn | omega)
    rw [cN, bound_alone_K]
    simp (disch := first | exact fu hm | omega) [unpainted_ok]
  | node p l k v r =>
    generalize hone : Tr.node p l k v r = one at *
    have hnl : one ≠ .leaf := by rw [← hone]; exact fun h => by cases h
    have hin : isNone (enc one) = false := by rw [← hone]; rfl
    cases other with
    | leaf =>
      refine ⟨blk one, fun n lv σ hn => ?_, by simp [io, io_blk], g1.blk, red_blk _⟩
      obtain ⟨m, rfl, hm⟩ := un (show 59 + 1 ≤ n by first | exact hn | omega)
      rw [cN, bound_alone_K]
      simp (disch := first | exact fu hm | omega) [unpainted_ok, hin]
    | node p₂ l₂ k₂ v₂ r₂ =>
      have hin2 : isNone (enc (.node p₂ l₂ k₂ v₂ r₂)) = false := rfl
      generalize Tr.node p₂ l₂ k₂ v₂ r₂ = other at *
      have d1 := g1.dep z1
      obtain ⟨p', l', k', v', pre, c1, e1⟩ := greatest_ok hnl (by first | exact fu hm | omega)
      obtain ⟨lo, hi, c2, g3, _, _, _, i1, _⟩ := cut_at_ok k' one g1 hs z1
      have hpre : io lo = pre := by
        rw [i1, e1, List.filter_append]
        rw [e1] at hs
        obtain ⟨_, _, h3, _⟩ := Srt.node hs
        rw [fl_all (fun x hx => by simpa using h3 x hx)]
        simp
      have zl : size lo ≤ 1000 := by
        have h1 : size one = pre.length + 1 := by simp [size, e1]
        simp only [size, hpre]; omega
      obtain ⟨t, c3, i3, g4, r4⟩ := bound_ok lo other k' v' g3 g2 zl z2
      refine ⟨t, fun n lv σ hn => ?_, by rw [i3, hpre, e1]; simp, g4, r4⟩
      obtain ⟨m, rfl, hm⟩ := un (show 59 + 1 ≤ n by first | exact hn | omega)
      rw [cN, bound_alone_K]
      have q1 := c1 m lv σ (by first | exact fu hm | omega)
      have q2 := c2 m lv σ (by first | exact fu hm | omega)
      have q3 := c3 m lv σ (by first | exact fu hm | omega)
      simp (disch := first | exact fu hm | omega) [q1, q2, q3, hin, hin2]

/-- all keys ahead are less than those behind -/
noncomputable def Apart (l₁ l₂ : List (Int × AV)) : Prop := ∀ a ∈ l₁.getLast?, ∀ b ∈ l₂.head?, a.1 < b.1

theorem laid_ok (one other : Tr) (g1 : Good one) (g2 : Good other) (hs : Srt (io one)) (z1 : size one ≤ 1000) (z2 : size other ≤ 1000) (ha : Apart (io one) (io other)) :
    ∃ t, (∀ n lv σ, 61 ≤ n → callN PP n lv "laid" [enc one, enc other] σ = .ok (enc t) σ) ∧ io t = io one ++ io other ∧ Good t ∧ red t = false := by
  obtain ⟨t, c, i, g, r⟩ := bound_alone_ok one other g1 g2 hs z1 z2
  refine ⟨t, fun n lv σ hn => ?_, i, g, r⟩
  obtain ⟨m, rfl, hm⟩ := un (show 60 + 1 ≤ n by first | exact hn | omega)
  rw [cN, laid_K]
  have q := c m lv σ (by first | exact fu hm | omega)
  cases ho : isNone (enc one) with
  | true => simp [ho, q]
  | false =>
    cases ht : isNone (enc other) with
    | true => simp [ho, ht, q]
    | false =>
      have n1 : one ≠ .leaf := fun e => by rw [e] at ho; cases ho
      have n2 : other ≠ .leaf := fun e => by rw [e] at ht; cases ht
      obtain ⟨p', l', k', v', pre, c1, e1⟩ := greatest_ok n1 (by have := g1.dep z1; omega)
      obtain ⟨p₂, r₂, k₂, v₂, post, c2, e2⟩ := least_ok n2 (by have := g2.dep z2; omega)
      have := ha (k', v') (by rw [e1]; simp) (k₂, v₂) (by rw [e2]; simp)
      have h1 : ¬ (k₂ ≤ k') := by simp only at this; omega
      simp (disch := first | exact fu hm | omega) [ho, ht, q, c1, c2, h1]
theorem laid_exc (one other : Tr) (g1 : Good one) (g2 : Good other) (z1 : size one ≤ 1000) (z2 : size other ≤ 1000) (ha : ¬ Apart (io one) (io other)) {n lv : Nat} (hn : 2 ≤ n) (hl : lv ≤ 1) (σ : Sto) :
    callN PP n lv "laid" [enc one, enc other] σ = .exc "NotApart" σ := by
  obtain ⟨m, rfl, hm⟩ := un (show 1 + 1 ≤ n by first | exact hn | omega)
  rw [cN, laid_K]
  have n1 : one ≠ .leaf := fun e => ha (by rw [e]; intro a h; simp [io] at h)
  have n2 : other ≠ .leaf := fun e => ha (by rw [e]; intro a _ b h; simp [io] at h)
  obtain ⟨p', l', k', v', pre, c1, e1⟩ := greatest_ok n1 (by have := g1.dep z1; omega)
  obtain ⟨p₂, r₂, k₂, v₂, post, c2, e2⟩ := least_ok n2 (by have := g2.dep z2; omega)
  have h1 : k₂ ≤ k' := by
    apply Int.not_lt.mp
    intro q
    apply ha
    intro a h b h'
    rw [e1] at h; rw [e2] at h'
    simp at h h'
    subst h; subst h'
    exact q
  have i1 : isNone (enc one) = false := by cases one <;> first | exact absurd rfl n1 | rfl
  have i2 : isNone (enc other) = false := by cases other <;> first | exact absurd rfl n2 | rfl
  have hb : Nat.ble lv 1 = true := Nat.ble_eq_true_of_le hl
  simp (disch := first | exact fu hm | omega) [i1, i2, c1, c2, h1, hb]
end Mine.L

/- L5 -/
set_option tactic.hygienic false
/-! Mine: plain trees, built and raised. -/
namespace Mine.L
open PySem Tr
set_option linter.unusedVariables false
set_option maxRecDepth 100000
set_option linter.unusedSimpArgs false
set_option exponentiation.threshold 1100

noncomputable def encP (x : Int × AV) : AV := .tup [.int x.1, x.2]
theorem small_of {x : Int} (h1 : -2 ^ 999 ≤ x) (h2 : x ≤ 2 ^ 999) : small x = true := by
  unfold small
  have : (2 : Nat) ^ 1000 = 2 * 2 ^ 999 := by decide +kernel
  simp only [decide_eq_true_eq]
  have e : ((2 : Nat) ^ 999 : Nat) = ((2 : Int) ^ 999) := by simp
  have p : (0 : Int) < 2 ^ 999 := Int.pow_pos (by decide)
  rw [this]
  generalize (2 : Nat) ^ 999 = q at *
  generalize (2 : Int) ^ 999 = z at *
  omega
theorem small_lit {x : Int} (h1 : -1000000 ≤ x) (h2 : x ≤ 1000000) : small x = true := by
  have p : (1000000 : Int) ≤ 2 ^ 999 := by decide +kernel
  exact small_of (by first | exact fu hm | omega) (by first | exact fu hm | omega)
theorem b_mul (a b : Int) (σ : Sto) (h1 : small a = true) (h2 : small b = true) : binop .Mult (.int a) (.int b) σ = .ok (.int (a * b)) σ := by
  show (bif small a && small b then _ else _) = _
  rw [h1, h2]; rfl
theorem b_fdiv (a b : Int) (σ : Sto) (h1 : 0 < b) (h2 : small b = true) : binop .FloorDiv (.int a) (.int b) σ = .ok (.int (a.fdiv b)) σ := by
  show (bif decide (0 < b) && small b then _ else _) = _
  rw [h2, decide_eq_true h1]; rfl
theorem b_mod (a b : Int) (σ : Sto) (h1 : 0 < b) : binop .Mod (.int a) (.int b) σ = .ok (.int (a.fmod b)) σ := by
  show (bif decide (0 < b) then _ else _) = _
  rw [decide_eq_true h1]; rfl
theorem item_lst {q : Nat} {σ : Sto} {xs : List AV} {k : Int} {v : AV} (h : σ[q]? = some (.list xs)) (h0 : 0 ≤ k) (hv : xs[k.toNat]? = some v) : item (.ref q) (.int k) σ = .ok v σ := by
  simp [item, h, at?, decide_eq_true h0, hv, optA]
theorem item_L {q : Nat} {σ : Sto} {L : List (Int × AV)} (k : Nat) (h : σ[q]? = some (.list (L.map encP))) (hk : k < L.length) : item (.ref q) (.int (k : Int)) σ = .ok (encP L[k]) σ :=
  item_lst h (by first | exact fu hm | omega) (by simp [hk])
theorem it_encP0 (x : Int × AV) (σ : Sto) : item (encP x) (.int 0) σ = .ok (.int x.1) σ := rfl
theorem it_encP1 (x : Int × AV) (σ : Sto) : item (encP x) (.int 1) σ = .ok x.2 σ := rfl
theorem len_lst {q : Nat} {σ : Sto} {xs : List AV} (cf : Calls) (lv : Nat) (h : σ[q]? = some (.list xs)) : callA PP cf lv "len" [.ref q] σ = .ok (.int xs.length) σ := by
  have : callA PP cf lv "len" [.ref q] σ = (match listOf? σ (.ref q) with | some xs => .ok (.int xs.length) σ | Option.none => .bad) := by kernel_rfl
  rw [this]; simp [listOf?, h]

theorem seg_split {α : Type} (L : List α) (lo mid hi : Nat) (h1 : lo ≤ mid) (h2 : mid < hi) (h3 : hi ≤ L.length) (hm : mid < L.length) :
    (L.drop lo).take (hi - lo) = (L.drop lo).take (mid - lo) ++ L[mid] :: (L.drop (mid + 1)).take (hi - (mid + 1)) := by
  have e : hi - lo = (mid - lo) + ((hi - (mid + 1)) + 1) := by omega
  rw [e, List.take_add, List.drop_drop, show lo + (mid - lo) = mid by omega, List.drop_eq_getElem_cons hm, List.take_succ_cons]

theorem half (lo hi : Nat) : ((lo : Int) + (hi : Int)).fdiv 2 = (((lo + hi) / 2 : Nat) : Int) := by
  rw [Int.fdiv_eq_ediv_of_nonneg _ (by decide)]; omega

theorem built_ok (L : List (Int × AV)) : ∀ (lev lo hi : Nat), lo ≤ hi → hi ≤ L.length → 2 ^ lev ≤ hi - lo + 1 → hi - lo + 1 ≤ 2 ^ (lev + 1) →
    ∃ t, (∀ n lv σ q, σ[q]? = some (.list (L.map encP)) → lev + 4 ≤ n → callN PP n lv "built" [.ref q, .int lo, .int hi, .int lev] σ = .ok (enc t) σ) ∧ io t = (L.drop lo).take (hi - lo) ∧ BH t lev ∧ NR t ∧ (red t = true → lev = 0 ∧ hi = lo + 1)
  | lev, lo, hi, h1, h2, h3, h4 => by
    by_cases he : lo = hi
    · subst he
      have hl : lev = 0 := by
        cases lev with
        | zero => rfl
        | succ l => rw [Nat.pow_succ] at h3; have := Nat.two_pow_pos l; omega
      subst hl
      refine ⟨.leaf, fun n lv σ q hq hn => ?_, by simp [io], rfl, trivial, fun z => by cases z⟩
      obtain ⟨m, rfl, hm⟩ := un (show 3 + 1 ≤ n by first | exact hn | omega)
      rw [cN, built_K]
      simp [enc]
    · have hm1 : (lo + hi) / 2 < hi := by omega
      have hm2 : lo ≤ (lo + hi) / 2 := by omega
      have hml : (lo + hi) / 2 < L.length := by omega
      have he' : ¬ ((lo : Int) = (hi : Int)) := by omega
      cases lev with
      | zero =>
        have : hi = lo + 1 := by simp at h4; omega
        subst this
        have hmid : (lo + (lo + 1)) / 2 = lo := by omega
        refine ⟨.node true .leaf L[lo].1 L[lo].2 .leaf, fun n lv σ q hq hn => ?_, ?_, ⟨rfl, rfl⟩, ⟨trivial, trivial, fun _ => ⟨rfl, rfl⟩⟩, fun _ => ⟨rfl, rfl⟩⟩
        · obtain ⟨m, rfl, hm⟩ := un (show 3 + 1 ≤ n by first | exact hn | omega)
          rw [cN, built_K]
          have hi' := item_L lo hq (by first | exact fu hm | omega)
          have hh : ((lo : Int) + ((lo : Int) + 1)).fdiv 2 = lo := by have := half lo (lo + 1); rw [hmid] at this; simpa using this
          have he2 : ¬ ((lo : Int) = (lo : Int) + 1) := by omega
          have kk := knot_ok (n := m) (by first | exact fu hm | omega) lv true .leaf L[lo].1 L[lo].2 .leaf σ
          simp only [enc] at kk
          simp (disch := first | omega | decide) [-pkE_ok, pkE_okc, -bq_true, -bq_false, bq_truec, bq_falsec, he2, b_fdiv, small_lit, hh, hi', it_encP0, it_encP1, kk]
          simp only [enc]
        · have hlt : lo < L.length := by omega
          rw [io, show lo + 1 - lo = 0 + 1 by omega, List.drop_eq_getElem_cons hlt, List.take_succ_cons, List.take_zero]; rfl
      | succ l =>
        have p1 : 2 ^ (l + 1) = 2 * 2 ^ l := by rw [Nat.pow_succ]; omega
        have p2 : 2 ^ (l + 1 + 1) = 2 * (2 * 2 ^ l) := by rw [Nat.pow_succ, p1]; omega
        rw [p1] at h3
        rw [p2] at h4
        obtain ⟨a, c1, i1, b1, n1, _⟩ := built_ok L l lo ((lo + hi) / 2) (by first | exact fu hm | omega) (by first | exact fu hm | omega) (by first | exact fu hm | omega) (by rw [p1]; omega)
        obtain ⟨b, c2, i2, b2, n2, _⟩ := built_ok L l ((lo + hi) / 2 + 1) hi (by first | exact fu hm | omega) (by first | exact fu hm | omega) (by first | exact fu hm | omega) (by rw [p1]; omega)
        refine ⟨.node false a L[(lo + hi) / 2].1 L[(lo + hi) / 2].2 b, fun n lv σ q hq hn => ?_, ?_, ⟨b1, b2⟩, ⟨n1, n2, fun z => by cases z⟩, fun z => by cases z⟩
        · obtain ⟨m, rfl, hm⟩ := un (show l + 4 + 1 ≤ n by omega)
          rw [cN, built_K]
          have q1 := c1 m lv σ q hq (by first | exact fu hm | omega)
          have q2 := c2 m lv σ q hq (by first | exact fu hm | omega)
          have hi' := item_L ((lo + hi) / 2) hq hml
          have hl' : ¬ ((l : Int) + 1 = 0) := by omega
          have hl2 : ((l : Int) + 1 - 1) = l := by omega
          have hh := half lo hi
          generalize (lo + hi) / 2 = mid at *
          simp only [Int.natCast_add, Int.natCast_succ, Int.cast_ofNat_Int] at q2 ⊢
          simp (disch := first | omega | decide) [-pkE_ok, pkE_okc, -bq_true, -bq_false, bq_truec, bq_falsec, he', b_fdiv, small_lit, hh, hi', it_encP0, it_encP1, hl', hl2, q1, q2, knot_ok]
        · rw [io, i1, i2, seg_split L lo ((lo + hi) / 2) hi (by first | exact fu hm | omega) (by first | exact fu hm | omega) h2 hml]
  termination_by lev => lev
end Mine.L

/- L6 -/
set_option tactic.hygienic false
/-! Mine: raised. -/
namespace Mine.L
open PySem Tr
set_option linter.unusedVariables false
set_option maxRecDepth 100000
set_option linter.unusedSimpArgs false
set_option exponentiation.threshold 1100

/-- what follows the i-th statement -/
noncomputable def restK (f : Str) (i : Nat) (cf : Calls) (lv : Nat) (l : Loc) (σ : Sto) : Out AV := match PP.fn f with
  | some (_, body, sc) => exsK PP cf sc (body.drop i) lv l σ ktO fun _ σ => .ok .none σ
  | _ => .bad

theorem rangeL_cons {a b : Int} (h : a < b) : rangeL a b = .int a :: rangeL (a + 1) b := by
  unfold rangeL
  have : (b - a).toNat = (b - (a + 1)).toNat + 1 := by omega
  rw [this, List.range_succ_eq_map]
  simp only [List.map_cons, List.map_map]
  congr 1
  · simp
  · apply List.map_congr_left
    intro i _
    simp only [Function.comp]
    congr 1
    rw [show ((i.succ : Nat) : Int) = (i : Int) + 1 from by simp]
    omega
theorem rangeL_nil {a b : Int} (h : b ≤ a) : rangeL a b = [] := by
  unfold rangeL
  rw [show (b - a).toNat = 0 by omega]; rfl
theorem range_of2 {b : Int} {σ : Sto} (a : Int) (h0 : 0 ≤ a) (h1 : a ≤ 2 ^ 40) (h2 : -(2 ^ 40) ≤ b) (h3 : b ≤ 2 ^ 40) : rangeOf [.int a, .int b] σ = .ok (.items (rangeL a b)) σ := by
  simp only [rangeOf, decide_eq_true h0, decide_eq_true h1, decide_eq_true h2, decide_eq_true h3]; rfl
theorem range_of1 {b : Int} {σ : Sto} (h2 : -(2 ^ 40) ≤ b) (h3 : b ≤ 2 ^ 40) : rangeOf [.int b] σ = .ok (.items (rangeL 0 b)) σ := by
  simp only [rangeOf, decide_eq_true h2, decide_eq_true h3]; rfl

theorem raised_K (cf : Calls) (lv : Nat) (p : AV) (σ : Sto) : callBody PP cf lv "raised" [p] σ =
    @qk _ _ (eE AV) (callA PP cf lv "len" [p] σ) (.mk fun v σ => @qk _ _ (eE AV) (rangeOf [.int 1, v] σ) (.mk fun s σ =>
      sk ktO (forSrc lv (fun v l σ => whB "raised" 0 cf lv (setL "place" v l) σ) s [("pairs", p)] σ) fun l σ => restK "raised" 1 cf lv l σ)) := by
  rw [callBody_K PP cf lv "raised" _ _ _ _ _ rfl rfl]
  kernel_rfl
noncomputable def pl1 (x : AV) : Loc := [("place", x)]
noncomputable def lr2 (a b : AV) : Loc := [("levels", a), ("room", b)]
noncomputable def pp2 (p i : AV) : Loc := [("pairs", p), ("place", i)]
noncomputable def PlaceL (pl : Loc) : Prop := pl = [] ∨ ∃ x, pl = pl1 x
noncomputable def rl (p : AV) (pl : Loc) (a b : AV) : Loc := ("pairs", p) :: (pl ++ lr2 a b)

theorem raised_B (cf : Calls) (lv : Nat) (p i : AV) (σ : Sto) : whB "raised" 0 cf lv (pp2 p i) σ =
    @qk _ _ (ktS.e (pp2 p i)) (@qk _ _ (eE Bool) (item p i σ) (.mk fun v σ => @qk _ _ (eE Bool) (item v (.int 0) σ) (.mk fun v σ => @qk _ _ (eE Bool) (binop .Sub i (.int 1) σ) (.mk fun j σ => @qk _ _ (eE Bool) (item p j σ) (.mk fun u σ => @qk _ _ (eE Bool) (item u (.int 0) σ) (.mk fun u σ =>
      @qk _ _ (eE Bool) (cmpop .LtE v u σ) (.mk fun v σ => @qk _ _ (eE Bool) (truthO v σ) (.mk fun b σ => .ok b σ)))))))) (.mk fun c σ =>
      @bq _ (c) (.mk (@bq _ (Nat.ble lv 1) (.mk (.exc "NotRising" (pp2 p i) σ)) (.mk (.bad)))) (.mk (.ok .next (pp2 p i) σ))) := by
  kernel_rfl

/-- adjacent keys rise from place i on -/
noncomputable def RiseFrom (L : List (Int × AV)) (i : Nat) : Prop := ∀ j, i ≤ j → (h : j + 1 < L.length) → (L[j]'(by first | exact fu hm | omega)).1 < L[j + 1].1

theorem raised_for (cf : Calls) (lv : Nat) (hl : lv ≤ 1) (L : List (Int × AV)) (q : Nat) (σ : Sto) (hq : σ[q]? = some (.list (L.map encP))) : ∀ (m i : Nat) (pl : Loc), i + 1 + m = L.length → PlaceL pl →
    (RiseFrom L i ∧ ∃ pl', PlaceL pl' ∧ forItems (fun v l σ => whB "raised" 0 cf lv (setL "place" v l) σ) (rangeL ((i : Int) + 1) L.length) (("pairs", .ref q) :: pl) σ = .ok .next (("pairs", .ref q) :: pl') σ) ∨
    (¬ RiseFrom L i ∧ ∃ l', forItems (fun v l σ => whB "raised" 0 cf lv (setL "place" v l) σ) (rangeL ((i : Int) + 1) L.length) (("pairs", .ref q) :: pl) σ = .exc "NotRising" l' σ)
  | 0, i, pl, hi, hp => by
    rw [rangeL_nil (by first | exact fu hm | omega)]
    exact .inl ⟨fun j h1 h2 => by omega, pl, hp, rfl⟩
  | m + 1, i, pl, hi, hp => by
    rw [rangeL_cons (by first | exact fu hm | omega)]
    have hset : setL "place" (.int ((i : Int) + 1)) (("pairs", .ref q) :: pl) = pp2 (.ref q) (.int ((i : Int) + 1)) := by
      rcases hp with rfl | ⟨x, rfl⟩ <;> rfl
    have h1 := item_L i hq (by first | exact fu hm | omega)
    have h2 := item_L (i + 1) hq (by first | exact fu hm | omega)
    have e1 : ((i : Int) + 1 - 1) = i := by omega
    rw [show (((i + 1 : Nat)) : Int) = (i : Int) + 1 by simp] at h2
    have hb : Nat.ble lv 1 = true := Nat.ble_eq_true_of_le hl
    by_cases hr : L[i + 1].1 ≤ L[i].1
    · refine .inr ⟨fun z => ?_, ?_⟩
      · have := z i (Nat.le_refl _) (by first | exact fu hm | omega); omega
      · refine ⟨pp2 (.ref q) (.int ((i : Int) + 1)), ?_⟩
        unfold forItems
        simp only [hset]
        rw [raised_B]
        simp [h2, e1, h1, it_encP0, hr, hb, OutS.andThen]
    · have hstep : forItems (fun v l σ => whB "raised" 0 cf lv (setL "place" v l) σ) (.int ((i : Int) + 1) :: rangeL ((i : Int) + 1 + 1) L.length) (("pairs", .ref q) :: pl) σ =
          forItems (fun v l σ => whB "raised" 0 cf lv (setL "place" v l) σ) (rangeL ((i : Int) + 1 + 1) L.length) (pp2 (.ref q) (.int ((i : Int) + 1))) σ := by
        conv => lhs; unfold forItems
        simp only [hset]
        rw [raised_B]
        simp [h2, e1, h1, it_encP0, hr, hb, OutS.andThen]
      rw [hstep]
      have IH := raised_for cf lv hl L q σ hq m (i + 1) (pl1 (.int ((i : Int) + 1))) (by first | exact fu hm | omega) (.inr ⟨_, rfl⟩)
      rw [show (((i + 1 : Nat)) : Int) = (i : Int) + 1 by simp] at IH
      rcases IH with ⟨a, b⟩ | ⟨a, b⟩
      · refine .inl ⟨fun j h1 h2 => ?_, b⟩
        rcases Nat.lt_or_ge i j with z | z
        · exact a j z h2
        · have : j = i := by omega
          subst this; omega
      · exact .inr ⟨fun z => a fun j h1 h2 => z j (by first | exact fu hm | omega) h2, b⟩

theorem raised_R (cf : Calls) (lv : Nat) (p : AV) (pl : Loc) (hp : PlaceL pl) (σ : Sto) : restK "raised" 1 cf lv (("pairs", p) :: pl) σ =
    sk ktO (whileG (whT "raised" 3 cf lv) (whB "raised" 3 cf lv) 1000 (rl (p) pl (.int 0) (.int 1)) σ) fun l σ => restK "raised" 4 cf lv l σ := by
  rcases hp with rfl | ⟨x, rfl⟩ <;> kernel_rfl
theorem raised_T (cf : Calls) (lv : Nat) (p a b : AV) (pl : Loc) (hp : PlaceL pl) (σ : Sto) : whT "raised" 3 cf lv (rl (p) pl (a) (b)) σ =
    @qk _ _ (eE Bool) (callA PP cf lv "len" [p] σ) (.mk fun v σ => @qk _ _ (eE Bool) (cmpop .LtE b v σ) (.mk fun v σ => @qk _ _ (eE Bool) (truthO v σ) (.mk fun b σ => .ok b σ))) := by
  rcases hp with rfl | ⟨x, rfl⟩ <;> kernel_rfl
theorem raised_B3 (cf : Calls) (lv : Nat) (p a b : AV) (pl : Loc) (hp : PlaceL pl) (σ : Sto) : whB "raised" 3 cf lv (rl (p) pl (a) (b)) σ =
    @qk _ _ (ktS.e (rl (p) pl (a) (b))) (binop .Add a (.int 1) σ) (.mk fun v σ => @qk _ _ (ktS.e (rl (p) pl (v) (b))) (binop .Mult (.int 2) b σ) (.mk fun u σ =>
      @qk _ _ (ktS.e (rl (p) pl (v) (b))) (binop .Add u (.int 1) σ) (.mk fun u σ => .ok .next (rl (p) pl (v) (u)) σ))) := by
  rcases hp with rfl | ⟨x, rfl⟩ <;> kernel_rfl
theorem raised_R4 (cf : Calls) (lv : Nat) (p a b : AV) (pl : Loc) (hp : PlaceL pl) (σ : Sto) : restK "raised" 4 cf lv (rl (p) pl (a) (b)) σ =
    @qk _ _ (eE AV) (callA PP cf lv "len" [p] σ) (.mk fun v σ => @qk _ _ (eE AV) (cf lv "built" [p, .int 0, v, a] σ) (.mk fun v σ => .ok v σ)) := by
  rcases hp with rfl | ⟨x, rfl⟩ <;> kernel_rfl

theorem raised_while (cf : Calls) (lv : Nat) (N : Nat) (xs : List AV) (hN : xs.length = N) (hN2 : N ≤ 1000) (q : Nat) (σ : Sto) (hq : σ[q]? = some (.list xs)) (pl : Loc) (hp : PlaceL pl) : ∀ (f lev : Nat), 2 ^ lev ≤ N + 1 → lev + f ≥ 12 → 
    ∃ lev' : Nat, whileG (whT "raised" 3 cf lv) (whB "raised" 3 cf lv) (f + 1) (rl (.ref q) pl (.int lev) (.int (2 ^ (lev + 1) - 1 : Nat))) σ = .ok .next (rl (.ref q) pl (.int lev') (.int (2 ^ (lev' + 1) - 1 : Nat))) σ ∧ 2 ^ lev' ≤ N + 1 ∧ N + 1 < 2 ^ (lev' + 1)
  | f, lev, h1, h2 => by
    by_cases hle : 2 ^ (lev + 1) - 1 ≤ N
    · have hlev : lev + 1 < 10 := by
        rcases Nat.lt_or_ge (lev + 1) 10 with z | z
        · exact z
        · have := Nat.pow_le_pow_right (n := 2) (by first | exact fu hm | omega) z
          omega
      cases f with
      | zero => omega
      | succ f =>
        have hpos := Nat.two_pow_pos (lev + 1)
        obtain ⟨lev', h3, h4, h5⟩ := raised_while cf lv N xs hN hN2 q σ hq pl hp f (lev + 1) (by first | exact fu hm | omega) (by first | exact fu hm | omega)
        refine ⟨lev', ?_, h4, h5⟩
        rw [whileG_go (l' := (rl (.ref q) pl (.int ((lev + 1 : Nat) : Int)) (.int (2 ^ (lev + 1 + 1) - 1 : Nat))))]
        · exact h3
        · rw [raised_T _ _ _ _ _ _ hp, len_lst _ _ hq, hN]
          have : ((2 ^ (lev + 1) - 1 : Nat) : Int) ≤ N := by omega
          simp [this]
        · rw [raised_B3 _ _ _ _ _ _ hp]
          have e1 : (((lev + 1 : Nat)) : Int) = (lev : Int) + 1 := by simp
          have e2 : ((2 ^ (lev + 1 + 1) - 1 : Nat) : Int) = 2 * ((2 ^ (lev + 1) - 1 : Nat) : Int) + 1 := by
            have : 2 ^ (lev + 1 + 1) = 2 * 2 ^ (lev + 1) := by rw [Nat.pow_succ]; omega
            omega
          rw [e2, e1]
          rw [b_add, pkS_ok, b_mul _ _ _ (small_lit (by first | exact fu hm | omega) (by first | exact fu hm | omega)) (small_lit (by first | exact fu hm | omega) (by first | exact fu hm | omega)), pkS_ok, b_add, pkS_ok]
    · refine ⟨lev, ?_, h1, by omega⟩
      rw [whileG_stop]
      rw [raised_T _ _ _ _ _ _ hp, len_lst _ _ hq, hN]
      have : ¬ (((2 ^ (lev + 1) - 1 : Nat) : Int) ≤ N) := by omega
      simp [this]

theorem rise_srt : ∀ {L : List (Int × AV)}, RiseFrom L 0 → Srt L
  | [], _ => .nil
  | [x], _ => List.pairwise_singleton _ _
  | x :: y :: r, h => by
    have t : Srt (y :: r) := rise_srt fun j _ hj => h (j + 1) (by first | exact fu hm | omega) (by simpa using hj)
    have h0 := h 0 (by first | exact fu hm | omega) (by simp)
    simp only [List.getElem_cons_zero, List.getElem_cons_succ] at h0
    refine List.pairwise_cons.mpr ⟨fun z hz => ?_, t⟩
    rcases List.mem_cons.mp hz with rfl | hz
    · exact h0
    · exact Int.lt_trans h0 ((List.pairwise_cons.mp t).1 z hz)
theorem srt_rise {L : List (Int × AV)} (h : Srt L) : RiseFrom L 0 := fun j _ hj => List.pairwise_iff_getElem.mp h j (j + 1) (by first | exact fu hm | omega) hj (by first | exact fu hm | omega)

theorem raised_ok (L : List (Int × AV)) (hz : L.length ≤ 1000) (hs : Srt L) :
    ∃ t, (∀ n lv σ q, σ[q]? = some (.list (L.map encP)) → lv ≤ 1 → 20 ≤ n → callN PP n lv "raised" [.ref q] σ = .ok (enc t) σ) ∧ io t = L ∧ Good t ∧ red t = false := by
  have hlev : ∃ lev, 2 ^ lev ≤ L.length + 1 ∧ L.length + 1 < 2 ^ (lev + 1) := by
    refine ⟨Nat.log2 (L.length + 1), Nat.log2_self_le (by first | exact fu hm | omega), Nat.lt_log2_self⟩
  obtain ⟨lev, e1, e2⟩ := hlev
  obtain ⟨t, c, i, b, n, r⟩ := built_ok L lev 0 L.length (by first | exact fu hm | omega) (by first | exact fu hm | omega) (by first | exact fu hm | omega) (by first | exact fu hm | omega)
  refine ⟨t, fun n lv σ q hq hl hn => ?_, by rw [i]; simp, ⟨n, _, b⟩, ?_⟩
  · obtain ⟨m, rfl, hm⟩ := un (show 19 + 1 ≤ n by first | exact hn | omega)
    rw [cN, raised_K, len_lst _ _ hq]
    rw [pkE_ok, List.length_map, range_of2 1 (by first | exact fu hm | omega) (by first | exact fu hm | omega) (by first | exact fu hm | omega) (by first | exact fu hm | omega), pkE_ok]
    have hb : Nat.ble lv 1 = true := Nat.ble_eq_true_of_le hl
    have hfor : ∃ pl', PlaceL pl' ∧ forItems (fun v l σ => whB "raised" 0 (callN PP m) lv (setL "place" v l) σ) (rangeL 1 L.length) [("pairs", .ref q)] σ = .ok .next (("pairs", .ref q) :: pl') σ := by
      rcases Nat.eq_zero_or_pos L.length with z | z
      · rw [rangeL_nil (by first | exact fu hm | omega)]; exact ⟨[], .inl rfl, rfl⟩
      · rcases raised_for (callN PP m) lv hl L q σ hq (L.length - 1) 0 [] (by first | exact fu hm | omega) (.inl rfl) with ⟨_, h⟩ | ⟨h, _⟩
        · simpa using h
        · exact absurd (srt_rise hs) h
    obtain ⟨pl', hp, hfor⟩ := hfor
    unfold forSrc
    rw [hb]
    simp only [cond_true, bq_true]
    rw [hfor, skO_next, raised_R _ _ _ _ hp]
    obtain ⟨lev', w1, w2, w3⟩ := raised_while (callN PP m) lv L.length _ (by simp) hz q σ hq pl' hp 999 0 (by first | exact fu hm | omega) (by first | exact fu hm | omega)
    have el : lev' = lev := by
      rcases Nat.lt_trichotomy lev' lev with z | z | z
      · have := Nat.pow_le_pow_right (n := 2) (by first | exact fu hm | omega) z; simp only [Nat.succ_eq_add_one] at this; omega
      · exact z
      · have := Nat.pow_le_pow_right (n := 2) (by first | exact fu hm | omega) z; simp only [Nat.succ_eq_add_one] at this; omega
    subst el
    have w1' : whileG (whT "raised" 3 (callN PP m) lv) (whB "raised" 3 (callN PP m) lv) 1000 (rl (.ref q) pl' (.int 0) (.int 1)) σ = _ := w1
    rw [w1', skO_next, raised_R4 _ _ _ _ _ _ hp, len_lst _ _ hq, pkE_ok, List.length_map]
    have hlt : lev' < 10 := by
      rcases Nat.lt_or_ge lev' 10 with z | z
      · exact z
      · have := Nat.pow_le_pow_right (n := 2) (by first | exact fu hm | omega) z; omega
    have := c m lv σ q hq (by first | exact fu hm | omega)
    simp only [Int.cast_ofNat_Int] at this
    rw [this, pkE_ok]
  · cases hr : red t with
    | false => rfl
    | true =>
      obtain ⟨h1, h2⟩ := r hr
      subst h1
      simp at e2; omega
theorem raised_exc (L : List (Int × AV)) (hz : L.length ≤ 1000) (hs : ¬ Srt L) {n lv : Nat} {σ : Sto} {q : Nat} (hq : σ[q]? = some (.list (L.map encP))) (hl : lv ≤ 1) (hn : 1 ≤ n) : callN PP n lv "raised" [.ref q] σ = .exc "NotRising" σ := by
  obtain ⟨m, rfl, hm⟩ := un (show 0 + 1 ≤ n by first | exact hn | omega)
  rw [cN, raised_K, len_lst _ _ hq]
  rw [pkE_ok, List.length_map, range_of2 1 (by first | exact fu hm | omega) (by first | exact fu hm | omega) (by first | exact fu hm | omega) (by first | exact fu hm | omega), pkE_ok]
  have hb : Nat.ble lv 1 = true := Nat.ble_eq_true_of_le hl
  have hpos : 0 < L.length := by
    cases L with
    | nil => exact absurd List.Pairwise.nil hs
    | cons _ _ => simp
  rcases raised_for (callN PP m) lv hl L q σ hq (L.length - 1) 0 [] (by first | exact fu hm | omega) (.inl rfl) with ⟨h, _⟩ | ⟨_, l', h⟩
  · exact absurd (rise_srt h) hs
  · unfold forSrc
    rw [hb]
    simp only [cond_true, bq_true]
    have h' : forItems (fun v l σ => whB "raised" 0 (callN PP m) lv (setL "place" v l) σ) (rangeL 1 L.length) [("pairs", .ref q)] σ = .exc "NotRising" l' σ := by simpa using h
    rw [h', skO_exc]
end Mine.L

/- L7 -/
set_option tactic.hygienic false
/-! Mine: functions with try (the theorems are printed by gen_st.py). -/
namespace Mine.L
open PySem Tr
set_option linter.unusedVariables false
set_option maxRecDepth 100000

noncomputable def eB (α : Type) : Ke (Out α) := ⟨fun _ _ => .bad, .bad⟩
noncomputable def tryB (f : Str) (i : Nat) (cf : Calls) (lv : Nat) (l : Loc) (σ : Sto) : OutS := match PP.fn f with
  | some (_, body, sc) => (match body[i]? with
    | some (.Try b _ _ _ _) => exsK PP cf sc b lv l σ ktS fun l σ => .ok .next l σ
    | _ => .bad)
  | _ => .bad
noncomputable def tryH (f : Str) (i : Nat) (cf : Calls) (lv : Nat) (c : Str) (l : Loc) (σ : Sto) : Out AV := match PP.fn f with
  | some (_, body, sc) => (match body[i]? with
    | some (.Try _ hs _ _ _) => exHK PP cf sc hs lv c l σ ktO fun l σ => restK f (i + 1) cf lv l σ
    | _ => .bad)
  | _ => .bad
noncomputable def tryR (f : Str) (i : Nat) (cf : Calls) (lv : Nat) (o : OutS) : Out AV := match o with
  | .exc c l σ => tryH f i cf lv c l σ
  | .ok f' l σ => (match f' with
    | .next => restK f (i + 1) cf lv l σ
    | .ret v => .ok v σ)
  | .bad => .bad

theorem law_thing_S (cf : Calls) (lv : Nat) (law_cell_v : AV) (σ : Sto) : callBody PP cf lv "_law_thing" [law_cell_v] σ = restK "_law_thing" 0 cf lv [("_law_cell", law_cell_v)] σ := by
  rw [callBody_K PP cf lv "_law_thing" _ _ _ _ _ rfl rfl]
  kernel_rfl

theorem law_thing_S0 (cf : Calls) (lv : Nat) (law_cell_v : AV) (σ : Sto) : restK "_law_thing" 0 cf lv [("_law_cell", law_cell_v)] σ =
 (@qk _ _ (eE AV) (binop .Mod law_cell_v (.int 12) σ) (.mk fun v1 σ2 =>
 restK "_law_thing" 1 cf lv [("_law_cell", law_cell_v), ("_law_kind", v1)] σ2) : Out AV) := by
  kernel_rfl

theorem law_thing_S1 (cf : Calls) (lv : Nat) (law_cell_v law_kind_v : AV) (σ : Sto) : restK "_law_thing" 1 cf lv [("_law_cell", law_cell_v), ("_law_kind", law_kind_v)] σ =
 (@qk _ _ (eE AV) (binop .FloorDiv law_cell_v (.int 12) σ) (.mk fun v1 σ2 =>
 @qk _ _ (eE AV) (binop .Mod v1 (.int 90) σ2) (.mk fun v3 σ4 =>
 restK "_law_thing" 2 cf lv [("_law_cell", law_cell_v), ("_law_kind", law_kind_v), ("_law_size", v3)] σ4)) : Out AV) := by
  kernel_rfl

theorem law_thing_S2 (cf : Calls) (lv : Nat) (law_cell_v law_kind_v law_size_v : AV) (σ : Sto) : restK "_law_thing" 2 cf lv [("_law_cell", law_cell_v), ("_law_kind", law_kind_v), ("_law_size", law_size_v)] σ =
 (@qk _ _ (eE AV) (@qk _ _ (eE Bool) (cmpop .Eq law_kind_v (.int 0) σ) (.mk fun v1001 σ1002 =>
 @qk _ _ (eE Bool) (truthO v1001 σ1002) (.mk fun b1003 σ1004 =>
 .ok b1003 σ1004))) (.mk fun c1005 σ1006 =>
 @bq _ (c1005) (.mk (@qk _ _ (eE AV) (binop .FloorDiv law_cell_v (.int 12) σ1006) (.mk fun v1007 σ1008 =>
 @qk _ _ (eE AV) (cf lv "_law_text" [v1007, law_size_v] σ1008) (.mk fun v1009 σ1010 =>
 .ok v1009 σ1010)))) (.mk (restK "_law_thing" 3 cf lv [("_law_cell", law_cell_v), ("_law_kind", law_kind_v), ("_law_size", law_size_v)] σ1006))) : Out AV) := by
  kernel_rfl

theorem law_thing_S3 (cf : Calls) (lv : Nat) (law_cell_v law_kind_v law_size_v : AV) (σ : Sto) : restK "_law_thing" 3 cf lv [("_law_cell", law_cell_v), ("_law_kind", law_kind_v), ("_law_size", law_size_v)] σ =
 (@qk _ _ (eE AV) (@qk _ _ (eE Bool) (cmpop .Eq law_kind_v (.int 1) σ) (.mk fun v1001 σ1002 =>
 @qk _ _ (eE Bool) (truthO v1001 σ1002) (.mk fun b1003 σ1004 =>
 .ok b1003 σ1004))) (.mk fun c1005 σ1006 =>
 @bq _ (c1005) (.mk (@qk _ _ (eE AV) (binop .Pow law_cell_v (.int 5) σ1006) (.mk fun v1007 σ1008 =>
 @qk _ _ (eE AV) (binop .Pow (.int 10) (.int 59) σ1008) (.mk fun v1009 σ1010 =>
 @qk _ _ (eE AV) (binop .Mod v1007 v1009 σ1010) (.mk fun v1011 σ1012 =>
 @qk _ _ (eE AV) (binop .Pow (.int 10) (.int 58) σ1012) (.mk fun v1013 σ1014 =>
 @qk _ _ (eE AV) (binop .Sub v1011 v1013 σ1014) (.mk fun v1015 σ1016 =>
 .ok v1015 σ1016))))))) (.mk (restK "_law_thing" 4 cf lv [("_law_cell", law_cell_v), ("_law_kind", law_kind_v), ("_law_size", law_size_v)] σ1006))) : Out AV) := by
  kernel_rfl

theorem law_thing_S4 (cf : Calls) (lv : Nat) (law_cell_v law_kind_v law_size_v : AV) (σ : Sto) : restK "_law_thing" 4 cf lv [("_law_cell", law_cell_v), ("_law_kind", law_kind_v), ("_law_size", law_size_v)] σ =
 (@qk _ _ (eE AV) (@qk _ _ (eE Bool) (cmpop .Eq law_kind_v (.int 2) σ) (.mk fun v1001 σ1002 =>
 @qk _ _ (eE Bool) (truthO v1001 σ1002) (.mk fun b1003 σ1004 =>
 .ok b1003 σ1004))) (.mk fun c1005 σ1006 =>
 @bq _ (c1005) (.mk (@qk _ _ (eE AV) (binop .Mod law_size_v (.int 30) σ1006) (.mk fun v1007 σ1008 =>
 @qk _ _ (eE AV) (rangeOf [v1007] σ1008) (.mk fun s1009 σ1010 =>
 @qk _ _ (eE AV) (cpSrc lv (fun x1011 σ1012 =>
 (@qk _ _ (eE (Option AV)) (binop .Add x1011 (.int 1) σ1012) (.mk fun v1113 σ1114 =>
 @qk _ _ (eE (Option AV)) (binop .FloorDiv law_cell_v v1113 σ1114) (.mk fun v1115 σ1116 =>
 @qk _ _ (eE (Option AV)) (binop .Mod v1115 (.int 9) σ1116) (.mk fun v1117 σ1118 =>
 .ok (some v1117) σ1118))))) s1009 σ1010) (.mk fun xs1119 σ1120 =>
 @qk _ _ (eE AV) (newL xs1119 σ1120) (.mk fun v1121 σ1122 =>
 @qk _ _ (eE AV) (callA PP cf lv "tuple" [v1121] σ1122) (.mk fun v1123 σ1124 =>
 .ok v1123 σ1124))))))) (.mk (restK "_law_thing" 5 cf lv [("_law_cell", law_cell_v), ("_law_kind", law_kind_v), ("_law_size", law_size_v)] σ1006))) : Out AV) := by
  kernel_rfl

-- law_thing 5: by hand

theorem law_thing_S6 (cf : Calls) (lv : Nat) (law_cell_v law_kind_v law_size_v : AV) (σ : Sto) : restK "_law_thing" 6 cf lv [("_law_cell", law_cell_v), ("_law_kind", law_kind_v), ("_law_size", law_size_v)] σ =
 (@qk _ _ (eE AV) (@qk _ _ (eE Bool) (cmpop .Eq law_kind_v (.int 4) σ) (.mk fun v1001 σ1002 =>
 @qk _ _ (eE Bool) (truthO v1001 σ1002) (.mk fun b1003 σ1004 =>
 .ok b1003 σ1004))) (.mk fun c1005 σ1006 =>
 @bq _ (c1005) (.mk (@qk _ _ (eE AV) (binop .FloorDiv law_cell_v (.int 12) σ1006) (.mk fun v1007 σ1008 =>
 @qk _ _ (eE AV) (cf lv "_law_text" [v1007, law_size_v] σ1008) (.mk fun v1009 σ1010 =>
 @qk _ _ (eE AV) (unop .USub law_size_v σ1010) (.mk fun v1011 σ1012 =>
 .ok (.tup [.none, v1009, v1011, (.tup [(.str ""), (.tup [.none])])]) σ1012))))) (.mk (restK "_law_thing" 7 cf lv [("_law_cell", law_cell_v), ("_law_kind", law_kind_v), ("_law_size", law_size_v)] σ1006))) : Out AV) := by
  kernel_rfl

theorem law_thing_S7 (cf : Calls) (lv : Nat) (law_cell_v law_kind_v law_size_v : AV) (σ : Sto) : restK "_law_thing" 7 cf lv [("_law_cell", law_cell_v), ("_law_kind", law_kind_v), ("_law_size", law_size_v)] σ =
 (@qk _ _ (eE AV) (newL [.none, (.str ""), (.bool true), (.bool false), (.int 0), (.tup [(.bool true), (.tup [(.int 1), (.str "x")])]), (.tup [])] σ) (.mk fun v1 σ2 =>
 @qk _ _ (eE AV) (binop .Sub law_kind_v (.int 5) σ2) (.mk fun v3 σ4 =>
 @qk _ _ (eE AV) (item v1 v3 σ4) (.mk fun v5 σ6 =>
 .ok v5 σ6))) : Out AV) := by
  kernel_rfl

theorem law_refused_by_any_S (cf : Calls) (lv : Nat) (law_pairs_here_v law_one_v law_other_v : AV) (σ : Sto) : callBody PP cf lv "_law_refused_by_any" [law_pairs_here_v, law_one_v, law_other_v] σ = restK "_law_refused_by_any" 0 cf lv [("_law_pairs_here", law_pairs_here_v), ("_law_one", law_one_v), ("_law_other", law_other_v)] σ := by
  rw [callBody_K PP cf lv "_law_refused_by_any" _ _ _ _ _ rfl rfl]
  kernel_rfl

theorem law_refused_by_any_S0 (cf : Calls) (lv : Nat) (l : Loc) (σ : Sto) : restK "_law_refused_by_any" 0 cf lv l σ = tryR "_law_refused_by_any" 0 cf lv (tryB "_law_refused_by_any" 0 cf lv l σ) := by
  kernel_rfl

theorem law_refused_by_any_B0 (cf : Calls) (lv : Nat) (law_pairs_here_v law_one_v law_other_v : AV) (σ : Sto) : tryB "_law_refused_by_any" 0 cf lv [("_law_pairs_here", law_pairs_here_v), ("_law_one", law_one_v), ("_law_other", law_other_v)] σ =
 (@qk _ _ (ktS.e [("_law_pairs_here", law_pairs_here_v), ("_law_one", law_one_v), ("_law_other", law_other_v)]) (@qk _ _ (eE Bool) (cmpop .Is law_pairs_here_v .none σ) (.mk fun v1001 σ1002 =>
 @qk _ _ (eE Bool) (truthO v1001 σ1002) (.mk fun b1003 σ1004 =>
 .ok b1003 σ1004))) (.mk fun c1005 σ1006 =>
 @bq _ (c1005) (.mk (@qk _ _ (ktS.e [("_law_pairs_here", law_pairs_here_v), ("_law_one", law_one_v), ("_law_other", law_other_v)]) (cf lv "laid" [law_one_v, law_other_v] σ1006) (.mk fun v1007 σ1008 =>
 .ok .next [("_law_pairs_here", law_pairs_here_v), ("_law_one", law_one_v), ("_law_other", law_other_v)] σ1008))) (.mk (@qk _ _ (ktS.e [("_law_pairs_here", law_pairs_here_v), ("_law_one", law_one_v), ("_law_other", law_other_v)]) (cf lv "raised" [law_pairs_here_v] σ1006) (.mk fun v1009 σ1010 =>
 .ok .next [("_law_pairs_here", law_pairs_here_v), ("_law_one", law_one_v), ("_law_other", law_other_v)] σ1010)))) : OutS) := by
  kernel_rfl

theorem law_refused_by_any_H0_NotApart (cf : Calls) (lv : Nat) (law_pairs_here_v law_one_v law_other_v : AV) (σ : Sto) : tryH "_law_refused_by_any" 0 cf lv "NotApart" [("_law_pairs_here", law_pairs_here_v), ("_law_one", law_one_v), ("_law_other", law_other_v)] σ =
 (@qk _ _ (eB AV) (cmpop .Is law_pairs_here_v .none σ) (.mk fun v1 σ2 =>
 @qk _ _ (eB AV) (truthO v1 σ2) (.mk fun b3 σ4 =>
 @bq _ (b3) (.mk (@qk _ _ (eB AV) (callA PP cf (lv + 1) "isinstance" [(.exc "NotApart"), (.typ "NotRising")] σ4) (.mk fun v5 σ6 =>
 @qk _ _ (eB AV) (cf (lv + 1) "_law_alone" [(.exc "NotApart"), v5] σ6) (.mk fun v7 σ8 =>
 .ok v7 σ8)))) (.mk (.ok v1 σ4)))) : Out AV) := by
  kernel_rfl

theorem law_refused_by_any_H0_NotRising (cf : Calls) (lv : Nat) (law_pairs_here_v law_one_v law_other_v : AV) (σ : Sto) : tryH "_law_refused_by_any" 0 cf lv "NotRising" [("_law_pairs_here", law_pairs_here_v), ("_law_one", law_one_v), ("_law_other", law_other_v)] σ =
 (@qk _ _ (eB AV) (cmpop .IsNot law_pairs_here_v .none σ) (.mk fun v1 σ2 =>
 @qk _ _ (eB AV) (truthO v1 σ2) (.mk fun b3 σ4 =>
 @bq _ (b3) (.mk (@qk _ _ (eB AV) (callA PP cf (lv + 1) "isinstance" [(.exc "NotRising"), (.typ "NotApart")] σ4) (.mk fun v5 σ6 =>
 @qk _ _ (eB AV) (cf (lv + 1) "_law_alone" [(.exc "NotRising"), v5] σ6) (.mk fun v7 σ8 =>
 .ok v7 σ8)))) (.mk (.ok v1 σ4)))) : Out AV) := by
  kernel_rfl

theorem law_refused_by_any_S1 (cf : Calls) (lv : Nat) (law_pairs_here_v law_one_v law_other_v : AV) (σ : Sto) : restK "_law_refused_by_any" 1 cf lv [("_law_pairs_here", law_pairs_here_v), ("_law_one", law_one_v), ("_law_other", law_other_v)] σ =
 (.ok (.bool false) σ : Out AV) := by
  kernel_rfl

theorem law_laid_S (cf : Calls) (lv : Nat) (law_ones_v law_others_v law_due_v : AV) (σ : Sto) : callBody PP cf lv "_law_laid" [law_ones_v, law_others_v, law_due_v] σ = restK "_law_laid" 0 cf lv [("_law_ones", law_ones_v), ("_law_others", law_others_v), ("_law_due", law_due_v)] σ := by
  rw [callBody_K PP cf lv "_law_laid" _ _ _ _ _ rfl rfl]
  kernel_rfl

theorem law_laid_S0 (cf : Calls) (lv : Nat) (law_ones_v law_others_v law_due_v : AV) (σ : Sto) : restK "_law_laid" 0 cf lv [("_law_ones", law_ones_v), ("_law_others", law_others_v), ("_law_due", law_due_v)] σ =
 (@qk _ _ (eE AV) (callA PP cf lv "list" [law_ones_v] σ) (.mk fun v1 σ2 =>
 @qk _ _ (eE AV) (cf lv "raised" [v1] σ2) (.mk fun v3 σ4 =>
 restK "_law_laid" 1 cf lv [("_law_ones", law_ones_v), ("_law_others", law_others_v), ("_law_due", law_due_v), ("_law_one", v3)] σ4)) : Out AV) := by
  kernel_rfl

theorem law_laid_S1 (cf : Calls) (lv : Nat) (law_ones_v law_others_v law_due_v law_one_v : AV) (σ : Sto) : restK "_law_laid" 1 cf lv [("_law_ones", law_ones_v), ("_law_others", law_others_v), ("_law_due", law_due_v), ("_law_one", law_one_v)] σ =
 (@qk _ _ (eE AV) (callA PP cf lv "list" [law_others_v] σ) (.mk fun v1 σ2 =>
 @qk _ _ (eE AV) (cf lv "raised" [v1] σ2) (.mk fun v3 σ4 =>
 restK "_law_laid" 2 cf lv [("_law_ones", law_ones_v), ("_law_others", law_others_v), ("_law_due", law_due_v), ("_law_one", law_one_v), ("_law_other", v3)] σ4)) : Out AV) := by
  kernel_rfl

theorem law_laid_S2 (cf : Calls) (lv : Nat) (law_ones_v law_others_v law_due_v law_one_v law_other_v : AV) (σ : Sto) : restK "_law_laid" 2 cf lv [("_law_ones", law_ones_v), ("_law_others", law_others_v), ("_law_due", law_due_v), ("_law_one", law_one_v), ("_law_other", law_other_v)] σ =
 (@qk _ _ (eE AV) (unop .Not law_ones_v σ) (.mk fun v1 σ2 =>
 @qk _ _ (eE AV) (truthO v1 σ2) (.mk fun b3 σ4 =>
 @bq _ (b3) (.mk (restK "_law_laid" 3 cf lv [("_law_ones", law_ones_v), ("_law_others", law_others_v), ("_law_due", law_due_v), ("_law_one", law_one_v), ("_law_other", law_other_v), ("_law_apart", v1)] σ4)) (.mk (@qk _ _ (eE AV) (unop .Not law_others_v σ4) (.mk fun v5 σ6 =>
 @qk _ _ (eE AV) (truthO v5 σ6) (.mk fun b7 σ8 =>
 @bq _ (b7) (.mk (restK "_law_laid" 3 cf lv [("_law_ones", law_ones_v), ("_law_others", law_others_v), ("_law_due", law_due_v), ("_law_one", law_one_v), ("_law_other", law_other_v), ("_law_apart", v5)] σ8)) (.mk (@qk _ _ (eE AV) (unop .USub (.int 1) σ8) (.mk fun v9 σ10 =>
 @qk _ _ (eE AV) (item law_ones_v v9 σ10) (.mk fun v11 σ12 =>
 @qk _ _ (eE AV) (item v11 (.int 0) σ12) (.mk fun v13 σ14 =>
 @qk _ _ (eE AV) (item law_others_v (.int 0) σ14) (.mk fun v15 σ16 =>
 @qk _ _ (eE AV) (item v15 (.int 0) σ16) (.mk fun v17 σ18 =>
 @qk _ _ (eE AV) (cmpop .Lt v13 v17 σ18) (.mk fun v19 σ20 =>
 restK "_law_laid" 3 cf lv [("_law_ones", law_ones_v), ("_law_others", law_others_v), ("_law_due", law_due_v), ("_law_one", law_one_v), ("_law_other", law_other_v), ("_law_apart", v19)] σ20)))))))))))))) : Out AV) := by
  kernel_rfl

theorem law_laid_S3 (cf : Calls) (lv : Nat) (l : Loc) (σ : Sto) : restK "_law_laid" 3 cf lv l σ = tryR "_law_laid" 3 cf lv (tryB "_law_laid" 3 cf lv l σ) := by
  kernel_rfl

theorem law_laid_B3 (cf : Calls) (lv : Nat) (law_ones_v law_others_v law_due_v law_one_v law_other_v law_apart_v : AV) (σ : Sto) : tryB "_law_laid" 3 cf lv [("_law_ones", law_ones_v), ("_law_others", law_others_v), ("_law_due", law_due_v), ("_law_one", law_one_v), ("_law_other", law_other_v), ("_law_apart", law_apart_v)] σ =
 (@qk _ _ (ktS.e [("_law_ones", law_ones_v), ("_law_others", law_others_v), ("_law_due", law_due_v), ("_law_one", law_one_v), ("_law_other", law_other_v), ("_law_apart", law_apart_v)]) (cf lv "laid" [law_one_v, law_other_v] σ) (.mk fun v1 σ2 =>
 .ok .next [("_law_ones", law_ones_v), ("_law_others", law_others_v), ("_law_due", law_due_v), ("_law_one", law_one_v), ("_law_other", law_other_v), ("_law_apart", law_apart_v), ("_law_told", v1)] σ2) : OutS) := by
  kernel_rfl

theorem law_laid_H3_NotApart (cf : Calls) (lv : Nat) (law_ones_v law_others_v law_due_v law_one_v law_other_v law_apart_v : AV) (σ : Sto) : tryH "_law_laid" 3 cf lv "NotApart" [("_law_ones", law_ones_v), ("_law_others", law_others_v), ("_law_due", law_due_v), ("_law_one", law_one_v), ("_law_other", law_other_v), ("_law_apart", law_apart_v)] σ =
 (@qk _ _ (eB AV) (unop .Not law_apart_v σ) (.mk fun v1 σ2 =>
 @qk _ _ (eB AV) (truthO v1 σ2) (.mk fun b3 σ4 =>
 @bq _ (b3) (.mk (@qk _ _ (eB AV) (cf (lv + 1) "_law_refused_by_any" [.none, law_one_v, law_other_v] σ4) (.mk fun v5 σ6 =>
 .ok v5 σ6))) (.mk (.ok v1 σ4)))) : Out AV) := by
  kernel_rfl

theorem law_laid_S4 (cf : Calls) (lv : Nat) (law_ones_v law_others_v law_due_v law_one_v law_other_v law_apart_v law_told_v : AV) (σ : Sto) : restK "_law_laid" 4 cf lv [("_law_ones", law_ones_v), ("_law_others", law_others_v), ("_law_due", law_due_v), ("_law_one", law_one_v), ("_law_other", law_other_v), ("_law_apart", law_apart_v), ("_law_told", law_told_v)] σ =
 (@qk _ _ (eE AV) (truthO law_apart_v σ) (.mk fun b1 σ2 =>
 @bq _ (b1) (.mk (@qk _ _ (eE AV) (cf lv "_law_sound" [law_told_v, law_due_v] σ2) (.mk fun v3 σ4 =>
 .ok v3 σ4))) (.mk (.ok law_apart_v σ2))) : Out AV) := by
  kernel_rfl

theorem law_S (cf : Calls) (lv : Nat) (law_script_v : AV) (σ : Sto) : callBody PP cf lv "law" [law_script_v] σ = restK "law" 0 cf lv [("_law_script", law_script_v)] σ := by
  rw [callBody_K PP cf lv "law" _ _ _ _ _ rfl rfl]
  kernel_rfl

theorem law_S0 (cf : Calls) (lv : Nat) (law_script_v : AV) (σ : Sto) : restK "law" 0 cf lv [("_law_script", law_script_v)] σ =
 (@qk _ _ (eE AV) (cf lv "_law_cell_at" [law_script_v, (.int 1)] σ) (.mk fun v1 σ2 =>
 @qk _ _ (eE AV) (newL [(.int 70), (.int 700)] σ2) (.mk fun v3 σ4 =>
 @qk _ _ (eE AV) (callA PP cf lv "len" [law_script_v] σ4) (.mk fun v5 σ6 =>
 @qk _ _ (eE AV) (cmpop .Gt v5 (.int 63) σ6) (.mk fun v7 σ8 =>
 @qk _ _ (eE AV) (callA PP cf lv "int" [v7] σ8) (.mk fun v9 σ10 =>
 @qk _ _ (eE AV) (item v3 v9 σ10) (.mk fun v11 σ12 =>
 @qk _ _ (eE AV) (binop .Mod v1 v11 σ12) (.mk fun v13 σ14 =>
 restK "law" 1 cf lv [("_law_script", law_script_v), ("_law_many", v13)] σ14))))))) : Out AV) := by
  kernel_rfl

theorem law_S1 (cf : Calls) (lv : Nat) (law_script_v law_many_v : AV) (σ : Sto) : restK "law" 1 cf lv [("_law_script", law_script_v), ("_law_many", law_many_v)] σ =
 (@qk _ _ (eE AV) (@qk _ _ (eE Bool) (cf lv "_law_cell_at" [law_script_v, (.int 1)] σ) (.mk fun v1001 σ1002 =>
 @qk _ _ (eE Bool) (binop .FloorDiv v1001 (.int 70) σ1002) (.mk fun v1003 σ1004 =>
 @qk _ _ (eE Bool) (binop .Mod v1003 (.int 3) σ1004) (.mk fun v1005 σ1006 =>
 @qk _ _ (eE Bool) (cmpop .Eq v1005 (.int 1) σ1006) (.mk fun v1007 σ1008 =>
 @qk _ _ (eE Bool) (truthO v1007 σ1008) (.mk fun b1009 σ1010 =>
 .ok b1009 σ1010)))))) (.mk fun c1011 σ1012 =>
 @bq _ (c1011) (.mk (@qk _ _ (eE AV) (binop .Mod law_many_v (.int 9) σ1012) (.mk fun v1013 σ1014 =>
 restK "law" 2 cf lv [("_law_script", law_script_v), ("_law_many", v1013)] σ1014))) (.mk (restK "law" 2 cf lv [("_law_script", law_script_v), ("_law_many", law_many_v)] σ1012))) : Out AV) := by
  kernel_rfl

theorem law_S2 (cf : Calls) (lv : Nat) (law_script_v law_many_v : AV) (σ : Sto) : restK "law" 2 cf lv [("_law_script", law_script_v), ("_law_many", law_many_v)] σ =
 (@qk _ _ (eE AV) (@qk _ _ (eE Bool) (cf lv "_law_cell_at" [law_script_v, (.int 1)] σ) (.mk fun v1001 σ1002 =>
 @qk _ _ (eE Bool) (binop .FloorDiv v1001 (.int 210) σ1002) (.mk fun v1003 σ1004 =>
 @qk _ _ (eE Bool) (binop .Mod v1003 (.int 16) σ1004) (.mk fun v1005 σ1006 =>
 @qk _ _ (eE Bool) (cmpop .Eq v1005 (.int 5) σ1006) (.mk fun v1007 σ1008 =>
 @qk _ _ (eE Bool) (truthO v1007 σ1008) (.mk fun b1009 σ1010 =>
 .ok b1009 σ1010)))))) (.mk fun c1011 σ1012 =>
 @bq _ (c1011) (.mk (@qk _ _ (eE AV) (cf lv "_law_cell_at" [law_script_v, (.int 1)] σ1012) (.mk fun v1013 σ1014 =>
 @qk _ _ (eE AV) (binop .FloorDiv v1013 (.int 3360) σ1014) (.mk fun v1015 σ1016 =>
 @qk _ _ (eE AV) (binop .Mod v1015 (.int 250) σ1016) (.mk fun v1017 σ1018 =>
 restK "law" 3 cf lv [("_law_script", law_script_v), ("_law_many", v1017)] σ1018))))) (.mk (restK "law" 3 cf lv [("_law_script", law_script_v), ("_law_many", law_many_v)] σ1012))) : Out AV) := by
  kernel_rfl

theorem law_S3 (cf : Calls) (lv : Nat) (law_script_v law_many_v : AV) (σ : Sto) : restK "law" 3 cf lv [("_law_script", law_script_v), ("_law_many", law_many_v)] σ =
 (@qk _ _ (eE AV) (cf lv "_law_pairs" [law_script_v, law_many_v] σ) (.mk fun v1 σ2 =>
 restK "law" 4 cf lv [("_law_script", law_script_v), ("_law_many", law_many_v), ("_law_pairs_here", v1)] σ2) : Out AV) := by
  kernel_rfl

theorem law_S4 (cf : Calls) (lv : Nat) (law_script_v law_many_v law_pairs_here_v : AV) (σ : Sto) : restK "law" 4 cf lv [("_law_script", law_script_v), ("_law_many", law_many_v), ("_law_pairs_here", law_pairs_here_v)] σ =
 (@qk _ _ (eE AV) (cf lv "_law_pairs" [law_script_v, law_many_v] σ) (.mk fun v1 σ2 =>
 restK "law" 5 cf lv [("_law_script", law_script_v), ("_law_many", law_many_v), ("_law_pairs_here", law_pairs_here_v), ("_law_due", v1)] σ2) : Out AV) := by
  kernel_rfl

theorem law_S5 (cf : Calls) (lv : Nat) (law_script_v law_many_v law_pairs_here_v law_due_v : AV) (σ : Sto) : restK "law" 5 cf lv [("_law_script", law_script_v), ("_law_many", law_many_v), ("_law_pairs_here", law_pairs_here_v), ("_law_due", law_due_v)] σ =
 (@qk _ _ (eE AV) (callA PP cf lv "list" [law_pairs_here_v] σ) (.mk fun v1 σ2 =>
 restK "law" 6 cf lv [("_law_script", law_script_v), ("_law_many", law_many_v), ("_law_pairs_here", law_pairs_here_v), ("_law_due", law_due_v), ("_law_handed", v1)] σ2) : Out AV) := by
  kernel_rfl

theorem law_S6 (cf : Calls) (lv : Nat) (l : Loc) (σ : Sto) : restK "law" 6 cf lv l σ = tryR "law" 6 cf lv (tryB "law" 6 cf lv l σ) := by
  kernel_rfl

theorem law_B6 (cf : Calls) (lv : Nat) (law_script_v law_many_v law_pairs_here_v law_due_v law_handed_v : AV) (σ : Sto) : tryB "law" 6 cf lv [("_law_script", law_script_v), ("_law_many", law_many_v), ("_law_pairs_here", law_pairs_here_v), ("_law_due", law_due_v), ("_law_handed", law_handed_v)] σ =
 (@qk _ _ (ktS.e [("_law_script", law_script_v), ("_law_many", law_many_v), ("_law_pairs_here", law_pairs_here_v), ("_law_due", law_due_v), ("_law_handed", law_handed_v)]) (cf lv "raised" [law_handed_v] σ) (.mk fun v1 σ2 =>
 .ok .next [("_law_script", law_script_v), ("_law_many", law_many_v), ("_law_pairs_here", law_pairs_here_v), ("_law_due", law_due_v), ("_law_handed", law_handed_v), ("_law_told", v1)] σ2) : OutS) := by
  kernel_rfl

theorem law_H6_NotRising (cf : Calls) (lv : Nat) (law_script_v law_many_v law_pairs_here_v law_due_v law_handed_v : AV) (σ : Sto) : tryH "law" 6 cf lv "NotRising" [("_law_script", law_script_v), ("_law_many", law_many_v), ("_law_pairs_here", law_pairs_here_v), ("_law_due", law_due_v), ("_law_handed", law_handed_v)] σ =
 (@qk _ _ (eB AV) (cf (lv + 1) "_law_rise" [law_due_v] σ) (.mk fun v1 σ2 =>
 @qk _ _ (eB AV) (unop .Not v1 σ2) (.mk fun v3 σ4 =>
 @qk _ _ (eB AV) (truthO v3 σ4) (.mk fun b5 σ6 =>
 @bq _ (b5) (.mk (@qk _ _ (eB AV) (cf (lv + 1) "_law_same" [law_handed_v, law_due_v] σ6) (.mk fun v7 σ8 =>
 @qk _ _ (eB AV) (truthO v7 σ8) (.mk fun b9 σ10 =>
 @bq _ (b9) (.mk (@qk _ _ (eB AV) (cf (lv + 1) "_law_refused_by_any" [law_handed_v, .none, .none] σ10) (.mk fun v11 σ12 =>
 .ok v11 σ12))) (.mk (.ok v7 σ10)))))) (.mk (.ok v3 σ6))))) : Out AV) := by
  kernel_rfl

theorem law_S7 (cf : Calls) (lv : Nat) (law_script_v law_many_v law_pairs_here_v law_due_v law_handed_v law_told_v : AV) (σ : Sto) : restK "law" 7 cf lv [("_law_script", law_script_v), ("_law_many", law_many_v), ("_law_pairs_here", law_pairs_here_v), ("_law_due", law_due_v), ("_law_handed", law_handed_v), ("_law_told", law_told_v)] σ =
 (@qk _ _ (eE AV) (@qk _ _ (eE Bool) (cf lv "_law_rise" [law_due_v] σ) (.mk fun v1001 σ1002 =>
 @qk _ _ (eE Bool) (truthO v1001 σ1002) (.mk fun b1003 σ1004 =>
 @bq _ ((!b1003)) (.mk (.ok true σ1004)) (.mk (@qk _ _ (eE Bool) (cf lv "_law_same" [law_handed_v, law_due_v] σ1004) (.mk fun v1005 σ1006 =>
 @qk _ _ (eE Bool) (truthO v1005 σ1006) (.mk fun b1007 σ1008 =>
 @bq _ ((!b1007)) (.mk (.ok true σ1008)) (.mk (@qk _ _ (eE Bool) (cf lv "_law_sound" [law_told_v, law_due_v] σ1008) (.mk fun v1009 σ1010 =>
 @qk _ _ (eE Bool) (truthO v1009 σ1010) (.mk fun b1011 σ1012 =>
 @bq _ ((!b1011)) (.mk (.ok true σ1012)) (.mk (.ok false σ1012))))))))))))) (.mk fun c1013 σ1014 =>
 @bq _ (c1013) (.mk (.ok (.bool false) σ1014)) (.mk (restK "law" 8 cf lv [("_law_script", law_script_v), ("_law_many", law_many_v), ("_law_pairs_here", law_pairs_here_v), ("_law_due", law_due_v), ("_law_handed", law_handed_v), ("_law_told", law_told_v)] σ1014))) : Out AV) := by
  kernel_rfl

theorem law_S8 (cf : Calls) (lv : Nat) (law_script_v law_many_v law_pairs_here_v law_due_v law_handed_v law_told_v : AV) (σ : Sto) : restK "law" 8 cf lv [("_law_script", law_script_v), ("_law_many", law_many_v), ("_law_pairs_here", law_pairs_here_v), ("_law_due", law_due_v), ("_law_handed", law_handed_v), ("_law_told", law_told_v)] σ =
 (@qk _ _ (eE AV) (cf lv "_law_cell_at" [law_script_v, (.int 6)] σ) (.mk fun v1 σ2 =>
 @qk _ _ (eE AV) (binop .Add law_many_v (.int 1) σ2) (.mk fun v3 σ4 =>
 @qk _ _ (eE AV) (binop .Mod v1 v3 σ4) (.mk fun v5 σ6 =>
 restK "law" 9 cf lv [("_law_script", law_script_v), ("_law_many", law_many_v), ("_law_pairs_here", law_pairs_here_v), ("_law_due", law_due_v), ("_law_handed", law_handed_v), ("_law_told", law_told_v), ("_law_cut", v5)] σ6))) : Out AV) := by
  kernel_rfl

theorem law_S9 (cf : Calls) (lv : Nat) (law_script_v law_many_v law_pairs_here_v law_due_v law_handed_v law_told_v law_cut_v : AV) (σ : Sto) : restK "law" 9 cf lv [("_law_script", law_script_v), ("_law_many", law_many_v), ("_law_pairs_here", law_pairs_here_v), ("_law_due", law_due_v), ("_law_handed", law_handed_v), ("_law_told", law_told_v), ("_law_cut", law_cut_v)] σ =
 (@qk _ _ (eE AV) (cf lv "_law_cell_at" [law_script_v, (.int 7)] σ) (.mk fun v1 σ2 =>
 @qk _ _ (eE AV) (binop .Mod v1 (.int 4) σ2) (.mk fun v3 σ4 =>
 restK "law" 10 cf lv [("_law_script", law_script_v), ("_law_many", law_many_v), ("_law_pairs_here", law_pairs_here_v), ("_law_due", law_due_v), ("_law_handed", law_handed_v), ("_law_told", law_told_v), ("_law_cut", law_cut_v), ("_law_way", v3)] σ4)) : Out AV) := by
  kernel_rfl

theorem law_S10 (cf : Calls) (lv : Nat) (law_script_v law_many_v law_pairs_here_v law_due_v law_handed_v law_told_v law_cut_v law_way_v : AV) (σ : Sto) : restK "law" 10 cf lv [("_law_script", law_script_v), ("_law_many", law_many_v), ("_law_pairs_here", law_pairs_here_v), ("_law_due", law_due_v), ("_law_handed", law_handed_v), ("_law_told", law_told_v), ("_law_cut", law_cut_v), ("_law_way", law_way_v)] σ =
 (@qk _ _ (eE AV) (@qk _ _ (eE Bool) (cmpop .Eq law_way_v (.int 1) σ) (.mk fun v1001 σ1002 =>
 @qk _ _ (eE Bool) (truthO v1001 σ1002) (.mk fun b1003 σ1004 =>
 .ok b1003 σ1004))) (.mk fun c1005 σ1006 =>
 @bq _ (c1005) (.mk (@qk _ _ (eE AV) (slA law_cut_v .none σ1006) (.mk fun v1007 σ1008 =>
 @qk _ _ (eE AV) (item law_pairs_here_v v1007 σ1008) (.mk fun v1009 σ1010 =>
 @qk _ _ (eE AV) (slA .none law_cut_v σ1010) (.mk fun v1011 σ1012 =>
 @qk _ _ (eE AV) (item law_pairs_here_v v1011 σ1012) (.mk fun v1013 σ1014 =>
 @qk _ _ (eE AV) (slA law_cut_v .none σ1014) (.mk fun v1015 σ1016 =>
 @qk _ _ (eE AV) (item law_due_v v1015 σ1016) (.mk fun v1017 σ1018 =>
 @qk _ _ (eE AV) (slA .none law_cut_v σ1018) (.mk fun v1019 σ1020 =>
 @qk _ _ (eE AV) (item law_due_v v1019 σ1020) (.mk fun v1021 σ1022 =>
 @qk _ _ (eE AV) (binop .Add v1017 v1021 σ1022) (.mk fun v1023 σ1024 =>
 @qk _ _ (eE AV) (cf lv "_law_laid" [v1009, v1013, v1023] σ1024) (.mk fun v1025 σ1026 =>
 .ok v1025 σ1026)))))))))))) (.mk (restK "law" 11 cf lv [("_law_script", law_script_v), ("_law_many", law_many_v), ("_law_pairs_here", law_pairs_here_v), ("_law_due", law_due_v), ("_law_handed", law_handed_v), ("_law_told", law_told_v), ("_law_cut", law_cut_v), ("_law_way", law_way_v)] σ1006))) : Out AV) := by
  kernel_rfl

theorem law_S11 (cf : Calls) (lv : Nat) (law_script_v law_many_v law_pairs_here_v law_due_v law_handed_v law_told_v law_cut_v law_way_v : AV) (σ : Sto) : restK "law" 11 cf lv [("_law_script", law_script_v), ("_law_many", law_many_v), ("_law_pairs_here", law_pairs_here_v), ("_law_due", law_due_v), ("_law_handed", law_handed_v), ("_law_told", law_told_v), ("_law_cut", law_cut_v), ("_law_way", law_way_v)] σ =
 (@qk _ _ (eE AV) (@qk _ _ (eE Bool) (cmpop .Eq law_way_v (.int 2) σ) (.mk fun v1001 σ1002 =>
 @qk _ _ (eE Bool) (truthO v1001 σ1002) (.mk fun b1003 σ1004 =>
 .ok b1003 σ1004))) (.mk fun c1005 σ1006 =>
 @bq _ (c1005) (.mk (@qk _ _ (eE AV) (binop .Add law_cut_v (.int 1) σ1006) (.mk fun v1007 σ1008 =>
 @qk _ _ (eE AV) (slA .none v1007 σ1008) (.mk fun v1009 σ1010 =>
 @qk _ _ (eE AV) (item law_pairs_here_v v1009 σ1010) (.mk fun v1011 σ1012 =>
 @qk _ _ (eE AV) (slA law_cut_v .none σ1012) (.mk fun v1013 σ1014 =>
 @qk _ _ (eE AV) (item law_pairs_here_v v1013 σ1014) (.mk fun v1015 σ1016 =>
 @qk _ _ (eE AV) (cf lv "_law_laid" [v1011, v1015, law_due_v] σ1016) (.mk fun v1017 σ1018 =>
 .ok v1017 σ1018)))))))) (.mk (restK "law" 12 cf lv [("_law_script", law_script_v), ("_law_many", law_many_v), ("_law_pairs_here", law_pairs_here_v), ("_law_due", law_due_v), ("_law_handed", law_handed_v), ("_law_told", law_told_v), ("_law_cut", law_cut_v), ("_law_way", law_way_v)] σ1006))) : Out AV) := by
  kernel_rfl

theorem law_S12 (cf : Calls) (lv : Nat) (law_script_v law_many_v law_pairs_here_v law_due_v law_handed_v law_told_v law_cut_v law_way_v : AV) (σ : Sto) : restK "law" 12 cf lv [("_law_script", law_script_v), ("_law_many", law_many_v), ("_law_pairs_here", law_pairs_here_v), ("_law_due", law_due_v), ("_law_handed", law_handed_v), ("_law_told", law_told_v), ("_law_cut", law_cut_v), ("_law_way", law_way_v)] σ =
 (@qk _ _ (eE AV) (slA .none law_cut_v σ) (.mk fun v1 σ2 =>
 @qk _ _ (eE AV) (item law_pairs_here_v v1 σ2) (.mk fun v3 σ4 =>
 @qk _ _ (eE AV) (slA law_cut_v .none σ4) (.mk fun v5 σ6 =>
 @qk _ _ (eE AV) (item law_pairs_here_v v5 σ6) (.mk fun v7 σ8 =>
 @qk _ _ (eE AV) (cf lv "_law_laid" [v3, v7, law_due_v] σ8) (.mk fun v9 σ10 =>
 .ok v9 σ10))))) : Out AV) := by
  kernel_rfl

end Mine.L

/- L8 -/
set_option tactic.hygienic false
/-! Mine: the law's helpers over a store that grows. -/
namespace Mine.L
open PySem Tr
set_option linter.unusedVariables false
set_option maxRecDepth 100000
set_option linter.unusedSimpArgs false
set_option exponentiation.threshold 1100

noncomputable def Grow (σ σ' : Sto) : Prop := ∃ g, σ' = σ ++ g
theorem Grow.refl (σ : Sto) : Grow σ σ := ⟨[], by simp⟩
theorem Grow.trans {a b c : Sto} (x : Grow a b) (y : Grow b c) : Grow a c := by
  obtain ⟨g, rfl⟩ := x; obtain ⟨g', rfl⟩ := y; exact ⟨g ++ g', by simp⟩
theorem Grow.app (σ g : Sto) : Grow σ (σ ++ g) := ⟨g, rfl⟩
theorem Grow.get {σ σ' : Sto} (x : Grow σ σ') {q : Nat} {o : AO} (h : σ[q]? = some o) : σ'[q]? = some o := by
  obtain ⟨g, rfl⟩ := x
  rw [List.getElem?_append_left]
  · exact h
  · exact (List.getElem?_eq_some_iff.mp h).1
theorem Grow.le {σ σ' : Sto} (x : Grow σ σ') : σ.length ≤ σ'.length := by
  obtain ⟨g, rfl⟩ := x; simp
theorem get_new (σ : Sto) (o : AO) : (σ ++ [o])[σ.length]? = some o := by simp

theorem newL_ok' {xs : List AV} (h : xs.length ≤ bigN) (σ : Sto) : newL xs σ = .ok (.ref σ.length) (σ ++ [.list xs]) := by
  unfold newL; rw [Nat.ble_eq_true_of_le h]; rfl
theorem newL_nil (σ : Sto) : newL [] σ = .ok (.ref σ.length) (σ ++ [.list []]) := newL_ok' (by simp) σ

theorem cp_grow {elt : AV → Sto → Out (Option AV)} {f : AV → Option AV} : ∀ (xs acc : List AV) (σ : Sto), (∀ v ∈ xs, ∀ σ', Grow σ σ' → ∃ σ'', Grow σ' σ'' ∧ elt v σ' = .ok (f v) σ'') → acc.length + xs.length ≤ bigN →
    ∃ σ', Grow σ σ' ∧ cpItems elt xs acc σ = .ok (acc ++ xs.filterMap f) σ'
  | [], acc, σ, _, _ => ⟨σ, .refl _, by simp [cpItems]⟩
  | v :: r, acc, σ, h, hz => by
    obtain ⟨σ₁, g₁, e₁⟩ := h v (.head _) σ (.refl _)
    simp only [List.length_cons] at hz
    unfold cpItems
    rw [e₁]
    have hr : ∀ v ∈ r, ∀ σ', Grow σ₁ σ' → ∃ σ'', Grow σ' σ'' ∧ elt v σ' = .ok (f v) σ'' := fun v hv σ' g => h v (.tail _ hv) σ' (g₁.trans g)
    cases hf : f v with
    | none =>
      obtain ⟨σ', g', e'⟩ := cp_grow r acc σ₁ hr (by first | exact fu hm | omega)
      exact ⟨σ', g₁.trans g', by simp [hf, e']⟩
    | some y =>
      obtain ⟨σ', g', e'⟩ := cp_grow r (acc ++ [y]) σ₁ hr (by simp; omega)
      refine ⟨σ', g₁.trans g', ?_⟩
      simp only [Nat.ble_eq_true_of_le (show acc.length ≤ bigN by omega), cond_true, bq_true, e', List.filterMap_cons, hf, List.append_assoc, List.singleton_append]
theorem cpSrc_items {lv : Nat} (hl : lv ≤ 1) (elt : AV → Sto → Out (Option AV)) (xs : List AV) (σ : Sto) : cpSrc lv elt (.items xs) σ = cpItems elt xs [] σ := by
  unfold cpSrc; rw [Nat.ble_eq_true_of_le hl]; rfl
theorem rangeL_len (a b : Int) : (rangeL a b).length = (b - a).toNat := by simp [rangeL]
theorem mem_rangeL {a b : Int} {v : AV} (h : v ∈ rangeL a b) : ∃ i : Int, v = .int i ∧ a ≤ i ∧ i < b := by
  unfold rangeL at h
  obtain ⟨i, hi, rfl⟩ := List.mem_map.mp h
  rw [List.mem_range] at hi
  exact ⟨_, rfl, by omega, by omega⟩

/-- plain data of depth d: what == and isinstance answer -/
inductive Plain : Nat → AV → Prop
  | none (d) : Plain d .none
  | bool (d b) : Plain d (.bool b)
  | int (d i) : Plain d (.int i)
  | str (d s) : PyData.strOk s = true → Plain d (.str s)
  | tup (d xs) : xs.length ≤ bigN → (∀ x ∈ xs, Plain d x) → Plain (d + 1) (.tup xs)
theorem Plain.up : ∀ {d : Nat} {v : AV}, Plain d v → ∀ {e : Nat}, d ≤ e → Plain e v
  | _, _, .none _, _, _ => .none _
  | _, _, .bool _ b, _, _ => .bool _ b
  | _, _, .int _ i, _, _ => .int _ i
  | _, _, .str _ s h, _, _ => .str _ s h
  | _, _, .tup d xs h hx, e, he => by
    obtain ⟨e', rfl⟩ : ∃ e', e = e' + 1 := ⟨e - 1, by omega⟩
    exact .tup _ xs h fun x hm => (hx x hm).up (by first | exact fu hm | omega)

theorem isi (cf : Calls) (lv : Nat) (v : AV) (t : Str) (σ : Sto) : callA PP cf lv "isinstance" [v, .typ t] σ = okB (isInst PP t v) σ := by kernel_rfl
@[simp] theorem isi_tup_tup (xs : List AV) : isInst PP "tuple" (.tup xs) = some true := by kernel_rfl
@[simp] theorem isi_tup_none : isInst PP "tuple" .none = some false := by kernel_rfl
@[simp] theorem isi_tup_bool (b : Bool) : isInst PP "tuple" (.bool b) = some false := by kernel_rfl
@[simp] theorem isi_tup_int (b : Int) : isInst PP "tuple" (.int b) = some false := by kernel_rfl
@[simp] theorem isi_tup_str (b : Str) : isInst PP "tuple" (.str b) = some false := by kernel_rfl
@[simp] theorem isi_bool_none : isInst PP "bool" .none = some false := by kernel_rfl
@[simp] theorem isi_bool_bool (b : Bool) : isInst PP "bool" (.bool b) = some true := by kernel_rfl
@[simp] theorem isi_bool_int (b : Int) : isInst PP "bool" (.int b) = some false := by kernel_rfl
@[simp] theorem isi_bool_str (b : Str) : isInst PP "bool" (.str b) = some false := by kernel_rfl
@[simp] theorem isi_int_int (b : Int) : isInst PP "int" (.int b) = some true := by kernel_rfl
@[simp] theorem okB_some (b : Bool) (σ : Sto) : okB (some b) σ = .ok (.bool b) σ := rfl
theorem len_tup (cf : Calls) (lv : Nat) (xs : List AV) (σ : Sto) : callA PP cf lv "len" [.tup xs] σ = .ok (.int xs.length) σ := by kernel_rfl
theorem len_frozen (cf : Calls) (lv : Nat) (xs : List AV) (σ : Sto) : callA PP cf lv "len" [.frozen xs] σ = .ok (.int xs.length) σ := by kernel_rfl
theorem item_tup {xs : List AV} {k : Int} {v : AV} (h0 : 0 ≤ k) (hv : xs[k.toNat]? = some v) (σ : Sto) : item (.tup xs) (.int k) σ = .ok v σ := by
  simp [item, decide_eq_true h0, hv, optA]
theorem eqB (a b : Bool) (σ : Sto) : cmpop .Eq (.bool a) (.bool b) σ = .ok (.bool (a == b)) σ := by
  show okB (some (PyData.eqv (.bool a) (.bool b))) σ = _
  simp only [PyData.eqv]; rfl

/-- an empty list and another -/
theorem eq_nil_nil {a b : Nat} {σ : Sto} (ha : σ[a]? = some (.list [])) (hb : σ[b]? = some (.list [])) : cmpop .Eq (.ref a) (.ref b) σ = .ok (.bool true) σ := by
  show okB (eqv σ (.ref a) (.ref b)) σ = _
  have h1 : plainD σ 16 (.ref a) = some (.list []) := by unfold plainD; simp [ha, allP]
  have h2 : plainD σ 16 (.ref b) = some (.list []) := by unfold plainD; simp [hb, allP]
  unfold eqv; rw [h1, h2]
  simp [PyData.eqv, PyData.eqvAll]
theorem allP_int (σ : Sto) : ∀ is : List Int, allP (plainD σ 15) (is.map .int) = some (is.map .int)
  | [] => rfl
  | x :: r => by
    simp only [List.map_cons, allP, allP_int σ r]
    rfl
theorem eq_ints_nil {a b : Nat} {σ : Sto} {is : List Int} (ha : σ[a]? = some (.list (is.map .int))) (hb : σ[b]? = some (.list [])) : cmpop .Eq (.ref a) (.ref b) σ = .ok (.bool is.isEmpty) σ := by
  show okB (eqv σ (.ref a) (.ref b)) σ = _
  have h1 : plainD σ 16 (.ref a) = some (.list (is.map .int)) := by unfold plainD; simp only [ha, allP_int]; rfl
  have h2 : plainD σ 16 (.ref b) = some (.list []) := by unfold plainD; simp [hb, allP]
  unfold eqv; rw [h1, h2]
  cases is <;> simp [PyData.eqv, PyData.eqvAll]

theorem alike_ok : ∀ (d : Nat) (v : AV), Plain d v → ∀ (n lv : Nat) (σ : Sto), d + 2 ≤ n → lv ≤ 1 → ∃ σ', Grow σ σ' ∧ callN PP n lv "_law_alike" [v, v] σ = .ok (.bool true) σ' := by
  intro d v hp
  induction hp with
  | none d =>
    intro n lv σ hn hl
    obtain ⟨m, rfl, hm⟩ := un hn
    refine ⟨σ, .refl _, ?_⟩
    rw [cN, law_alike_K]
    simp [isi, eqB]; rfl
  | bool d b =>
    intro n lv σ hn hl
    obtain ⟨m, rfl, hm⟩ := un hn
    refine ⟨σ, .refl _, ?_⟩
    rw [cN, law_alike_K]
    simp [isi, eqB]
  | int d i =>
    intro n lv σ hn hl
    obtain ⟨m, rfl, hm⟩ := un hn
    refine ⟨σ, .refl _, ?_⟩
    rw [cN, law_alike_K]
    simp [isi, eqB]
  | str d s hs =>
    intro n lv σ hn hl
    obtain ⟨m, rfl, hm⟩ := un hn
    refine ⟨σ, .refl _, ?_⟩
    rw [cN, law_alike_K]
    have : cmpop .Eq (.str s) (.str s) σ = .ok (.bool true) σ := by
      show okB (eqv σ (.str s) (.str s)) σ = _
      have h1 : plainD σ 16 (.str s) = some (.str s) := by unfold plainD; simp [hs]
      unfold eqv; rw [h1]; simp [PyData.eqv]
    simp [isi, eqB, this]
  | tup d xs hz hx ih =>
    intro n lv σ hn hl
    obtain ⟨m, rfl, hm⟩ := un (k := d + 2) (show d + 2 + 1 ≤ n by omega)
    rw [cN, law_alike_K]
    have hb : (xs.length : Int) ≤ 2 ^ 40 := by unfold bigN at hz; omega
    simp only [isi, isi_tup_tup, okB_some, pkE_ok, tr_bool, cond_true, bq_true, Bool.not_true, cond_false, bq_false, len_tup, cmp_ne, decide_true, range_of1 (show -(2 ^ 40) ≤ (xs.length : Int) by omega) hb, cpSrc_items hl]
    obtain ⟨σ₁, g₁, e₁⟩ := cp_grow (f := fun _ => Option.none) (elt := fun x2025 σ2026 =>
      @qk _ _ (eE (Option AV)) (item (.tup xs) x2025 σ2026) (.mk fun v2127 σ2128 =>
      @qk _ _ (eE (Option AV)) (item (.tup xs) x2025 σ2128) (.mk fun v2129 σ2130 =>
      @qk _ _ (eE (Option AV)) (callN PP m lv "_law_alike" [v2127, v2129] σ2130) (.mk fun v2131 σ2132 =>
      @qk _ _ (eE (Option AV)) (truthO v2131 σ2132) (.mk fun b2133 σ2134 =>
      @bq _ ((!b2133)) (.mk (.ok (some x2025) σ2134)) (.mk (.ok Option.none σ2134))))))) (rangeL 0 xs.length) [] σ (fun v hv σ' g => by
        obtain ⟨i, rfl, h0, h1⟩ := mem_rangeL hv
        have hlt : i.toNat < xs.length := by omega
        have hg := List.getElem?_eq_getElem hlt
        obtain ⟨σ'', g'', e''⟩ := ih xs[i.toNat] (List.getElem_mem _) m lv σ' (by first | exact fu hm | omega) hl
        exact ⟨σ'', g'', by simp [item_tup h0 hg, e'']⟩) (by rw [rangeL_len]; simp; omega)
    rw [e₁]
    simp only [pkE_ok, List.nil_append]
    have hfm : (rangeL 0 (xs.length : Int)).filterMap (fun _ => (Option.none : Option AV)) = [] := by simp
    rw [hfm, newL_nil, pkE_ok, newL_nil, pkE_ok, eq_nil_nil (Grow.get (.app _ _) (get_new σ₁ _)) (get_new _ _)]
    exact ⟨_, (g₁.trans (.app _ _)).trans (.app _ _), rfl⟩
end Mine.L

/- L9 -/
set_option tactic.hygienic false
/-! Mine: the law's helpers: same, seen, sound, rise, alone, refused, laid. -/
namespace Mine.L
open PySem Tr
set_option linter.unusedVariables false
set_option maxRecDepth 100000
set_option linter.unusedSimpArgs false
set_option exponentiation.threshold 1100

noncomputable def AllPlain (L : List (Int × AV)) : Prop := ∀ x ∈ L, Plain 20 x.2
theorem AllPlain.encP {L : List (Int × AV)} (h : AllPlain L) {x : Int × AV} (hx : x ∈ L) : Plain 21 (Mine.L.encP x) :=
  .tup _ _ (by simp [bigN]) fun y hy => by
    simp only [List.mem_cons, List.not_mem_nil, or_false] at hy
    rcases hy with rfl | rfl
    · exact .int _ _
    · exact h x hx

@[simp] theorem pkB_ok {α β : Type} (a : α) (σ : Sto) (f : α → Sto → Out β) : @qk _ _ (eB β) (.ok a σ) (.mk f) = f a σ := rfl
@[simp] theorem not_bool (b : Bool) (σ : Sto) : unop .Not (.bool b) σ = .ok (.bool (!b)) σ := rfl
@[simp] theorem neg_int (i : Int) (σ : Sto) : unop .USub (.int i) σ = .ok (.int (-i)) σ := rfl

theorem same_ok (L : List (Int × AV)) (hz : L.length ≤ 1000) (hp : AllPlain L) {a b n lv : Nat} {σ : Sto} (ha : σ[a]? = some (.list (L.map encP))) (hb : σ[b]? = some (.list (L.map encP))) (hn : 30 ≤ n) (hl : lv ≤ 1) :
    ∃ σ', Grow σ σ' ∧ callN PP n lv "_law_same" [.ref a, .ref b] σ = .ok (.bool true) σ' := by
  obtain ⟨m, rfl, hm⟩ := un (show 29 + 1 ≤ n by first | exact hn | omega)
  rw [cN, law_same_K]
  have hc : (L.length : Int) ≤ 2 ^ 40 := by omega
  simp only [len_lst _ _ ha, len_lst _ _ hb, List.length_map, pkE_ok, cmp_ne, decide_true, Bool.not_true, tr_bool, cond_false, bq_false, range_of1 (show -(2 ^ 40) ≤ (L.length : Int) by omega) hc, cpSrc_items hl]
  obtain ⟨σ₁, g₁, e₁⟩ := cp_grow (f := fun _ => Option.none) (elt := fun x1015 σ1016 =>
    @qk _ _ (eE (Option AV)) (item (.ref a) x1015 σ1016) (.mk fun v1117 σ1118 =>
    @qk _ _ (eE (Option AV)) (item (.ref b) x1015 σ1118) (.mk fun v1119 σ1120 =>
    @qk _ _ (eE (Option AV)) (callN PP m lv "_law_alike" [v1117, v1119] σ1120) (.mk fun v1121 σ1122 =>
    @qk _ _ (eE (Option AV)) (truthO v1121 σ1122) (.mk fun b1123 σ1124 =>
    @bq _ ((!b1123)) (.mk (.ok (some x1015) σ1124)) (.mk (.ok Option.none σ1124))))))) (rangeL 0 L.length) [] σ (fun v hv σ' g => by
      obtain ⟨i, rfl, h0, h1⟩ := mem_rangeL hv
      have hlt : i.toNat < L.length := by omega
      obtain ⟨k, rfl⟩ : ∃ k : Nat, i = k := ⟨i.toNat, by omega⟩
      have hlt' : k < L.length := by omega
      obtain ⟨σ'', g'', e''⟩ := alike_ok 21 (encP L[k]) (hp.encP (List.getElem_mem _)) m lv σ' (by first | exact fu hm | omega) hl
      exact ⟨σ'', g'', by simp [item_L k (g.get ha) hlt', item_L k (g.get hb) hlt', e'']⟩) (by rw [rangeL_len]; simp [bigN]; omega)
  rw [e₁]
  simp only [pkE_ok, List.nil_append]
  have hfm : (rangeL 0 (L.length : Int)).filterMap (fun _ => (Option.none : Option AV)) = [] := by simp
  rw [hfm, newL_nil, pkE_ok, newL_nil, pkE_ok, eq_nil_nil (Grow.get (.app _ _) (get_new σ₁ _)) (get_new _ _)]
  exact ⟨_, (g₁.trans (.app _ _)).trans (.app _ _), rfl⟩

theorem whole_int {n : Nat} (h : 1 ≤ n) (lv : Nat) (i : Int) (σ : Sto) : callN PP n lv "_law_whole" [.int i] σ = .ok (.bool true) σ := by
  obtain ⟨m, rfl, _⟩ := un h
  rw [cN, law_whole_K]
  simp [isi]
theorem set_self {σ : Sto} {q : Nat} {o : AO} (h : σ[q]? = some o) : σ.set q o = σ := by
  apply List.ext_getElem?
  intro i
  rw [List.getElem?_set]
  split
  · rename_i e; subst e
    rw [h]; simp [(List.getElem?_eq_some_iff.mp h).1]
  · rfl
theorem get_set {σ : Sto} {q : Nat} {o o' : AO} (h : σ[q]? = some o) : (σ.set q o')[q]? = some o' := by
  rw [List.getElem?_set_self (List.getElem?_eq_some_iff.mp h).1]
theorem int_bool (cf : Calls) (lv : Nat) (b : Bool) (σ : Sto) : callA PP cf lv "int" [.bool b] σ = .ok (.int (bif b then 1 else 0)) σ := by kernel_rfl

theorem append_ok {σ : Sto} {q : Nat} {xs : List AV} (v : AV) (h : σ[q]? = some (.list xs)) (hz : xs.length ≤ bigN) : append (.ref q) v σ = .ok .none (σ.set q (.list (xs ++ [v]))) := by
  simp [append, h, Nat.ble_eq_true_of_le hz]

theorem seen_ok : ∀ (t : Tr) (h : Nat), BH t h → NR t → ∀ (u : Bool), (red t = true → u = false) → ∀ (n lv : Nat) (σ : Sto) (q : Nat) (xs : List AV), dep t + 2 ≤ n → σ[q]? = some (.list xs) → xs.length + size t ≤ bigN →
    callN PP n lv "_law_seen" [enc t, .bool u, .ref q] σ = .ok (.int h) (σ.set q (.list (xs ++ (io t).map encP))) := by
  intro t
  induction t with
  | leaf =>
    intro h hb _ u _ n lv σ q xs hn hq _
    simp only [BH] at hb; subst hb
    obtain ⟨m, rfl, hm⟩ := un (show 0 + 1 ≤ n by first | exact hn | omega)
    rw [cN, law_seen_K]
    simp [io, set_self hq]
  | node p l k v r ihl ihr =>
    intro h hb hnr u hu n lv σ q xs hn hq hz
    simp only [dep] at hn
    obtain ⟨m, rfl, hm⟩ := un (show max (dep l) (dep r) + 2 + 1 - 1 + 1 ≤ n by omega)
    rw [size_node] at hz
    have hh : ∃ h', BH l h' ∧ BH r h' ∧ h = h' + (bif p then 0 else 1) := by
      cases p with
      | true => exact ⟨h, hb.1, hb.2, rfl⟩
      | false => cases h with
        | zero => exact hb.elim
        | succ h => exact ⟨h, hb.1, hb.2, rfl⟩
    obtain ⟨h', hbl, hbr, rfl⟩ := hh
    have ul : red l = true → p = false := fun z => by
      cases p with
      | false => rfl
      | true => rw [(hnr.2.2 rfl).1] at z; cases z
    have ur : red r = true → p = false := fun z => by
      cases p with
      | false => rfl
      | true => rw [(hnr.2.2 rfl).2] at z; cases z
    have s1 := ihl h' hbl hnr.1 p ul m lv σ q xs (by first | exact fu hm | omega) hq (by first | exact fu hm | omega)
    have q1 := get_set (o' := .list (xs ++ (io l).map encP)) hq
    have s2 := append_ok (.tup [.int k, v]) q1 (by simp only [size, List.length_append, List.length_map] at hz ⊢; omega)
    have q2 := get_set (o' := .list (xs ++ (io l).map encP ++ [.tup [.int k, v]])) q1
    have s3 := ihr h' hbr hnr.2.1 p ur m lv _ q _ (by first | exact fu hm | omega) q2 (by simp only [size, List.length_append, List.length_map, List.length_cons, List.length_nil] at hz ⊢; omega)
    have q3 := get_set (o' := .list (xs ++ (io l).map encP ++ [.tup [.int k, v]] ++ (io r).map encP)) q2
    have hlist : listB (σ.set q (.list (xs ++ (io l).map encP))) (.ref q) = true := by simp [listB, q1]
    rw [cN, law_seen_K]
    have hlen := len_lst (callN PP m) lv hq
    have hlen3 := len_lst (callN PP m) lv q3
    have hbad : (p && u) = false := by
      cases p with
      | false => rfl
      | true => simp [hu rfl]
    have e6 : callA PP (callN PP m) lv "len" [enc (.node p l k v r)] σ = .ok (.int 6) σ := by kernel_rfl
    have et : ∀ σ, callA PP (callN PP m) lv "isinstance" [enc (.node p l k v r), .typ "tuple"] σ = .ok (.bool true) σ := fun σ => by kernel_rfl
    have hne : ¬ ((h' : Int) < 0) := by omega
    have hsz : ((size (.node p l k v r) : Nat) : Int) = (((xs ++ (io l).map encP ++ [AV.tup [.int k, v]] ++ (io r).map encP).length : Nat) : Int) - (xs.length : Int) := by
      rw [size_node]; simp only [size, List.length_append, List.length_map, List.length_cons, List.length_nil]; omega
    have hres : (xs ++ (io (.node p l k v r)).map encP) = (xs ++ (io l).map encP ++ [AV.tup [.int k, v]] ++ (io r).map encP) := by
      simp [io, encP]
    have hfin : (h' : Int) + (bif (!p) then 1 else 0) = (((h' + (bif p then 0 else 1) : Nat)) : Int) := by cases p <;> simp
    simp only [List.set_set] at s2 s3 hlen3
    rw [hres]
    cases p with
    | false =>
      simp (disch := first | exact fu hm | omega) only [isNone_node, cmp_is, pkE_ok, tr_bool, cond_false, bq_false, et, Bool.not_true, e6, cmp_ne, decide_true, ei0, ei1, ei2, ei3, ei4, ei5, isi, isi_bool_bool, okB_some, whole_int, cond_true, bq_true, hlen, s1, hlist, s2, s3, cmp_lt, decide_eq_false hne, hlen3, b_sub, hsz, not_bool, int_bool, b_add]
      simp
    | true =>
      have hu' : u = false := hu rfl
      subst hu'
      simp (disch := first | exact fu hm | omega) only [isNone_node, cmp_is, pkE_ok, tr_bool, cond_false, bq_false, et, Bool.not_true, e6, cmp_ne, decide_true, ei0, ei1, ei2, ei3, ei4, ei5, isi, isi_bool_bool, okB_some, whole_int, cond_true, bq_true, hlen, s1, hlist, s2, s3, cmp_lt, decide_eq_false hne, hlen3, b_sub, hsz, not_bool, int_bool, b_add]
      simp
theorem sound_ok (t : Tr) (L : List (Int × AV)) (g : Good t) (hr : red t = false) (hi : io t = L) (hz : L.length ≤ 1000) (hp : AllPlain L) {b n lv : Nat} {σ : Sto} (hb : σ[b]? = some (.list (L.map encP))) (hn : 40 ≤ n) (hl : lv ≤ 1) :
    ∃ σ', Grow σ σ' ∧ callN PP n lv "_law_sound" [enc t, .ref b] σ = .ok (.bool true) σ' := by
  obtain ⟨m, rfl, hm⟩ := un (show 39 + 1 ≤ n by first | exact hn | omega)
  rw [cN, law_sound_K]
  have hs : size t ≤ 1000 := by simp only [size, hi]; exact hz
  have hd := g.dep hs
  obtain ⟨hn', h, hbh⟩ := g
  have s1 := seen_ok t h hbh hn' true (fun z => by rw [hr] at z; cases z) m lv (σ ++ [.list []]) σ.length [] (by first | exact fu hm | omega) (get_new σ _) (by simp [bigN]; omega)
  have e1 : (σ ++ [AO.list []]).set σ.length (.list ([] ++ (io t).map encP)) = σ ++ [.list (L.map encP)] := by
    rw [hi]; simp
  rw [e1] at s1
  have h0 : (0 : Int) ≤ h := by omega
  obtain ⟨σ', g', s2⟩ := same_ok L hz hp (n := m) (lv := lv) (get_new σ (.list (L.map encP))) (Grow.get (.app _ _) hb) (by first | exact fu hm | omega) hl
  refine ⟨σ', (Grow.app _ _).trans g', ?_⟩
  rw [newL_nil]
  simp [s1, h0, s2]

theorem rise_ok (L : List (Int × AV)) (hz : L.length ≤ 1000) {b n lv : Nat} {σ : Sto} (hb : σ[b]? = some (.list (L.map encP))) (hn : 1 ≤ n) (hl : lv ≤ 1) :
    ∃ σ' v, Grow σ σ' ∧ callN PP n lv "_law_rise" [.ref b] σ = .ok (.bool v) σ' ∧ (v = true ↔ Srt L) := by
  obtain ⟨m, rfl, hm⟩ := un (show 0 + 1 ≤ n by first | exact hn | omega)
  rw [cN, law_rise_K]
  have hc : (L.length : Int) ≤ 2 ^ 40 := by omega
  rw [len_lst _ _ hb, List.length_map, pkE_ok, range_of2 1 (by first | exact fu hm | omega) (by first | exact fu hm | omega) (by first | exact fu hm | omega) hc, pkE_ok, cpSrc_items hl]
  let bad : Int → Bool := fun i => decide (((L[(i - 1).toNat]?).map (·.1)).getD 0 ≥ ((L[i.toNat]?).map (·.1)).getD 0)
  obtain ⟨σ₁, g₁, e₁⟩ := cp_grow (f := fun v => match v with | .int i => bif bad i then some (.int 1) else Option.none | _ => Option.none) (elt := fun x5 σ6 =>
    @qk _ _ (eE (Option AV)) (binop .Sub x5 (.int 1) σ6) (.mk fun v107 σ108 =>
    @qk _ _ (eE (Option AV)) (item (.ref b) v107 σ108) (.mk fun v109 σ110 =>
    @qk _ _ (eE (Option AV)) (item v109 (.int 0) σ110) (.mk fun v111 σ112 =>
    @qk _ _ (eE (Option AV)) (item (.ref b) x5 σ112) (.mk fun v113 σ114 =>
    @qk _ _ (eE (Option AV)) (item v113 (.int 0) σ114) (.mk fun v115 σ116 =>
    @qk _ _ (eE (Option AV)) (cmpop .GtE v111 v115 σ116) (.mk fun v117 σ118 =>
    @qk _ _ (eE (Option AV)) (truthO v117 σ118) (.mk fun b119 σ120 =>
    @bq _ (b119) (.mk (.ok (some (.int 1)) σ120)) (.mk (.ok Option.none σ120)))))))))) (rangeL 1 L.length) [] σ (fun v hv σ' g => by
      obtain ⟨i, rfl, h0, h1⟩ := mem_rangeL hv
      obtain ⟨k, rfl⟩ : ∃ k : Nat, i = (k : Int) + 1 := ⟨(i - 1).toNat, by omega⟩
      have hk : k + 1 < L.length := by omega
      have i1 := item_L k (g.get hb) (by first | exact fu hm | omega)
      have i2 := item_L (k + 1) (g.get hb) hk
      rw [show (((k + 1 : Nat)) : Int) = (k : Int) + 1 by simp] at i2
      refine ⟨σ', .refl _, ?_⟩
      have e1 : ((k : Int) + 1 - 1) = k := by omega
      have e2 : ((k : Int) + 1).toNat = k + 1 := by omega
      have hbad : bad ((k : Int) + 1) = decide (L[k].1 ≥ L[k + 1].1) := by
        simp only [bad, e1, e2, Int.toNat_natCast, List.getElem?_eq_getElem hk, List.getElem?_eq_getElem (show k < L.length by omega), Option.map_some, Option.getD_some]
      simp only [b_sub, pkE_ok, e1, i1, it_encP0, i2, cmp_ge, tr_bool, hbad]
      cases decide (L[k].1 ≥ L[k + 1].1) <;> rfl) (by rw [rangeL_len]; simp [bigN]; omega)
  rw [e₁]
  have hint : ∀ xs : List AV, (∀ v ∈ xs, ∃ i, v = .int i) → xs.filterMap (fun v => match v with | .int i => bif bad i then some (.int 1) else Option.none | _ => (Option.none : Option AV)) = ((xs.filter fun v => match v with | .int i => bad i | _ => false).map fun _ => (1 : Int)).map .int := by
    intro xs
    induction xs with
    | nil => intro _; rfl
    | cons v r ih =>
      intro h
      obtain ⟨i, rfl⟩ := h v (.head _)
      have := ih fun v hv => h v (.tail _ hv)
      cases hb : bad i with
      | true => simp [hb, this]
      | false => simp [hb, this]
  have hr := hint (rangeL 1 L.length) fun v hv => let ⟨i, e, _⟩ := mem_rangeL hv; ⟨i, e⟩
  simp only [pkE_ok, List.nil_append]
  rw [hr]
  generalize hF : (rangeL 1 (L.length : Int)).filter (fun v => match v with | .int i => bad i | _ => false) = Fl
  have hlen : ((Fl.map fun _ => (1 : Int)).map AV.int).length ≤ bigN := by
    rw [← hF]
    have := List.length_filter_le (fun v => match v with | .int i => bad i | _ => false) (rangeL 1 (L.length : Int))
    rw [rangeL_len] at this
    simp only [List.length_map, bigN]; omega
  rw [newL_ok' hlen, pkE_ok, newL_nil, pkE_ok, eq_ints_nil (Grow.get (.app _ _) (get_new σ₁ _)) (get_new _ _)]
  refine ⟨_, _, (g₁.trans (.app _ _)).trans (.app _ _), rfl, ?_⟩
  have key : Fl = [] ↔ RiseFrom L 0 := by
    rw [← hF, List.filter_eq_nil_iff]
    constructor
    · intro h j _ hj
      have hm : AV.int ((j : Int) + 1) ∈ rangeL 1 (L.length : Int) := by
        unfold rangeL
        refine List.mem_map.mpr ⟨j, List.mem_range.mpr (by first | exact fu hm | omega), ?_⟩
        rw [Int.add_comm]
      have := h _ hm
      have e1 : ((j : Int) + 1 - 1) = j := by omega
      have e2 : ((j : Int) + 1).toNat = j + 1 := by omega
      simp only [bad, e1, e2, Int.toNat_natCast, List.getElem?_eq_getElem hj, List.getElem?_eq_getElem (show j < L.length by omega), Option.map_some, Option.getD_some, decide_eq_true_eq] at this
      omega
    · intro h v hv
      obtain ⟨i, rfl, h0, h1⟩ := mem_rangeL hv
      obtain ⟨k, rfl⟩ : ∃ k : Nat, i = (k : Int) + 1 := ⟨(i - 1).toNat, by omega⟩
      have hk : k + 1 < L.length := by omega
      have := h k (Nat.zero_le _) hk
      have e1 : ((k : Int) + 1 - 1) = k := by omega
      have e2 : ((k : Int) + 1).toNat = k + 1 := by omega
      simp only [bad, e1, e2, Int.toNat_natCast, List.getElem?_eq_getElem hk, List.getElem?_eq_getElem (show k < L.length by omega), Option.map_some, Option.getD_some, decide_eq_true_eq]
      omega
  rw [show (Fl.map fun _ => (1 : Int)).isEmpty = Fl.isEmpty by cases Fl <;> rfl, List.isEmpty_iff, key]
  exact ⟨rise_srt, srt_rise⟩

theorem alone_apart {n : Nat} (h : 1 ≤ n) (lv : Nat) (σ : Sto) : callN PP n lv "_law_alone" [.exc "NotApart", .bool false] σ = .ok (.bool true) σ := by
  obtain ⟨m, rfl, _⟩ := un h
  rw [cN, law_alone_K]
  kernel_rfl
theorem alone_rising {n : Nat} (h : 1 ≤ n) (lv : Nat) (σ : Sto) : callN PP n lv "_law_alone" [.exc "NotRising", .bool false] σ = .ok (.bool true) σ := by
  obtain ⟨m, rfl, _⟩ := un h
  rw [cN, law_alone_K]
  kernel_rfl
theorem isi_ar (cf : Calls) (lv : Nat) (σ : Sto) : callA PP cf lv "isinstance" [.exc "NotApart", .typ "NotRising"] σ = .ok (.bool false) σ := by kernel_rfl
theorem isi_ra (cf : Calls) (lv : Nat) (σ : Sto) : callA PP cf lv "isinstance" [.exc "NotRising", .typ "NotApart"] σ = .ok (.bool false) σ := by kernel_rfl
@[simp] theorem pkS_exc {α : Type} (l : Loc) (c : Str) (σ : Sto) (f : α → Sto → OutS) : @qk _ _ (ktS.e l) (.exc c σ) (.mk f) = .exc c l σ := rfl
theorem tryR_exc (f : Str) (i : Nat) (cf : Calls) (lv : Nat) (c : Str) (l : Loc) (σ : Sto) : tryR f i cf lv (.exc c l σ) = tryH f i cf lv c l σ := rfl
theorem tryR_next (f : Str) (i : Nat) (cf : Calls) (lv : Nat) (l : Loc) (σ : Sto) : tryR f i cf lv (.ok .next l σ) = restK f (i + 1) cf lv l σ := rfl

theorem refused_apart (one other : Tr) (g1 : Good one) (g2 : Good other) (z1 : size one ≤ 1000) (z2 : size other ≤ 1000) (ha : ¬ Apart (io one) (io other)) {n lv : Nat} (hn : 10 ≤ n) (hl : lv ≤ 1) (σ : Sto) :
    callN PP n lv "_law_refused_by_any" [.none, enc one, enc other] σ = .ok (.bool true) σ := by
  obtain ⟨m, rfl, hm⟩ := un (show 9 + 1 ≤ n by first | exact hn | omega)
  rw [cN, law_refused_by_any_S, law_refused_by_any_S0, law_refused_by_any_B0]
  have := laid_exc one other g1 g2 z1 z2 ha (n := m) (lv := lv) (by first | exact fu hm | omega) hl σ
  simp only [cmp_is, isNone_none, pkE_ok, tr_bool, pkS_ok, cond_true, bq_true, this, pkS_exc, tryR_exc]
  rw [law_refused_by_any_H0_NotApart]
  simp only [cmp_is, isNone_none, pkB_ok, tr_bool, cond_true, bq_true, isi_ar, alone_apart (show 1 ≤ m by omega)]
theorem refused_rising (L : List (Int × AV)) (hz : L.length ≤ 1000) (hs : ¬ Srt L) {n lv q : Nat} {σ : Sto} (hq : σ[q]? = some (.list (L.map encP))) (hn : 10 ≤ n) (hl : lv ≤ 1) :
    callN PP n lv "_law_refused_by_any" [.ref q, .none, .none] σ = .ok (.bool true) σ := by
  obtain ⟨m, rfl, hm⟩ := un (show 9 + 1 ≤ n by first | exact hn | omega)
  rw [cN, law_refused_by_any_S, law_refused_by_any_S0, law_refused_by_any_B0]
  have := raised_exc L hz hs (n := m) (lv := lv) hq hl (by first | exact fu hm | omega)
  have hnn : isNone (.ref q) = false := rfl
  simp only [cmp_is, hnn, pkE_ok, tr_bool, pkS_ok, cond_false, bq_false, this, pkS_exc, tryR_exc]
  rw [law_refused_by_any_H0_NotRising]
  simp only [cmp_isnot, hnn, Bool.not_false, pkB_ok, tr_bool, cond_true, bq_true, isi_ra, alone_rising (show 1 ≤ m by omega)]
end Mine.L

/- L10 -/
set_option tactic.hygienic false
/-! Mine: the law's laid. -/
namespace Mine.L
open PySem Tr
set_option linter.unusedVariables false
set_option maxRecDepth 100000
set_option linter.unusedSimpArgs false
set_option exponentiation.threshold 1100

theorem list_call {σ : Sto} {q : Nat} {xs : List AV} (cf : Calls) (lv : Nat) (h : σ[q]? = some (.list xs)) (hz : xs.length ≤ bigN) : callA PP cf lv "list" [.ref q] σ = .ok (.ref σ.length) (σ ++ [.list xs]) := by
  have : callA PP cf lv "list" [.ref q] σ = (match listOf? σ (.ref q) with | some xs => newL xs σ | Option.none => .bad) := by kernel_rfl
  rw [this]; simp [listOf?, h, newL_ok' hz]
theorem not_lst {σ : Sto} {q : Nat} {xs : List AV} (h : σ[q]? = some (.list xs)) : unop .Not (.ref q) σ = .ok (.bool xs.isEmpty) σ := by
  simp [unop, truth, listOf?, h]
theorem item_last {σ : Sto} {q : Nat} {L : List (Int × AV)} {x : Int × AV} (h : σ[q]? = some (.list (L.map encP))) (hl : L.getLast? = some x) : item (.ref q) (.int (-1)) σ = .ok (encP x) σ := by
  have hp : 0 < L.length := by
    cases L with
    | nil => simp at hl
    | cons _ _ => simp
  rw [List.getLast?_eq_getElem?] at hl
  have e : (-1 + ((L.map encP).length : Int)).toNat = L.length - 1 := by simp only [List.length_map]; omega
  have h1 : decide ((0 : Int) ≤ -1) = false := by decide
  have h2 : decide ((0 : Int) ≤ -1 + ((L.map encP).length : Int)) = true := by simp only [List.length_map, decide_eq_true_eq]; omega
  simp only [item, h, at?, h1, h2, cond_true, bq_true, cond_false, bq_false, e]
  simp [hl, optA]

theorem law_laid_ok (L₁ L₂ D : List (Int × AV)) (s1 : Srt L₁) (s2 : Srt L₂) (z1 : L₁.length ≤ 400) (z2 : L₂.length ≤ 400) (hp : AllPlain D) (hD : Apart L₁ L₂ → D = L₁ ++ L₂) {a b c n : Nat} {σ : Sto} (ha : σ[a]? = some (.list (L₁.map encP))) (hb : σ[b]? = some (.list (L₂.map encP))) (hc : σ[c]? = some (.list (D.map encP))) (hn : 70 ≤ n) :
    ∃ σ', callN PP n 0 "_law_laid" [.ref a, .ref b, .ref c] σ = .ok (.bool true) σ' := by
  obtain ⟨m, rfl, hm⟩ := un (show 69 + 1 ≤ n by first | exact hn | omega)
  obtain ⟨t₁, c1, i1, g1, r1⟩ := raised_ok L₁ (by first | exact fu hm | omega) s1
  obtain ⟨t₂, c2, i2, g2, r2⟩ := raised_ok L₂ (by first | exact fu hm | omega) s2
  have zt1 : size t₁ ≤ 1000 := by simp only [size, i1]; omega
  have zt2 : size t₂ ≤ 1000 := by simp only [size, i2]; omega
  rw [cN, law_laid_S, law_laid_S0, list_call _ _ ha (by simp [bigN]; omega), pkE_ok, c1 m 0 _ _ (get_new _ _) (by first | exact fu hm | omega) (by first | exact fu hm | omega), pkE_ok]
  rw [law_laid_S1, list_call _ _ (Grow.get (.app _ _) hb) (by simp [bigN]; omega), pkE_ok, c2 m 0 _ _ (get_new _ _) (by first | exact fu hm | omega) (by first | exact fu hm | omega), pkE_ok]
  generalize hσ : (σ ++ [AO.list (L₁.map encP)]) ++ [AO.list (L₂.map encP)] = σ₁
  have gr : Grow σ σ₁ := hσ ▸ (Grow.app _ _).trans (.app _ _)
  have ha := gr.get ha
  have hb := gr.get hb
  have hc := gr.get hc
  -- the word apart
  have hap : ∃ v : Bool, (v = true ↔ Apart L₁ L₂) ∧ restK "_law_laid" 2 (callN PP m) 0 [("_law_ones", .ref a), ("_law_others", .ref b), ("_law_due", .ref c), ("_law_one", enc t₁), ("_law_other", enc t₂)] σ₁ =
      restK "_law_laid" 3 (callN PP m) 0 [("_law_ones", .ref a), ("_law_others", .ref b), ("_law_due", .ref c), ("_law_one", enc t₁), ("_law_other", enc t₂), ("_law_apart", .bool v)] σ₁ := by
    rw [law_laid_S2, not_lst ha]
    simp only [pkE_ok, tr_bool]
    cases e1 : (L₁.map encP).isEmpty with
    | true =>
      refine ⟨true, ?_, rfl⟩
      have : L₁ = [] := by simpa using e1
      subst this
      exact ⟨fun _ x hx => by simp at hx, fun _ => rfl⟩
    | false =>
      rw [not_lst hb]
      simp only [cond_false, bq_false, pkE_ok, tr_bool]
      cases e2 : (L₂.map encP).isEmpty with
      | true =>
        refine ⟨true, ?_, rfl⟩
        have : L₂ = [] := by simpa using e2
        subst this
        exact ⟨fun _ x _ y hy => by simp at hy, fun _ => rfl⟩
      | false =>
        have n1 : L₁ ≠ [] := fun z => by subst z; simp at e1
        have n2 : L₂ ≠ [] := fun z => by subst z; simp at e2
        obtain ⟨x, hx⟩ : ∃ x, L₁.getLast? = some x := ⟨_, List.getLast?_eq_some_getLast n1⟩
        obtain ⟨y, r, rfl⟩ : ∃ y r, L₂ = y :: r := by
          cases L₂ with
          | nil => exact absurd rfl n2
          | cons y r => exact ⟨y, r, rfl⟩
        have hi := item_L (L := y :: r) 0 hb (by simp)
        simp only [Int.cast_ofNat_Int, List.getElem_cons_zero] at hi
        refine ⟨decide (x.1 < y.1), ?_, ?_⟩
        · simp only [decide_eq_true_eq, Apart, hx, List.head?_cons, Option.mem_some_iff]
          exact ⟨fun h a ha b hb => by subst ha; subst hb; exact h, fun h => h x rfl y rfl⟩
        · simp only [cond_false, bq_false, neg_int, pkE_ok, item_last ha hx, it_encP0, hi, cmp_lt]
  obtain ⟨v, hv, e2⟩ := hap
  rw [e2, law_laid_S3, law_laid_B3]
  by_cases hA : Apart L₁ L₂
  · have hv' : v = true := hv.mpr hA
    subst hv'
    obtain ⟨t, c3, i3, g3, r3⟩ := laid_ok t₁ t₂ g1 g2 (by rw [i1]; exact s1) zt1 zt2 (by rw [i1, i2]; exact hA)
    rw [c3 m 0 σ₁ (by first | exact fu hm | omega), pkS_ok, tryR_next, law_laid_S4]
    have hDe := hD hA
    obtain ⟨σ', g', e'⟩ := sound_ok t D g3 r3 (by rw [i3, i1, i2, hDe]) (by rw [hDe, List.length_append]; omega) hp (n := m) (lv := 0) hc (by first | exact fu hm | omega) (by first | exact fu hm | omega)
    refine ⟨σ', ?_⟩
    simp only [tr_bool, pkE_ok, cond_true, bq_true, e']
  · have hv' : v = false := by
      cases v with
      | false => rfl
      | true => exact absurd (hv.mp rfl) hA
    subst hv'
    have hA' : ¬ Apart (io t₁) (io t₂) := by rw [i1, i2]; exact hA
    rw [laid_exc t₁ t₂ g1 g2 zt1 zt2 hA' (by first | exact fu hm | omega) (by first | exact fu hm | omega), pkS_exc, tryR_exc, law_laid_H3_NotApart]
    refine ⟨σ₁, ?_⟩
    simp only [not_bool, Bool.not_false, pkB_ok, tr_bool, cond_true, bq_true, refused_apart t₁ t₂ g1 g2 zt1 zt2 hA' (show 10 ≤ m by omega) (show 0 + 1 ≤ 1 by omega)]
end Mine.L

/- L11 -/
set_option tactic.hygienic false
/-! Mine: what the law builds: texts and things. -/
namespace Mine.L
open PySem Tr
set_option linter.unusedVariables false
set_option maxRecDepth 100000
set_option linter.unusedSimpArgs false
set_option exponentiation.threshold 1100

noncomputable def scr (ns : List Int) : AV := .frozen (ns.map .int)
theorem cell_at_ok (ns : List Int) (k : Nat) {n : Nat} (hn : 1 ≤ n) (lv : Nat) (σ : Sto) : callN PP n lv "_law_cell_at" [scr ns, .int k] σ = .ok (.int (ns.getD k 0)) σ := by
  obtain ⟨m, rfl, _⟩ := un hn
  rw [cN, law_cell_at_K]
  simp only [scr, len_frozen, List.length_map, pkE_ok, cmp_lt, tr_bool]
  by_cases h : k < ns.length
  · have h' : (k : Int) < (ns.length : Int) := by omega
    have : item (scr ns) (.int (k : Int)) σ = .ok (.int (ns.getD k 0)) σ := by
      simp [scr, item, optA, h]
    simp [decide_eq_true h', this, h]
  · have h' : ¬ (k : Int) < (ns.length : Int) := by omega
    simp [decide_eq_false h', h]

theorem strOk_iff (x : Str) : PyData.strOk x = true ↔ ∀ c ∈ x.cps, c < 0x110000 := by
  unfold PyData.strOk
  rw [Array.all_eq_true_iff_forall_mem]
  simp
theorem strOk_slice {x : Str} (h : PyData.strOk x = true) (l u : Option Int) : PyData.strOk (Txt.slice x l u) = true := by
  rw [strOk_iff] at h ⊢
  unfold Txt.slice
  split
  · exact h
  · intro c hc
    rw [List.mem_toArray, List.mem_filterMap] at hc
    obtain ⟨i, _, hi⟩ := hc
    exact h c (Array.mem_of_getElem? hi)
theorem strOk_app {x y : Str} (h : PyData.strOk x = true) (h' : PyData.strOk y = true) : PyData.strOk (x ++ y) = true := by
  rw [strOk_iff] at h h' ⊢
  intro c hc
  have hc' : c ∈ x.cps ++ y.cps := hc
  rcases Array.mem_append.mp hc' with z | z
  · exact h c z
  · exact h' c z
theorem len_app (x y : Str) : (x ++ y).length = x.length + y.length := by
  show (x.cps ++ y.cps).size = _
  rw [Array.size_append]; rfl
theorem mul3 (x : Str) : PyData.strOk x = true → PyData.strOk (Txt.mul x 3) = true ∧ (Txt.mul x 3).length ≤ 3 * x.length := by
  intro h
  unfold Txt.mul
  rw [if_neg (by decide)]
  split
  · exact ⟨h, by omega⟩
  · have e : (List.replicate (3 : Int).toNat x.cps).foldl (· ++ ·) #[] = x.cps ++ x.cps ++ x.cps := by
      show #[] ++ x.cps ++ x.cps ++ x.cps = _
      simp
    rw [e]
    constructor
    · rw [strOk_iff] at h ⊢
      intro c hc
      have hc' : c ∈ x.cps ++ x.cps ++ x.cps := hc
      simp only [Array.mem_append, or_self] at hc'
      exact h c hc'
    · show (x.cps ++ x.cps ++ x.cps).size ≤ 3 * x.cps.size
      simp only [Array.size_append]; omega
theorem add_str {x y : Str} {σ : Sto} (h : x.length + y.length ≤ bigN) : binop .Add (.str x) (.str y) σ = .ok (.str (x ++ y)) σ := by
  show (bif Nat.ble (x.length + y.length) bigN then _ else _) = _
  rw [Nat.ble_eq_true_of_le h]; rfl
theorem mul_str {x : Str} {σ : Sto} (h : x.length ≤ bigN) : binop .Mult (.str x) (.int 3) σ = .ok (.str (Txt.mul x 3)) σ := by
  show (bif decide ((3 : Int) = 3) && Nat.ble x.length bigN then _ else _) = _
  rw [Nat.ble_eq_true_of_le h]; rfl
theorem slice_str {x : Str} {σ : Sto} {a b : Option Int} (h : x.length ≤ bigN) : item (.str x) (.sl a b) σ = .ok (.str (Txt.slice x a b)) σ := by
  simp only [item, slice, Nat.ble_eq_true_of_le h, cond_true, bq_true]
@[simp] theorem slA_ii (a b : Int) (σ : Sto) : slA (.int a) (.int b) σ = .ok (.sl (some a) (some b)) σ := rfl
@[simp] theorem slA_in (a : Int) (σ : Sto) : slA (.int a) .none σ = .ok (.sl (some a) Option.none) σ := rfl
@[simp] theorem slA_ni (b : Int) (σ : Sto) : slA .none (.int b) σ = .ok (.sl Option.none (some b)) σ := rfl

noncomputable def signs1 : Str := " !\"#$&'()*+,-./0123456789:;<=>?@ABCDEFGHIJKLMNOPQRSTUVWXYZ[\\]^_`"
noncomputable def signs2 : Str := "abcdefghijklmnopqrstuvwxyz{|}~\n\t"
theorem signs1_len : signs1.length ≤ 100 := by decide +kernel
theorem signs2_len : signs2.length ≤ 100 := by decide +kernel
theorem signs1_ok : PyData.strOk signs1 = true := by decide +kernel
theorem signs2_ok : PyData.strOk signs2 = true := by decide +kernel

theorem text_ok (c z : Int) : ∃ s, PyData.strOk s = true ∧ ∀ n lv σ, 1 ≤ n → callN PP n lv "_law_text" [.int c, .int z] σ = .ok (.str s) σ := by
  have l1 := signs1_len
  have l2 := signs2_len
  have hB : (signs1 ++ signs2 ++ (signs1 ++ signs2)).length ≤ 400 := by simp only [len_app]; omega
  have oB : PyData.strOk (signs1 ++ signs2 ++ (signs1 ++ signs2)) = true := strOk_app (strOk_app signs1_ok signs2_ok) (strOk_app signs1_ok signs2_ok)
  generalize hBe : signs1 ++ signs2 ++ (signs1 ++ signs2) = B at *
  generalize ht : Txt.slice B (some (c.fmod 96)) (some (c.fmod 96 + z)) = t
  have lt : t.length ≤ 400 := by rw [← ht]; exact Nat.le_trans (Txt.slice_le _ _ _) hB
  have ot : PyData.strOk t = true := by rw [← ht]; exact strOk_slice oB _ _
  have lu : (Txt.slice t (some (-1)) Option.none).length ≤ 400 := Nat.le_trans (Txt.slice_le _ _ _) lt
  have ou := strOk_slice ot (some (-1)) Option.none
  obtain ⟨om, lm⟩ := mul3 _ ou
  have lw : (Txt.slice t Option.none (some 9)).length ≤ 400 := Nat.le_trans (Txt.slice_le _ _ _) lt
  have ow := strOk_slice ot Option.none (some 9)
  have big : bigN = 1048576 := by decide
  have hK : ∀ m lv σ, callN PP (m + 1) lv "_law_text" [.int c, .int z] σ = bif decide ((c.fdiv 96).fmod 3 = 1) then .ok (.str (t ++ Txt.mul (Txt.slice t (some (-1)) Option.none) 3 ++ Txt.slice t Option.none (some 9))) σ else .ok (.str t) σ := fun m lv σ => by
    rw [cN, law_text_K]
    have a1 : binop .Add (.str signs1) (.str signs2) σ = _ := add_str (by first | exact fu hm | omega)
    have a2 : binop .Add (.str (signs1 ++ signs2)) (.str (signs1 ++ signs2)) σ = _ := add_str (by simp only [len_app]; omega)
    rw [hBe] at a2
    unfold signs1 signs2 at a1 a2
    rw [a1, pkE_ok, a2]
    cases hd : decide ((c.fdiv 96).fmod 3 = 1) <;>
    simp only [pkE_ok, hd, cond_true, cond_false, bq_true, bq_false, b_mod c 96 σ (by decide), b_add, slA_ii, slice_str (show B.length ≤ bigN by omega), ht, b_fdiv c 96 σ (by decide) (small_lit (by decide) (by decide)), b_mod _ 3 σ (by decide), cmp_eq, tr_bool, neg_int, slA_in, slice_str (show t.length ≤ bigN by omega), mul_str (show (Txt.slice t (some (-1)) Option.none).length ≤ bigN by omega), slA_ni,
      add_str (show t.length + (Txt.mul (Txt.slice t (some (-1)) Option.none) 3).length ≤ bigN by omega), add_str (show (t ++ Txt.mul (Txt.slice t (some (-1)) Option.none) 3).length + (Txt.slice t Option.none (some 9)).length ≤ bigN by rw [len_app]; omega)]
  cases hc : decide ((c.fdiv 96).fmod 3 = 1) with
  | true =>
    refine ⟨_, strOk_app (strOk_app ot om) ow, fun n lv σ hn => ?_⟩
    obtain ⟨m, rfl, _⟩ := un hn
    rw [hK, hc]; rfl
  | false =>
    refine ⟨_, ot, fun n lv σ hn => ?_⟩
    obtain ⟨m, rfl, _⟩ := un hn
    rw [hK, hc]; rfl

/-- an int of at most so many bits -/
noncomputable def Sm (c : Int) : Prop := Builtin.Int.intBits c ≤ 2 ^ 21
theorem bits_lt {x : Int} {k : Nat} (h : x.natAbs < 2 ^ k) : Builtin.Int.intBits x ≤ k := by
  unfold Builtin.Int.intBits
  split
  · omega
  · rename_i hx
    have hx' : x.natAbs ≠ 0 := by
      intro z
      have : x = 0 := by omega
      subst this; simp at hx
    have := (Nat.log2_lt hx').mpr h
    omega
theorem lt_bits (x : Int) : x.natAbs < 2 ^ Builtin.Int.intBits x := by
  unfold Builtin.Int.intBits
  split
  · rename_i hx
    have : x = 0 := by simpa using hx
    subst this; decide
  · exact Nat.lt_log2_self
theorem Sm.add {c : Int} (h : Builtin.Int.intBits c ≤ 2 ^ 20) {k : Int} (h0 : 0 ≤ k) (h1 : k ≤ 1000) : Sm (c + k) := by
  have h2 := lt_bits c
  have h3 : c.natAbs < 2 ^ (2 ^ 20) := Nat.lt_of_lt_of_le h2 (Nat.pow_le_pow_right (by decide) h)
  refine Nat.le_trans (bits_lt (k := 2 ^ 20 + 1) ?_) (show 2 ^ 20 + 1 ≤ 2 ^ 21 by decide)
  rw [Nat.pow_succ]
  have h4 : 1000 ≤ 2 ^ (2 ^ 20) := Nat.le_trans (show 1000 ≤ 2 ^ 10 by decide) (Nat.pow_le_pow_right (by decide) (by decide))
  generalize 2 ^ (2 ^ 20) = q at *
  omega
theorem b_pow {a : Int} (b : Nat) {σ : Sto} (hb : 0 < b) (h : Builtin.Int.intBits a * b ≤ 2 ^ 27) : binop .Pow (.int a) (.int (b : Int)) σ = .ok (.int (a ^ b)) σ := by
  have h1 : decide ((0 : Int) < (b : Int)) = true := decide_eq_true (by first | exact fu hm | omega)
  have h2 : decide (((Builtin.Int.intBits a : Nat) : Int) * (b : Int) ≤ 2 ^ 27) = true := decide_eq_true (by
    have : ((Builtin.Int.intBits a * b : Nat) : Int) ≤ ((2 ^ 27 : Nat) : Int) := by omega
    rw [Int.natCast_mul] at this
    simpa using this)
  show (bif decide ((0 : Int) < (b : Int)) && decide (((Builtin.Int.intBits a : Nat) : Int) * (b : Int) ≤ 2 ^ 27) then _ else _) = _
  rw [h1, h2]; rfl

noncomputable def inFor (f : Str) (i j : Nat) (cf : Calls) (lv : Nat) : Loc → Sto → OutS := match PP.fn f with
  | some (_, body, sc) => (match body[i]? with
    | some (.If _ b _ _) => (match b[j]? with
      | some (.For _ _ bb _ _) => fun l σ => exsK PP cf sc bb lv l σ ktS fun l σ => .ok .next l σ
      | _ => fun _ _ => .bad)
    | _ => fun _ _ => .bad)
  | _ => fun _ _ => .bad
noncomputable def th4 (c k z x : AV) (kl : Loc) : Loc := ("_law_cell", c) :: ("_law_kind", k) :: ("_law_size", z) :: ("_law_nested", x) :: kl
noncomputable def kl1 (v : AV) : Loc := [("_law_k", v)]

theorem law_thing_S5 (cf : Calls) (lv : Nat) (law_cell_v law_kind_v law_size_v : AV) (σ : Sto) : restK "_law_thing" 5 cf lv [("_law_cell", law_cell_v), ("_law_kind", law_kind_v), ("_law_size", law_size_v)] σ =
 (@qk _ _ (eE AV) (@qk _ _ (eE Bool) (cmpop .Eq law_kind_v (.int 3) σ) (.mk fun v1001 σ1002 =>
 @qk _ _ (eE Bool) (truthO v1001 σ1002) (.mk fun b1003 σ1004 =>
 .ok b1003 σ1004))) (.mk fun c1005 σ1006 =>
 @bq _ (c1005) (.mk (@qk _ _ (eE AV) (binop .Mod law_cell_v (.int 2) σ1006) (.mk fun v1 σ => @qk _ _ (eE AV) (cmpop .Eq v1 (.int 1) σ) (.mk fun v2 σ => @qk _ _ (eE AV) (binop .Mod law_cell_v (.int 3) σ) (.mk fun v3 σ =>
  @qk _ _ (eE AV) (binop .Mod law_size_v (.int 9) σ) (.mk fun v4 σ => @qk _ _ (eE AV) (rangeOf [v4] σ) (.mk fun s σ =>
  sk ktO (forSrc lv (fun v l σ => inFor "_law_thing" 5 1 cf lv (setL "_law_k" v l) σ) s (th4 law_cell_v law_kind_v law_size_v (.tup [v2, v3]) []) σ) fun l σ => retL "_law_nested" l σ))))))) (.mk (restK "_law_thing" 6 cf lv [("_law_cell", law_cell_v), ("_law_kind", law_kind_v), ("_law_size", law_size_v)] σ1006))) : Out AV) := by
  kernel_rfl
theorem thing_B (cf : Calls) (lv : Nat) (c k z x v : AV) (σ : Sto) : inFor "_law_thing" 5 1 cf lv (th4 c k z x (kl1 v)) σ = .ok .next (th4 c k z (.tup [x, v]) (kl1 v)) σ := by kernel_rfl

theorem thing_for (c k z : AV) : ∀ (m : Nat) (i : Int) (d : Nat) (x : AV) (kl : Loc), Plain d x → (kl = [] ∨ ∃ v, kl = kl1 v) → ∃ y, Plain (d + m) y ∧ ∀ cf lv σ, ∃ kl', forItems (fun v l σ => inFor "_law_thing" 5 1 cf lv (setL "_law_k" v l) σ) (rangeL i (i + m)) (th4 c k z x kl) σ = .ok .next (th4 c k z y kl') σ
  | 0, i, d, x, kl, hp, hk => ⟨x, hp, fun cf lv σ => ⟨kl, by rw [rangeL_nil (by first | exact fu hm | omega)]; rfl⟩⟩
  | m + 1, i, d, x, kl, hp, hk => by
    obtain ⟨y, hy, hr⟩ := thing_for c k z m (i + 1) (d + 1) (.tup [x, .int i]) (kl1 (.int i)) (.tup _ _ (by simp [bigN]) fun u hu => by
      simp only [List.mem_cons, List.not_mem_nil, or_false] at hu
      rcases hu with rfl | rfl
      · exact hp
      · exact .int _ _) (.inr ⟨_, rfl⟩)
    refine ⟨y, hy.up (by first | exact fu hm | omega), fun cf lv σ => ?_⟩
    obtain ⟨kl', e⟩ := hr cf lv σ
    refine ⟨kl', ?_⟩
    rw [rangeL_cons (by first | exact fu hm | omega), show i + ((m + 1 : Nat) : Int) = i + 1 + m by omega]
    unfold forItems
    have hset : setL "_law_k" (.int i) (th4 c k z x kl) = th4 c k z x (kl1 (.int i)) := by
      rcases hk with rfl | ⟨v, rfl⟩ <;> rfl
    simp only [hset]
    rw [thing_B]
    exact e

theorem tuple_call {σ : Sto} {q : Nat} {xs : List AV} (cf : Calls) (lv : Nat) (h : σ[q]? = some (.list xs)) (hz : xs.length ≤ bigN) : callA PP cf lv "tuple" [.ref q] σ = .ok (.tup xs) σ := by
  have : callA PP cf lv "tuple" [.ref q] σ = (match listOf? σ (.ref q) with | some xs => bif Nat.ble xs.length bigN then .ok (.tup xs) σ else .bad | Option.none => .bad) := by kernel_rfl
  rw [this]; simp [listOf?, h, Nat.ble_eq_true_of_le hz]

theorem fmod_lo (a : Int) {b : Int} (h : 0 < b) : 0 ≤ a.fmod b := Int.fmod_nonneg_of_pos a h
theorem fmod_hi (a : Int) {b : Int} (h : 0 < b) : a.fmod b < b := Int.fmod_lt_of_pos a h

noncomputable def kind7 : List AV := [.none, .str "", .bool true, .bool false, .int 0, .tup [.bool true, .tup [.int 1, .str "x"]], .tup []]
noncomputable def kind2 (c : Int) (v : AV) : Option AV := match v with
  | .int i => some (.int ((c.fdiv (i + 1)).fmod 9))
  | _ => Option.none
theorem thing_ok (c : Int) (hc : Sm c) : ∃ v, Plain 20 v ∧ ∀ n lv σ, 5 ≤ n → lv ≤ 1 → ∃ σ', Grow σ σ' ∧ callN PP n lv "_law_thing" [.int c] σ = .ok v σ' := by
  have k0 := fmod_lo c (b := 12) (by decide)
  have k1 := fmod_hi c (b := 12) (by decide)
  have z0 := fmod_lo (c.fdiv 12) (b := 90) (by decide)
  have z1 := fmod_hi (c.fdiv 12) (b := 90) (by decide)
  generalize hk : c.fmod 12 = k at *
  generalize hz : (c.fdiv 12).fmod 90 = z at *
  have start : ∀ m lv σ, callN PP (m + 1) lv "_law_thing" [.int c] σ = restK "_law_thing" 2 (callN PP m) lv [("_law_cell", .int c), ("_law_kind", .int k), ("_law_size", .int z)] σ := fun m lv σ => by
    rw [cN, law_thing_S, law_thing_S0, b_mod c 12 σ (by decide), pkE_ok, law_thing_S1, b_fdiv c 12 σ (by decide) (small_lit (by decide) (by decide)), pkE_ok, b_mod _ 90 σ (by decide), pkE_ok, hk, hz]
  obtain ⟨s, os, hs⟩ := text_ok (c.fdiv 12) z
  have d12 : ∀ σ, binop .FloorDiv (.int c) (.int 12) σ = .ok (.int (c.fdiv 12)) σ := fun σ => b_fdiv c 12 σ (by decide) (small_lit (by decide) (by decide))
  by_cases h0 : k = 0
  · refine ⟨.str s, .str _ _ os, fun n lv σ hn hl => ?_⟩
    obtain ⟨m, rfl, hm⟩ := un (show 4 + 1 ≤ n by first | exact hn | omega)
    refine ⟨σ, .refl _, ?_⟩
    rw [start, law_thing_S2]
    simp only [cmp_eq, pkE_ok, tr_bool, h0, decide_true, cond_true, bq_true, d12, hs m lv σ (by first | exact fu hm | omega)]
  have go2 : ∀ m lv σ, callN PP (m + 1) lv "_law_thing" [.int c] σ = restK "_law_thing" 3 (callN PP m) lv [("_law_cell", .int c), ("_law_kind", .int k), ("_law_size", .int z)] σ := fun m lv σ => by
    rw [start, law_thing_S2]
    simp only [cmp_eq, pkE_ok, tr_bool, decide_eq_false h0, cond_false, bq_false]
  by_cases h1 : k = 1
  · refine ⟨.int ((c ^ 5).fmod (10 ^ 59) - 10 ^ 58), .int _ _, fun n lv σ hn hl => ?_⟩
    obtain ⟨m, rfl, hm⟩ := un (show 4 + 1 ≤ n by first | exact hn | omega)
    refine ⟨σ, .refl _, ?_⟩
    have p1 : binop .Pow (.int c) (.int 5) σ = _ := b_pow 5 (by decide) (by have : Builtin.Int.intBits c ≤ 2 ^ 21 := hc; omega)
    have p2 : binop .Pow (.int 10) (.int 59) σ = _ := b_pow 59 (by decide) (by decide +kernel)
    have p3 : binop .Pow (.int 10) (.int 58) σ = _ := b_pow 58 (by decide) (by decide +kernel)
    rw [go2, law_thing_S3]
    simp only [cmp_eq, pkE_ok, tr_bool, h1, decide_true, cond_true, bq_true, p1, p2, p3, b_mod (c ^ 5) (10 ^ 59) σ (Int.pow_pos (by decide)), b_sub]
  have go3 : ∀ m lv σ, callN PP (m + 1) lv "_law_thing" [.int c] σ = restK "_law_thing" 4 (callN PP m) lv [("_law_cell", .int c), ("_law_kind", .int k), ("_law_size", .int z)] σ := fun m lv σ => by
    rw [go2, law_thing_S3]
    simp only [cmp_eq, pkE_ok, tr_bool, decide_eq_false h1, cond_false, bq_false]
  by_cases h2 : k = 2
  · have r0 := fmod_lo z (b := 30) (by decide)
    have r1 := fmod_hi z (b := 30) (by decide)
    refine ⟨.tup ((rangeL 0 (z.fmod 30)).filterMap (kind2 c)), ?_, fun n lv σ hn hl => ?_⟩
    · refine .tup 19 _ ?_ fun x hx => ?_
      · refine Nat.le_trans (List.length_filterMap_le _ _) ?_
        rw [rangeL_len]; simp [bigN]; omega
      · obtain ⟨v, hv, e⟩ := List.mem_filterMap.mp hx
        obtain ⟨i, rfl, _⟩ := mem_rangeL hv
        simp only [kind2, Option.some.injEq] at e
        subst e; exact .int _ _
    · obtain ⟨m, rfl, hm⟩ := un (show 4 + 1 ≤ n by first | exact hn | omega)
      obtain ⟨σ₁, g₁, e₁⟩ := cp_grow (f := kind2 c) (elt := fun x1011 σ1012 =>
        (@qk _ _ (eE (Option AV)) (binop .Add x1011 (.int 1) σ1012) (.mk fun v1113 σ1114 =>
        @qk _ _ (eE (Option AV)) (binop .FloorDiv (.int c) v1113 σ1114) (.mk fun v1115 σ1116 =>
        @qk _ _ (eE (Option AV)) (binop .Mod v1115 (.int 9) σ1116) (.mk fun v1117 σ1118 =>
        .ok (some v1117) σ1118))))) (rangeL 0 (z.fmod 30)) [] σ (fun v hv σ' g => by
          obtain ⟨i, rfl, i0, i1⟩ := mem_rangeL hv
          exact ⟨σ', .refl _, by simp only [cond_true, bq_true, b_add, pkE_ok, b_fdiv c (i + 1) σ' (by first | exact fu hm | omega) (small_lit (by first | exact fu hm | omega) (by first | exact fu hm | omega)), b_mod _ 9 σ' (by decide), kind2]⟩) (by rw [rangeL_len]; simp [bigN]; omega)
      have hlen : ((rangeL 0 (z.fmod 30)).filterMap (kind2 c)).length ≤ bigN := by
        refine Nat.le_trans (List.length_filterMap_le _ _) ?_
        rw [rangeL_len]; simp [bigN]; omega
      refine ⟨σ₁ ++ [.list ((rangeL 0 (z.fmod 30)).filterMap (kind2 c))], g₁.trans (.app _ _), ?_⟩
      rw [go3, law_thing_S4]
      simp only [cmp_eq, pkE_ok, tr_bool, h2, decide_true, cond_true, bq_true, b_mod z 30 σ (by decide), range_of1 (show -(2 ^ 40) ≤ z.fmod 30 by omega) (show z.fmod 30 ≤ 2 ^ 40 by omega), cpSrc_items hl]
      rw [e₁]
      simp only [pkE_ok, List.nil_append]
      rw [newL_ok' hlen, pkE_ok, tuple_call _ _ (get_new _ _) hlen, pkE_ok]
  have go4 : ∀ m lv σ, callN PP (m + 1) lv "_law_thing" [.int c] σ = restK "_law_thing" 5 (callN PP m) lv [("_law_cell", .int c), ("_law_kind", .int k), ("_law_size", .int z)] σ := fun m lv σ => by
    rw [go3, law_thing_S4]
    simp only [cmp_eq, pkE_ok, tr_bool, decide_eq_false h2, cond_false, bq_false]
  by_cases h3 : k = 3
  · have r0 := fmod_lo z (b := 9) (by decide)
    have r1 := fmod_hi z (b := 9) (by decide)
    obtain ⟨y, hy, hf⟩ := thing_for (.int c) (.int k) (.int z) (z.fmod 9).toNat 0 1 (.tup [.bool (decide (c.fmod 2 = 1)), .int (c.fmod 3)]) [] (.tup _ _ (by simp [bigN]) fun u hu => by
      simp only [List.mem_cons, List.not_mem_nil, or_false] at hu
      rcases hu with rfl | rfl
      · exact .bool _ _
      · exact .int _ _) (.inl rfl)
    refine ⟨y, hy.up (by first | exact fu hm | omega), fun n lv σ hn hl => ?_⟩
    obtain ⟨m, rfl, hm⟩ := un (show 4 + 1 ≤ n by first | exact hn | omega)
    obtain ⟨kl', e⟩ := hf (callN PP m) lv σ
    refine ⟨σ, .refl _, ?_⟩
    rw [show (0 : Int) + ((z.fmod 9).toNat : Int) = z.fmod 9 by omega] at e
    rw [go4, law_thing_S5]
    have hb : Nat.ble lv 1 = true := Nat.ble_eq_true_of_le hl
    simp only [cmp_eq, pkE_ok, tr_bool, h3, decide_true, cond_true, bq_true, b_mod c 2 σ (by decide), b_mod c 3 σ (by decide), b_mod z 9 σ (by decide), range_of1 (show -(2 ^ 40) ≤ z.fmod 9 by omega) (show z.fmod 9 ≤ 2 ^ 40 by omega), forSrc, hb]
    rw [h3] at e
    rw [e, skO_next]
    rfl
  have go5 : ∀ m lv σ, callN PP (m + 1) lv "_law_thing" [.int c] σ = restK "_law_thing" 6 (callN PP m) lv [("_law_cell", .int c), ("_law_kind", .int k), ("_law_size", .int z)] σ := fun m lv σ => by
    rw [go4, law_thing_S5]
    simp only [cmp_eq, pkE_ok, tr_bool, decide_eq_false h3, cond_false, bq_false]
  by_cases h4 : k = 4
  · refine ⟨.tup [.none, .str s, .int (-z), .tup [.str "", .tup [.none]]], ?_, fun n lv σ hn hl => ?_⟩
    · refine .tup 19 _ (by simp [bigN]) fun u hu => ?_
      simp only [List.mem_cons, List.not_mem_nil, or_false] at hu
      rcases hu with rfl | rfl | rfl | rfl
      · exact .none _
      · exact .str _ _ os
      · exact .int _ _
      · refine .tup 18 _ (by simp [bigN]) fun u hu => ?_
        simp only [List.mem_cons, List.not_mem_nil, or_false] at hu
        rcases hu with rfl | rfl
        · exact .str _ _ (by decide +kernel)
        · refine .tup 17 _ (by simp [bigN]) fun u hu => ?_
          simp only [List.mem_cons, List.not_mem_nil, or_false] at hu
          subst hu; exact .none _
    · obtain ⟨m, rfl, hm⟩ := un (show 4 + 1 ≤ n by first | exact hn | omega)
      refine ⟨σ, .refl _, ?_⟩
      rw [go5, law_thing_S6]
      simp only [cmp_eq, pkE_ok, tr_bool, h4, decide_true, cond_true, bq_true, d12, hs m lv σ (by first | exact fu hm | omega), neg_int]
  have go6 : ∀ m lv σ, callN PP (m + 1) lv "_law_thing" [.int c] σ = restK "_law_thing" 7 (callN PP m) lv [("_law_cell", .int c), ("_law_kind", .int k), ("_law_size", .int z)] σ := fun m lv σ => by
    rw [go5, law_thing_S6]
    simp only [cmp_eq, pkE_ok, tr_bool, decide_eq_false h4, cond_false, bq_false]
  have hpl : ∀ v ∈ kind7, Plain 20 v := fun v hv => by
    simp only [kind7, List.mem_cons, List.not_mem_nil, or_false] at hv
    rcases hv with rfl | rfl | rfl | rfl | rfl | rfl | rfl
    · exact .none _
    · exact .str _ _ (by decide +kernel)
    · exact .bool _ _
    · exact .bool _ _
    · exact .int _ _
    · refine .tup 19 _ (by simp [bigN]) fun u hu => ?_
      simp only [List.mem_cons, List.not_mem_nil, or_false] at hu
      rcases hu with rfl | rfl
      · exact .bool _ _
      · refine .tup 18 _ (by simp [bigN]) fun u hu => ?_
        simp only [List.mem_cons, List.not_mem_nil, or_false] at hu
        rcases hu with rfl | rfl
        · exact .int _ _
        · exact .str _ _ (by decide +kernel)
    · exact .tup 19 _ (by simp [bigN]) fun u hu => by simp at hu
  have hlt : (k - 5).toNat < kind7.length := by simp [kind7]; omega
  refine ⟨_, hpl _ (List.getElem_mem hlt), fun n lv σ hn hl => ?_⟩
  obtain ⟨m, rfl, hm⟩ := un (show 4 + 1 ≤ n by first | exact hn | omega)
  refine ⟨σ ++ [.list kind7], .app _ _, ?_⟩
  have h7 : restK "_law_thing" 7 (callN PP m) lv [("_law_cell", .int c), ("_law_kind", .int k), ("_law_size", .int z)] σ = @qk _ _ (eE AV) (newL kind7 σ) (.mk fun v1 σ2 => @qk _ _ (eE AV) (binop .Sub (.int k) (.int 5) σ2) (.mk fun v3 σ4 => @qk _ _ (eE AV) (item v1 v3 σ4) (.mk fun v5 σ6 => .ok v5 σ6))) := law_thing_S7 ..
  rw [go6, h7, newL_ok' (by simp [bigN, kind7]), pkE_ok, b_sub, pkE_ok, item_lst (get_new _ _) (by first | exact fu hm | omega) (List.getElem?_eq_getElem hlt), pkE_ok]
end Mine.L

/- L12 -/
set_option tactic.hygienic false
/-! Mine: what the law builds: rows. -/
namespace Mine.L
open PySem Tr
set_option linter.unusedVariables false
set_option maxRecDepth 100000
set_option linter.unusedSimpArgs false
set_option exponentiation.threshold 1100

open Classical in
noncomputable def thingV (c : Int) : AV := if h : Sm c then Classical.choose (thing_ok c h) else .none
theorem thingV_ok (c : Int) (h : Sm c) : Plain 20 (thingV c) ∧ ∀ n lv σ, 5 ≤ n → lv ≤ 1 → ∃ σ', Grow σ σ' ∧ callN PP n lv "_law_thing" [.int c] σ = .ok (thingV c) σ' := by
  unfold thingV
  rw [dif_pos h]
  exact Classical.choose_spec (thing_ok c h)

theorem pick {is : List Int} {σ : Sto} {k : Int} (h0 : 0 ≤ k) (h1 : k < is.length) : ∃ x ∈ is, item (.ref σ.length) (.int k) (σ ++ [.list (is.map .int)]) = .ok (.int x) (σ ++ [.list (is.map .int)]) := by
  have hlt : k.toNat < is.length := by omega
  exact ⟨is[k.toNat], List.getElem_mem _, item_lst (get_new _ _) h0 (by simp [hlt])⟩
noncomputable def riseF (c st ba mo : Int) (v : AV) : Option AV := match v with
  | .int k => some (encP (ba + st * k + (k * k * mo).fdiv 7, thingV (c + k)))
  | _ => Option.none

noncomputable def riseP (c st ba mo : Int) (i : Nat) : Int × AV := (ba + st * (i : Int) + ((i : Int) * (i : Int) * mo).fdiv 7, thingV (c + (i : Int)))

theorem rising_ok (c : Int) (hc : Builtin.Int.intBits c ≤ 2 ^ 20) (N : Nat) (hN : N ≤ 250) : ∃ L : List (Int × AV), L.length = N ∧ AllPlain L ∧
    ∀ n lv σ, 6 ≤ n → lv ≤ 1 → ∃ σ', Grow σ σ' ∧ callN PP n lv "_law_rising" [.int c, .int N] σ = .ok (.ref σ'.length) (σ' ++ [.list (L.map encP)]) := by
  have sl := fun (x : Int) (h1 : -1000000 ≤ x) (h2 : x ≤ 1000000) => small_lit h1 h2
  have m90a := fmod_lo (c.fdiv 7) (b := 90) (by decide)
  have m90b := fmod_hi (c.fdiv 7) (b := 90) (by decide)
  have m56a := fmod_lo (c.fdiv 7) (b := 10 ^ 56) (by decide)
  have m56b := fmod_hi (c.fdiv 7) (b := 10 ^ 56) (by decide)
  have m9a := fmod_lo (c.fdiv 11) (b := 9) (by decide)
  have m9b := fmod_hi (c.fdiv 11) (b := 9) (by decide)
  have k4a := fmod_lo c (b := 4) (by decide)
  have k4b := fmod_hi c (b := 4) (by decide)
  have k5a := fmod_lo (c.fdiv 5) (b := 4) (by decide)
  have k5b := fmod_hi (c.fdiv 5) (b := 4) (by decide)
  -- the step and the base do not hang on the store
  have hst : ∃ st ∈ [1, 2, 1 + (c.fdiv 7).fmod 90, 1 + (c.fdiv 7).fmod (10 ^ 56)], ∀ σ : Sto, item (.ref σ.length) (.int (c.fmod 4)) (σ ++ [.list [.int 1, .int 2, .int (1 + (c.fdiv 7).fmod 90), .int (1 + (c.fdiv 7).fmod (10 ^ 56))]]) = .ok (.int st) (σ ++ [.list [.int 1, .int 2, .int (1 + (c.fdiv 7).fmod 90), .int (1 + (c.fdiv 7).fmod (10 ^ 56))]]) := by
    have hlt : (c.fmod 4).toNat < [1, 2, 1 + (c.fdiv 7).fmod 90, 1 + (c.fdiv 7).fmod (10 ^ 56)].length := by simp; omega
    refine ⟨_, List.getElem_mem hlt, fun σ => ?_⟩
    have := item_lst (k := c.fmod 4) (v := .int [1, 2, 1 + (c.fdiv 7).fmod 90, 1 + (c.fdiv 7).fmod (10 ^ 56)][(c.fmod 4).toNat]) (get_new σ (.list ([1, 2, 1 + (c.fdiv 7).fmod 90, 1 + (c.fdiv 7).fmod (10 ^ 56)].map .int))) k4a (by rw [List.getElem?_map, List.getElem?_eq_getElem hlt]; rfl)
    exact this
  obtain ⟨st, hstm, hst⟩ := hst
  have hst1 : small st = true := by
    simp only [List.mem_cons, List.not_mem_nil, or_false] at hstm
    have hb : (1 : Int) + 10 ^ 56 ≤ 2 ^ 999 := by decide +kernel
    have hb' : (0 : Int) ≤ 2 ^ 999 := by decide +kernel
    generalize hg : (2 : Int) ^ 999 = G at hb hb'
    have : -G ≤ st ∧ st ≤ G := by omega
    exact small_of (by rw [hg]; exact this.1) (by rw [hg]; exact this.2)
  have hba : ∃ ba, ∀ σ : Sto, item (.ref σ.length) (.int ((c.fdiv 5).fmod 4)) (σ ++ [.list [.int ((c.fdiv 4).fmod 41 - 20), .int (-7), .int ((c.fdiv 4).fmod (10 ^ 59) - 5 * 10 ^ 58), .int (-(10 ^ 59))]]) = .ok (.int ba) (σ ++ [.list [.int ((c.fdiv 4).fmod 41 - 20), .int (-7), .int ((c.fdiv 4).fmod (10 ^ 59) - 5 * 10 ^ 58), .int (-(10 ^ 59))]]) := by
    have hlt : ((c.fdiv 5).fmod 4).toNat < [(c.fdiv 4).fmod 41 - 20, -7, (c.fdiv 4).fmod (10 ^ 59) - 5 * 10 ^ 58, -(10 ^ 59)].length := by simp; omega
    refine ⟨[(c.fdiv 4).fmod 41 - 20, -7, (c.fdiv 4).fmod (10 ^ 59) - 5 * 10 ^ 58, -(10 ^ 59)][((c.fdiv 5).fmod 4).toNat], fun σ => ?_⟩
    exact item_lst (k := (c.fdiv 5).fmod 4) (v := .int [(c.fdiv 4).fmod 41 - 20, -7, (c.fdiv 4).fmod (10 ^ 59) - 5 * 10 ^ 58, -(10 ^ 59)][((c.fdiv 5).fmod 4).toNat]) (get_new σ (.list ([(c.fdiv 4).fmod 41 - 20, -7, (c.fdiv 4).fmod (10 ^ 59) - 5 * 10 ^ 58, -(10 ^ 59)].map .int))) k5a (by rw [List.getElem?_map, List.getElem?_eq_getElem hlt]; rfl)
  obtain ⟨ba, hba⟩ := hba
  generalize hmo : (c.fdiv 11).fmod 9 = mo at *
  refine ⟨(List.range N).map (riseP c st ba mo), by simp, fun x hx => ?_, fun n lv σ hn hl => ?_⟩
  · obtain ⟨i, hi, rfl⟩ := List.mem_map.mp hx
    rw [List.mem_range] at hi
    exact (thingV_ok _ (Sm.add hc (by first | exact fu hm | omega) (by first | exact fu hm | omega))).1
  · obtain ⟨m, rfl, hm⟩ := un (show 5 + 1 ≤ n by first | exact hn | omega)
    have d7 : ∀ σ, binop .FloorDiv (.int c) (.int 7) σ = _ := fun σ => b_fdiv c 7 σ (by decide) (sl _ (by decide) (by decide))
    have d4 : ∀ σ, binop .FloorDiv (.int c) (.int 4) σ = _ := fun σ => b_fdiv c 4 σ (by decide) (sl _ (by decide) (by decide))
    have d5 : ∀ σ, binop .FloorDiv (.int c) (.int 5) σ = _ := fun σ => b_fdiv c 5 σ (by decide) (sl _ (by decide) (by decide))
    have d11 : ∀ σ, binop .FloorDiv (.int c) (.int 11) σ = _ := fun σ => b_fdiv c 11 σ (by decide) (sl _ (by decide) (by decide))
    have p56 : ∀ σ, binop .Pow (.int 10) (.int 56) σ = _ := fun σ => b_pow 56 (by decide) (by decide +kernel)
    have p58 : ∀ σ, binop .Pow (.int 10) (.int 58) σ = _ := fun σ => b_pow 58 (by decide) (by decide +kernel)
    have p59 : ∀ σ, binop .Pow (.int 10) (.int 59) σ = _ := fun σ => b_pow 59 (by decide) (by decide +kernel)
    have m5 : ∀ σ, binop .Mult (.int 5) (.int (10 ^ 58)) σ = _ := fun σ => b_mul 5 (10 ^ 58) σ (sl _ (by decide) (by decide)) (by decide +kernel)
    have q90 : ∀ x σ, binop .Mod (.int x) (.int 90) σ = _ := fun x σ => b_mod x 90 σ (by decide)
    have q56 : ∀ x σ, binop .Mod (.int x) (.int (10 ^ 56)) σ = _ := fun x σ => b_mod x (10 ^ 56) σ (by decide)
    have q59 : ∀ x σ, binop .Mod (.int x) (.int (10 ^ 59)) σ = _ := fun x σ => b_mod x (10 ^ 59) σ (by decide)
    have q4 : ∀ x σ, binop .Mod (.int x) (.int 4) σ = _ := fun x σ => b_mod x 4 σ (by decide)
    have q41 : ∀ x σ, binop .Mod (.int x) (.int 41) σ = _ := fun x σ => b_mod x 41 σ (by decide)
    have q9 : ∀ x σ, binop .Mod (.int x) (.int 9) σ = _ := fun x σ => b_mod x 9 σ (by decide)
    have n4 : ∀ (a b c d : AV) (σ : Sto), newL [a, b, c, d] σ = .ok (.ref σ.length) (σ ++ [.list [a, b, c, d]]) := fun a b c d σ => newL_ok' (by simp [bigN]) σ
    rw [cN, law_rising_K]
    simp only [d7, d4, d5, d11, p56, p58, p59, m5, q90, q56, q59, q4, q41, q9, n4, pkE_okc, b_add, b_sub, neg_int, hst, hba, hmo, range_of1 (show -(2 ^ 40) ≤ (N : Int) by omega) (show (N : Int) ≤ 2 ^ 40 by omega), cpSrc_items hl]
    generalize hσ : σ ++ [AO.list [.int 1, .int 2, .int (1 + (c.fdiv 7).fmod 90), .int (1 + (c.fdiv 7).fmod (10 ^ 56))]] ++ [AO.list [.int ((c.fdiv 4).fmod 41 - 20), .int (-7), .int ((c.fdiv 4).fmod (10 ^ 59) - 5 * 10 ^ 58), .int (-10 ^ 59)]] = σ₀
    have g₀ : Grow σ σ₀ := hσ ▸ (Grow.app _ _).trans (.app _ _)
    obtain ⟨σ₁, g₁, e₁⟩ := cp_grow (f := riseF c st ba mo) (elt := fun x59 σ60 =>
      (@qk _ _ (eE (Option AV)) (binop .Mult (.int st) x59 σ60) (.mk fun v161 σ162 =>
      @qk _ _ (eE (Option AV)) (binop .Add (.int ba) v161 σ162) (.mk fun v163 σ164 =>
      @qk _ _ (eE (Option AV)) (binop .Mult x59 x59 σ164) (.mk fun v165 σ166 =>
      @qk _ _ (eE (Option AV)) (binop .Mult v165 (.int mo) σ166) (.mk fun v167 σ168 =>
      @qk _ _ (eE (Option AV)) (binop .FloorDiv v167 (.int 7) σ168) (.mk fun v169 σ170 =>
      @qk _ _ (eE (Option AV)) (binop .Add v163 v169 σ170) (.mk fun v171 σ172 =>
      @qk _ _ (eE (Option AV)) (binop .Add (.int c) x59 σ172) (.mk fun v173 σ174 =>
      @qk _ _ (eE (Option AV)) (callN PP m lv "_law_thing" [v173] σ174) (.mk fun v175 σ176 =>
      .ok (some (.tup [v171, v175])) σ176)))))))))) (rangeL 0 N) [] σ₀ (fun v hv σ' g => by
        obtain ⟨i, rfl, i0, i1⟩ := mem_rangeL hv
        obtain ⟨σ'', g'', e''⟩ := (thingV_ok (c + i) (Sm.add hc (by first | exact fu hm | omega) (by first | exact fu hm | omega))).2 m lv σ' (by first | exact fu hm | omega) hl
        have hii : i * i ≤ 62500 := by
          have : i * i ≤ 250 * 250 := Int.mul_le_mul (by first | exact fu hm | omega) (by first | exact fu hm | omega) (by first | exact fu hm | omega) (by first | exact fu hm | omega)
          omega
        have hii0 : 0 ≤ i * i := Int.mul_nonneg i0 i0
        refine ⟨σ'', g'', ?_⟩
        simp only [cond_true, bq_truec, b_mul st i σ' hst1 (sl i (by first | exact fu hm | omega) (by first | exact fu hm | omega)), b_mul i i σ' (sl i (by first | exact fu hm | omega) (by first | exact fu hm | omega)) (sl i (by first | exact fu hm | omega) (by first | exact fu hm | omega)), b_mul (i * i) mo σ' (sl _ (by first | exact fu hm | omega) (by first | exact fu hm | omega)) (sl _ (by first | exact fu hm | omega) (by first | exact fu hm | omega)), b_fdiv (i * i * mo) 7 σ' (by decide) (sl _ (by decide) (by decide)), pkE_okc, b_add, e'', riseF, encP]) (by rw [rangeL_len]; simp [bigN]; omega)
    rw [e₁]
    have hL : (rangeL 0 (N : Int)).filterMap (riseF c st ba mo) = ((List.range N).map (riseP c st ba mo)).map encP := by
      unfold rangeL
      rw [List.filterMap_map, List.map_map, show ((N : Int) - 0).toNat = N by omega]
      have : (riseF c st ba mo ∘ fun (i : Nat) => AV.int (0 + (i : Int))) = some ∘ (encP ∘ riseP c st ba mo) := by
        funext i
        simp only [Function.comp, riseF, riseP, Int.zero_add]
      rw [this, List.filterMap_eq_map]
    simp only [pkE_okc, List.nil_append]
    rw [hL, newL_ok' (by simp [bigN]; omega), pkE_okc]
    exact ⟨σ₁, g₀.trans g₁, rfl⟩
end Mine.L

/- L13 -/
set_option tactic.hygienic false
/-! Mine: the law's pairs. -/
namespace Mine.L
open PySem Tr
set_option linter.unusedVariables false
set_option maxRecDepth 100000
set_option linter.unusedSimpArgs false
set_option exponentiation.threshold 1100

theorem Grow.set {σ σ' : Sto} (g : Grow σ σ') {q : Nat} (h : σ.length ≤ q) (o : AO) : Grow σ (σ'.set q o) := by
  obtain ⟨g, rfl⟩ := g
  rw [List.set_append_right _ _ h]
  exact ⟨_, rfl⟩
theorem setItem_ok' {σ : Sto} {q : Nat} {xs : List AV} {k : Int} (v : AV) (h : σ[q]? = some (.list xs)) (h0 : 0 ≤ k) (h1 : k < xs.length) : setItem (.ref q) (.int k) v σ = some (σ.set q (.list (xs.set k.toNat v))) := by
  simp only [setItem, h, decide_eq_true h0, decide_eq_true h1, Bool.and_self, cond_true, bq_truec]
theorem max_call (cf : Calls) (a b : Int) (σ : Sto) : callA PP cf 0 "max" [.int a, .int b] σ = .ok (.int (bif decide (b > a) then b else a)) σ := by kernel_rfl

noncomputable def Bd (ns : List Int) : Prop := ∀ k, Builtin.Int.intBits (ns.getD k 0) ≤ 2 ^ 20

theorem pairsC_ok {L : List (Int × AV)} {q : Nat} {a key : Int} {σ : Sto} (hq : σ[q]? = some (.list (L.map encP))) (h0 : 0 ≤ a) (h1 : a.toNat < L.length) :
    pairsC (.ref q) (.int a) (.int key) σ = .ok (.ref q) (σ.set q (.list ((L.set a.toNat (key, L[a.toNat].2)).map encP))) := by
  have i1 := item_L a.toNat hq h1
  rw [show ((a.toNat : Nat) : Int) = a by omega] at i1
  unfold pairsC
  rw [i1, pkE_okc, it_encP1, pkE_okc, setItem_ok' _ hq h0 (by rw [List.length_map]; omega), List.map_set]
  rfl

/-- the key of a place -/
noncomputable def keyAt (L : List (Int × AV)) (a : Int) : Int := (L[a.toNat]?.map (·.1)).getD 0
theorem keyAt_ok {L : List (Int × AV)} {q : Nat} {a : Int} {σ : Sto} (hq : σ[q]? = some (.list (L.map encP))) (h0 : 0 ≤ a) (h1 : a < L.length) :
    ∃ x, item (.ref q) (.int a) σ = .ok x σ ∧ item x (.int 0) σ = .ok (.int (keyAt L a)) σ := by
  have h2 : a.toNat < L.length := by omega
  have i1 := item_L a.toNat hq h2
  rw [show ((a.toNat : Nat) : Int) = a by omega] at i1
  exact ⟨_, i1, by unfold keyAt; rw [List.getElem?_eq_getElem h2]; rfl⟩
theorem cond_ok (c3 et : Int) (b : Bool) (h : b = (decide (et = 1) && decide (c3.fmod 2 = 0))) (σ : Sto) :
    (@qk _ _ (eE Bool) (cmpop .Eq (.int et) (.int 1) σ) (.mk fun v σ => @qk _ _ (eE Bool) (truthO v σ) (.mk fun b σ =>
      @bq _ b (.mk (@qk _ _ (eE Bool) (binop .Mod (.int c3) (.int 2) σ) (.mk fun v σ => @qk _ _ (eE Bool) (cmpop .Eq v (.int 0) σ) (.mk fun v σ =>
      @qk _ _ (eE Bool) (truthO v σ) (.mk fun b σ => @bq _ b (.mk (.ok true σ)) (.mk (.ok false σ))))))) (.mk (.ok false σ)))) : Out Bool) = .ok b σ := by
  subst h
  cases h1 : decide (et = 1) <;> cases h2 : decide (c3.fmod 2 = 0) <;>
  simp only [cmp_eq, pkE_okc, tr_bool, h1, h2, bq_truec, bq_falsec, b_mod c3 2 σ (by decide)] <;> rfl
noncomputable def keyB (L : List (Int × AV)) (a et c3 key : Int) : Int := bif (decide (et = 1) && decide (c3.fmod 2 = 0)) then keyAt L (bif decide ((0 : Int) > a - 1) then 0 else a - 1) else key
theorem pairsB_ok {ns : List Int} {c5 et : Int} (c3 : Int) {L : List (Int × AV)} {q m : Nat} {a key : Int} {σ : Sto} (hc : ∀ σ, callN PP m 0 "_law_cell_at" [scr ns, .int 5] σ = .ok (.int c5) σ) (het : c5.fmod 4 = et)
    (hq : σ[q]? = some (.list (L.map encP))) (h0 : 0 ≤ a) (h1 : a < L.length) :
    pairsB (callN PP m) 0 (scr ns) (.ref q) (.int c3) (.int a) (.int key) σ = pairsC (.ref q) (.int a) (.int (keyB L a et c3 key)) σ := by
  unfold pairsB keyB
  rw [hc, pkE_okc, b_mod c5 4 σ (by decide), pkE_okc, het, cond_ok c3 et _ rfl, pkE_okc]
  cases (decide (et = 1) && decide (c3.fmod 2 = 0)) with
  | false => rw [bq_falsec]; rfl
  | true =>
    rw [bq_truec, b_sub, pkE_okc, max_call, pkE_okc]
    obtain ⟨x, e1, e2⟩ := keyAt_ok (a := bif decide ((0 : Int) > a - 1) then 0 else a - 1) hq (by cases h : decide ((0 : Int) > a - 1) with
      | true => exact Int.le_refl 0
      | false => have := of_decide_eq_false h; show 0 ≤ a - 1; omega) (by cases h : decide ((0 : Int) > a - 1) with
      | true => show (0 : Int) < _; omega
      | false => show a - 1 < _; omega)
    rw [e1, pkE_okc, e2, pkE_okc]
    rfl
noncomputable def keyA (L : List (Int × AV)) (N et c3 key : Int) : Int := bif decide (et > 0) then keyAt L (c3.fmod N) + ([(0 : Int), 1, -1][(et - 1).toNat]?).getD 0 else key
theorem pairsA_ok {ns : List Int} {c5 et : Int} (c3 : Int) {L : List (Int × AV)} {q m : Nat} {a key : Int} {σ : Sto} (hc : ∀ σ, callN PP m 0 "_law_cell_at" [scr ns, .int 5] σ = .ok (.int c5) σ) (het : c5.fmod 4 = et)
    (hq : σ[q]? = some (.list (L.map encP))) (hN : 0 < (L.length : Int)) :
    ∃ σ', Grow σ σ' ∧ pairsA (callN PP m) 0 (scr ns) (.int L.length) (.ref q) (.int c3) (.int a) (.int key) σ = pairsB (callN PP m) 0 (scr ns) (.ref q) (.int c3) (.int a) (.int (keyA L L.length et c3 key)) σ' := by
  have e0 := fmod_lo c5 (b := 4) (by decide)
  have e1 := fmod_hi c5 (b := 4) (by decide)
  rw [het] at e0 e1
  have q4 : ∀ σ, binop .Mod (.int c5) (.int 4) σ = .ok (.int et) σ := fun σ => het ▸ b_mod c5 4 σ (by decide)
  unfold pairsA keyA
  rw [hc, pkE_okc, q4, pkE_okc, cmp_gt, pkE_okc, tr_bool, pkE_okc, pkE_okc]
  cases hA : decide (et > 0) with
  | false => exact ⟨σ, .refl _, by rw [bq_falsec]; rfl⟩
  | true =>
    have := of_decide_eq_true hA
    have hlt : (et - 1).toNat < [(0 : Int), 1, -1].length := by simp; omega
    have n3 : ∀ σ, newL [.int 0, .int 1, .int (-1)] σ = .ok (.ref σ.length) (σ ++ [.list [.int 0, .int 1, .int (-1)]]) := fun σ => newL_ok' (by simp [bigN]) σ
    obtain ⟨x, i1, i2⟩ := keyAt_ok hq (fmod_lo c3 hN) (fmod_hi c3 hN)
    have ipk : item (.ref σ.length) (.int (et - 1)) (σ ++ [.list [.int 0, .int 1, .int (-1)]]) = .ok (.int (([(0 : Int), 1, -1][(et - 1).toNat]?).getD 0)) (σ ++ [.list [.int 0, .int 1, .int (-1)]]) := by
      rw [List.getElem?_eq_getElem hlt]
      exact item_lst (k := et - 1) (v := .int [(0 : Int), 1, -1][(et - 1).toNat]) (get_new σ (.list ([(0 : Int), 1, -1].map .int))) (by omega) (by rw [List.getElem?_map, List.getElem?_eq_getElem hlt]; rfl)
    refine ⟨σ ++ [.list [.int 0, .int 1, .int (-1)]], .app _ _, ?_⟩
    rw [bq_truec, b_mod c3 _ σ hN, pkE_okc, i1, pkE_okc, i2, pkE_okc, neg_int, pkE_okc, n3, pkE_okc, hc, pkE_okc, q4, pkE_okc, b_sub, pkE_okc, ipk, pkE_okc, b_add, pkE_okc]
    rfl

theorem pairs_ok (ns : List Int) (hB : Bd ns) (N : Nat) (hN : N ≤ 250) : ∃ L : List (Int × AV), L.length = N ∧ AllPlain L ∧
    ∀ n σ, 10 ≤ n → ∃ σ' q, Grow σ σ' ∧ σ'[q]? = some (.list (L.map encP)) ∧ callN PP n 0 "_law_pairs" [scr ns, .int N] σ = .ok (.ref q) σ' := by
  obtain ⟨L, hL, hP, hR⟩ := rising_ok (ns.getD 0 0) (hB 0) N hN
  have cl : ∀ (k : Nat) m, 1 ≤ m → ∀ σ, callN PP m 0 "_law_cell_at" [scr ns, .int k] σ = .ok (.int (ns.getD k 0)) σ := fun k m h σ => cell_at_ok ns k h 0 σ
  have c2 : ∀ m, 1 ≤ m → ∀ σ, callN PP m 0 "_law_cell_at" [scr ns, .int 2] σ = .ok (.int (ns.getD 2 0)) σ := cl 2
  have c3 : ∀ m, 1 ≤ m → ∀ σ, callN PP m 0 "_law_cell_at" [scr ns, .int 3] σ = .ok (.int (ns.getD 3 0)) σ := cl 3
  have c4 : ∀ m, 1 ≤ m → ∀ σ, callN PP m 0 "_law_cell_at" [scr ns, .int 4] σ = .ok (.int (ns.getD 4 0)) σ := cl 4
  have c5 : ∀ m, 1 ≤ m → ∀ σ, callN PP m 0 "_law_cell_at" [scr ns, .int 5] σ = .ok (.int (ns.getD 5 0)) σ := cl 5
  have c0 : ∀ m, 1 ≤ m → ∀ σ, callN PP m 0 "_law_cell_at" [scr ns, .int 0] σ = .ok (.int (ns.getD 0 0)) σ := cl 0
  generalize ns.getD 2 0 = d2 at c2
  generalize ns.getD 3 0 = d3 at c3
  generalize ns.getD 4 0 = d4 at c4
  generalize ns.getD 5 0 = d5 at c5
  subst hL
  have st : ∀ m σ, 9 ≤ m → ∃ σ₁, Grow σ σ₁ ∧ callN PP (m + 1) 0 "_law_pairs" [scr ns, .int L.length] σ =
      (bif decide ((L.length : Int) > 0) && decide (d2.fmod 3 = 1) then pairsA (callN PP m) 0 (scr ns) (.int L.length) (.ref σ₁.length) (.int d3) (.int (d4.fmod L.length)) (.int (d3.fmod (2 * 10 ^ 60 - 3) - (10 ^ 60 - 2))) (σ₁ ++ [.list (L.map encP)])
        else .ok (.ref σ₁.length) (σ₁ ++ [.list (L.map encP)])) := fun m σ hm => by
    have m1 : 1 ≤ m := by omega
    obtain ⟨σ₁, g₁, e⟩ := hR m 0 σ (by omega) (by omega)
    refine ⟨σ₁, g₁, ?_⟩
    have p60 : ∀ σ, binop .Pow (.int 10) (.int 60) σ = _ := fun σ => b_pow 60 (by decide) (by decide +kernel)
    have m2 : ∀ σ, binop .Mult (.int 2) (.int (10 ^ 60)) σ = _ := fun σ => b_mul 2 (10 ^ 60) σ (small_lit (by decide) (by decide)) (by decide +kernel)
    rw [cN, law_pairs_K, c0 m m1, pkE_okc, e, pkE_okc, c3 m m1, pkE_okc]
    cases hd1 : decide ((L.length : Int) > 0) with
    | false => simp only [cmp_gt, pkE_okc, tr_bool, hd1, bq_falsec, Bool.false_and, cond_false]
    | true =>
      have hpos := of_decide_eq_true hd1
      cases hd2 : decide (d2.fmod 3 = 1) with
      | false => simp only [cmp_gt, pkE_okc, tr_bool, hd1, bq_falsec, bq_truec, Bool.true_and, cond_false, c2 m m1, b_mod d2 3 _ (by decide), cmp_eq, hd2]
      | true => simp only [cmp_gt, pkE_okc, tr_bool, hd1, bq_truec, Bool.true_and, cond_true, c2 m m1, b_mod d2 3 _ (by decide), cmp_eq, hd2, c4 m m1, b_mod d4 _ _ hpos, p60, m2, b_sub, b_mod d3 (2 * 10 ^ 60 - 3) _ (by decide)]
  cases hc : decide ((L.length : Int) > 0) && decide (d2.fmod 3 = 1) with
  | false =>
    refine ⟨L, rfl, hP, fun n σ hn => ?_⟩
    obtain ⟨m, rfl, hm⟩ := un (show 9 + 1 ≤ n by omega)
    obtain ⟨σ₁, g₁, e⟩ := st m σ hm
    rw [hc] at e
    exact ⟨_, _, g₁.trans (.app _ _), get_new _ _, e⟩
  | true =>
    have hpos := of_decide_eq_true (Bool.and_eq_true_iff.mp hc).1
    have a0 := fmod_lo d4 hpos
    have a1 := fmod_hi d4 hpos
    have a2 : (d4.fmod L.length).toNat < L.length := by omega
    refine ⟨L.set (d4.fmod L.length).toNat (keyB L (d4.fmod L.length) (d5.fmod 4) d3 (keyA L L.length (d5.fmod 4) d3 (d3.fmod (2 * 10 ^ 60 - 3) - (10 ^ 60 - 2))), L[(d4.fmod L.length).toNat].2), by simp, fun x hx => ?_, fun n σ hn => ?_⟩
    · rcases List.mem_or_eq_of_mem_set hx with z | z
      · exact hP x z
      · subst z; exact hP L[(d4.fmod L.length).toNat] (List.getElem_mem _)
    · obtain ⟨m, rfl, hm⟩ := un (show 9 + 1 ≤ n by omega)
      obtain ⟨σ₁, g₁, e⟩ := st m σ hm
      rw [hc] at e
      have c5' := c5 m (by omega)
      obtain ⟨σ₂, g₂, e₂⟩ := pairsA_ok (a := d4.fmod L.length) (key := d3.fmod (2 * 10 ^ 60 - 3) - (10 ^ 60 - 2)) d3 c5' rfl (get_new σ₁ (.list (L.map encP))) hpos
      have hq := g₂.get (get_new σ₁ (.list (L.map encP)))
      refine ⟨_, σ₁.length, ((g₁.trans (.app _ _)).trans g₂).set g₁.le _, get_set hq, e.trans (e₂.trans ((pairsB_ok d3 c5' rfl hq a0 a1).trans (pairsC_ok hq a0 a2)))⟩
end Mine.L

/- L14 -/
set_option tactic.hygienic false
/-! Mine: the law returns True. -/
namespace Mine.L
open PySem Tr
set_option linter.unusedVariables false
set_option maxRecDepth 100000
set_option linter.unusedSimpArgs false
set_option exponentiation.threshold 1100

theorem slice_from {σ : Sto} {q : Nat} {L : List (Int × AV)} (a : Nat) (h : σ[q]? = some (.list (L.map encP))) (hz : L.length ≤ 1000) : item (.ref q) (.sl (some (a : Int)) Option.none) σ = .ok (.ref σ.length) (σ ++ [.list ((L.drop a).map encP)]) := by
  have h0 : decide ((0 : Int) ≤ (a : Int)) = true := decide_eq_true (by first | exact fu hm | omega)
  simp only [item, slice, h, h0, cond_true, bq_truec, Int.toNat_natCast]
  rw [← List.map_drop]
  exact newL_ok' (by simp [bigN]; omega) σ
theorem slice_upto {σ : Sto} {q : Nat} {L : List (Int × AV)} (a : Nat) (h : σ[q]? = some (.list (L.map encP))) (hz : L.length ≤ 1000) : item (.ref q) (.sl Option.none (some (a : Int))) σ = .ok (.ref σ.length) (σ ++ [.list ((L.take a).map encP)]) := by
  have h0 : decide ((0 : Int) ≤ (a : Int)) = true := decide_eq_true (by first | exact fu hm | omega)
  simp only [item, slice, h, h0, cond_true, bq_truec, Int.toNat_natCast]
  rw [← List.map_take]
  exact newL_ok' (by simp [bigN]; omega) σ
theorem add_lst {σ : Sto} {p q : Nat} {L M : List (Int × AV)} (h : σ[p]? = some (.list (L.map encP))) (h' : σ[q]? = some (.list (M.map encP))) (hz : L.length ≤ 1000) (hz' : M.length ≤ 1000) : binop .Add (.ref p) (.ref q) σ = .ok (.ref σ.length) (σ ++ [.list ((L ++ M).map encP)]) := by
  show lstR σ (.ref p) _ = _
  simp only [lstR, listOf?, h, h']
  rw [← List.map_append]
  exact newL_ok' (by simp [bigN]; omega) σ
theorem Srt.take {L : List (Int × AV)} (h : Srt L) (n : Nat) : Srt (L.take n) := List.Pairwise.sublist (List.take_sublist _ _) h
theorem Srt.drop {L : List (Int × AV)} (h : Srt L) (n : Nat) : Srt (L.drop n) := List.Pairwise.sublist (List.drop_sublist _ _) h

theorem many_ok (ns : List Int) (hz : ns.length ≤ 63) : ∃ N : Nat, N ≤ 249 ∧ ∀ m σ, 1 ≤ m → ∃ σ', callN PP (m + 1) 0 "law" [scr ns] σ = restK "law" 3 (callN PP m) 0 [("_law_script", scr ns), ("_law_many", .int N)] σ' := by
  generalize hc : ns.getD 1 0 = c
  have c1 : ∀ m σ, 1 ≤ m → callN PP m 0 "_law_cell_at" [scr ns, .int 1] σ = .ok (.int c) σ := fun m σ h => hc ▸ cell_at_ok ns 1 h 0 σ
  have a0 := fmod_lo c (b := 70) (by decide)
  have a1 := fmod_hi c (b := 70) (by decide)
  have lg : decide ((ns.length : Int) > 63) = false := decide_eq_false (by first | exact fu hm | omega)
  have S0 : ∀ m σ, 1 ≤ m → ∃ σ', callN PP (m + 1) 0 "law" [scr ns] σ = restK "law" 1 (callN PP m) 0 [("_law_script", scr ns), ("_law_many", .int (c.fmod 70))] σ' := fun m σ h => by
    refine ⟨σ ++ [.list [.int 70, .int 700]], ?_⟩
    rw [cN, law_S, law_S0, c1 m σ h]
    have n2 : newL [.int 70, .int 700] σ = .ok (.ref σ.length) (σ ++ [.list [.int 70, .int 700]]) := newL_ok' (by simp [bigN]) σ
    have it : item (.ref σ.length) (.int 0) (σ ++ [.list [.int 70, .int 700]]) = .ok (.int 70) (σ ++ [.list [.int 70, .int 700]]) := item_lst (get_new _ _) (by decide) rfl
    have ln : ∀ σ, callA PP (callN PP m) 0 "len" [scr ns] σ = .ok (.int ns.length) σ := fun σ => by unfold scr; rw [len_frozen, List.length_map]
    simp only [pkE_okc, n2, ln, cmp_gt, lg, int_bool, cond_false, bq_falsec, it, b_mod c 70 _ (by decide)]
  have q3 : ∀ x σ, binop .Mod (.int x) (.int 3) σ = _ := fun x σ => b_mod x 3 σ (by decide)
  have q9 : ∀ x σ, binop .Mod (.int x) (.int 9) σ = _ := fun x σ => b_mod x 9 σ (by decide)
  have q16 : ∀ x σ, binop .Mod (.int x) (.int 16) σ = _ := fun x σ => b_mod x 16 σ (by decide)
  have q250 : ∀ x σ, binop .Mod (.int x) (.int 250) σ = _ := fun x σ => b_mod x 250 σ (by decide)
  have d70 : ∀ σ, binop .FloorDiv (.int c) (.int 70) σ = _ := fun σ => b_fdiv c 70 σ (by decide) (small_lit (by decide) (by decide))
  have d210 : ∀ σ, binop .FloorDiv (.int c) (.int 210) σ = _ := fun σ => b_fdiv c 210 σ (by decide) (small_lit (by decide) (by decide))
  have d3360 : ∀ σ, binop .FloorDiv (.int c) (.int 3360) σ = _ := fun σ => b_fdiv c 3360 σ (by decide) (small_lit (by decide) (by decide))
  -- the second statement
  have S1 : ∃ M : Int, 0 ≤ M ∧ M < 70 ∧ ∀ m σ, 1 ≤ m → restK "law" 1 (callN PP m) 0 [("_law_script", scr ns), ("_law_many", .int (c.fmod 70))] σ = restK "law" 2 (callN PP m) 0 [("_law_script", scr ns), ("_law_many", .int M)] σ := by
    cases hd : decide ((c.fdiv 70).fmod 3 = 1) with
    | true =>
      have b0 := fmod_lo (c.fmod 70) (b := 9) (by decide)
      have b1 := fmod_hi (c.fmod 70) (b := 9) (by decide)
      refine ⟨(c.fmod 70).fmod 9, b0, by omega, fun m σ h => ?_⟩
      rw [law_S1]
      simp only [c1 m _ h, pkE_okc, d70, q3, cmp_eq, hd, tr_bool, cond_true, bq_truec, q9]
    | false =>
      refine ⟨c.fmod 70, a0, a1, fun m σ h => ?_⟩
      rw [law_S1]
      simp only [c1 m _ h, pkE_okc, d70, q3, cmp_eq, hd, tr_bool, cond_false, bq_falsec]
  obtain ⟨M, M0, M1, S1⟩ := S1
  have S2 : ∃ K : Int, 0 ≤ K ∧ K < 250 ∧ ∀ m σ, 1 ≤ m → restK "law" 2 (callN PP m) 0 [("_law_script", scr ns), ("_law_many", .int M)] σ = restK "law" 3 (callN PP m) 0 [("_law_script", scr ns), ("_law_many", .int K)] σ := by
    cases hd : decide ((c.fdiv 210).fmod 16 = 5) with
    | true =>
      refine ⟨(c.fdiv 3360).fmod 250, fmod_lo _ (by decide), fmod_hi _ (by decide), fun m σ h => ?_⟩
      rw [law_S2]
      simp only [c1 m _ h, pkE_okc, d210, q16, cmp_eq, hd, tr_bool, cond_true, bq_truec, d3360, q250]
    | false =>
      refine ⟨M, M0, by omega, fun m σ h => ?_⟩
      rw [law_S2]
      simp only [c1 m _ h, pkE_okc, d210, q16, cmp_eq, hd, tr_bool, cond_false, bq_falsec]
  obtain ⟨K, K0, K1, S2⟩ := S2
  refine ⟨K.toNat, by omega, fun m σ h => ?_⟩
  obtain ⟨σ', e⟩ := S0 m σ h
  exact ⟨σ', by rw [e, S1 m σ' h, S2 m σ' h, show ((K.toNat : Nat) : Int) = K by omega]⟩

theorem law_ok (ns : List Int) (hz : ns.length ≤ 63) (hB : Bd ns) (n : Nat) (hn : 100 ≤ n) : ∃ σ', callN PP n 0 "law" [scr ns] [] = .ok (.bool true) σ' := by
  obtain ⟨m, rfl, hm⟩ := un (show 99 + 1 ≤ n by first | exact hn | omega)
  obtain ⟨N, hN, h0⟩ := many_ok ns hz
  obtain ⟨σ₀, e₀⟩ := h0 m [] (by first | exact fu hm | omega)
  rw [e₀]
  obtain ⟨L, hL, hP, hR⟩ := pairs_ok ns hB N (by first | exact fu hm | omega)
  obtain ⟨σ₁, q₁, g₁, k₁, e₁⟩ := hR m σ₀ (by first | exact fu hm | omega)
  rw [law_S3, e₁, pkE_okc, law_S4]
  obtain ⟨σ₂, q₂, g₂, k₂, e₂⟩ := hR m σ₁ (by first | exact fu hm | omega)
  rw [e₂, pkE_okc, law_S5]
  have k₁ := g₂.get k₁
  rw [list_call _ _ k₁ (by simp [bigN]; omega), pkE_okc, law_S6, law_B6]
  generalize hσ : σ₂ ++ [AO.list (L.map encP)] = σ₃
  have g₃ : Grow σ₂ σ₃ := hσ ▸ .app _ _
  have k₁ := g₃.get k₁
  have k₂ := g₃.get k₂
  have k₃ : σ₃[σ₂.length]? = some (.list (L.map encP)) := hσ ▸ get_new _ _
  generalize σ₂.length = q₃ at k₃
  have zL : L.length ≤ 1000 := by omega
  by_cases hs : Srt L
  · obtain ⟨t, c1, i1, t1, r1⟩ := raised_ok L zL hs
    rw [c1 m 0 σ₃ q₃ k₃ (by first | exact fu hm | omega) (by first | exact fu hm | omega), pkS_ok, tryR_next, law_S7]
    obtain ⟨σ₄, v, g₄, e₄, hv⟩ := rise_ok L zL (n := m) (lv := 0) k₂ (by first | exact fu hm | omega) (by first | exact fu hm | omega)
    have hv' : v = true := hv.mpr hs
    subst hv'
    obtain ⟨σ₅, g₅, e₅⟩ := same_ok L zL hP (n := m) (lv := 0) (g₄.get k₃) (g₄.get k₂) (by first | exact fu hm | omega) (by first | exact fu hm | omega)
    obtain ⟨σ₆, g₆, e₆⟩ := sound_ok t L t1 r1 i1 zL hP (n := m) (lv := 0) ((g₄.trans g₅).get k₂) (by first | exact fu hm | omega) (by first | exact fu hm | omega)
    simp only [e₄, pkE_okc, tr_bool, Bool.not_true, cond_false, bq_falsec, e₅, e₆]
    have g := (g₄.trans g₅).trans g₆
    have k₁ := g.get k₁
    have k₂ := g.get k₂
    have hpos : (0 : Int) < (N : Int) + 1 := by omega
    have c6 := cell_at_ok ns 6 (n := m) (by first | exact fu hm | omega) 0 σ₆
    have c7 := cell_at_ok ns 7 (n := m) (by first | exact fu hm | omega) 0 σ₆
    generalize ns.getD 6 0 = d6 at c6
    generalize ns.getD 7 0 = d7 at c7
    have c6' : callN PP m 0 "_law_cell_at" [scr ns, .int 6] σ₆ = .ok (.int d6) σ₆ := c6
    have c7' : callN PP m 0 "_law_cell_at" [scr ns, .int 7] σ₆ = .ok (.int d7) σ₆ := c7
    have f0 := fmod_lo d6 hpos
    have f1 := fmod_hi d6 hpos
    rw [law_S8]
    simp only [c6', pkE_okc, b_add, b_mod d6 _ σ₆ hpos]
    obtain ⟨cut, hcut⟩ : ∃ cut : Nat, d6.fmod ((N : Int) + 1) = cut := ⟨(d6.fmod ((N : Int) + 1)).toNat, by omega⟩
    rw [hcut] at f1 ⊢
    rw [law_S9]
    simp only [c7', pkE_okc, b_mod d7 4 σ₆ (by decide)]
    generalize d7.fmod 4 = way
    rw [law_S10]
    simp only [cmp_eq, pkE_okc, tr_bool]
    cases hw1 : decide (way = 1) with
    | true =>
      simp only [cond_true, bq_truec, slA_in, slA_ni, pkE_okc]
      rw [slice_from cut k₁ zL, pkE_okc, slA_ni, pkE_okc, slice_upto cut (Grow.get (.app _ _) k₁) zL, pkE_okc, slA_in, pkE_okc, slice_from cut (Grow.get (.app _ _) (Grow.get (.app _ _) k₂)) zL, pkE_okc, slA_ni, pkE_okc, slice_upto cut (Grow.get (.app _ _) (Grow.get (.app _ _) (Grow.get (.app _ _) k₂))) zL, pkE_okc]
      rw [add_lst (Grow.get (.app _ _) (get_new _ _)) (get_new _ _) (by simp; omega) (by simp; omega), pkE_okc]
      obtain ⟨σ', e⟩ := law_laid_ok (L.drop cut) (L.take cut) (L.drop cut ++ L.take cut) (hs.drop _) (hs.take _) (by simp; omega) (by simp; omega)
        (fun x hx => hP x ((List.mem_append.mp hx).elim List.mem_of_mem_drop List.mem_of_mem_take)) (fun _ => rfl) (n := m)
        (Grow.get (.app _ _) (Grow.get (.app _ _) (Grow.get (.app _ _) (Grow.get (.app _ _) (get_new σ₆ _))))) (Grow.get (.app _ _) (Grow.get (.app _ _) (Grow.get (.app _ _) (get_new _ _)))) (get_new _ _) (by first | exact fu hm | omega)
      exact ⟨σ', by rw [e, pkE_okc]⟩
    | false =>
      simp only [cond_false, bq_falsec]
      rw [law_S11]
      simp only [cmp_eq, pkE_okc, tr_bool]
      cases hw2 : decide (way = 2) with
      | true =>
        simp only [cond_true, bq_truec, b_add, slA_in, slA_ni, pkE_okc]
        have e1 : ((cut : Int) + 1) = ((cut + 1 : Nat) : Int) := by simp
        rw [e1, slice_upto (cut + 1) k₁ zL, pkE_okc, slA_in, pkE_okc, slice_from cut (Grow.get (.app _ _) k₁) zL, pkE_okc]
        have hD : Apart (L.take (cut + 1)) (L.drop cut) → L = L.take (cut + 1) ++ L.drop cut := fun ha => by
          rcases Nat.lt_or_ge cut L.length with z | z
          · exfalso
            have h1 : (L.take (cut + 1)).getLast? = some L[cut] := by
              rw [List.getLast?_take, if_neg (by first | exact fu hm | omega)]
              simp [z]
            have h2 : (L.drop cut).head? = some L[cut] := by rw [List.head?_drop]; simp [z]
            have := ha L[cut] (by rw [h1]; rfl) L[cut] (by rw [h2]; rfl)
            omega
          · rw [List.take_of_length_le (by first | exact fu hm | omega), List.drop_eq_nil_of_le z, List.append_nil]
        obtain ⟨σ', e⟩ := law_laid_ok (L.take (cut + 1)) (L.drop cut) L (hs.take _) (hs.drop _) (by simp; omega) (by simp; omega) hP hD (n := m)
          (Grow.get (.app _ _) (get_new σ₆ _)) (get_new _ _) (Grow.get (.app _ _) (Grow.get (.app _ _) k₂)) (by first | exact fu hm | omega)
        exact ⟨σ', by rw [e, pkE_okc]⟩
      | false =>
        simp only [cond_false, bq_falsec]
        rw [law_S12]
        simp only [slA_in, slA_ni, pkE_okc]
        rw [slice_upto cut k₁ zL, pkE_okc, slA_in, pkE_okc, slice_from cut (Grow.get (.app _ _) k₁) zL, pkE_okc]
        obtain ⟨σ', e⟩ := law_laid_ok (L.take cut) (L.drop cut) L (hs.take _) (hs.drop _) (by simp; omega) (by simp; omega) hP (fun _ => by simp) (n := m)
          (Grow.get (.app _ _) (get_new σ₆ _)) (get_new _ _) (Grow.get (.app _ _) (Grow.get (.app _ _) k₂)) (by first | exact fu hm | omega)
        exact ⟨σ', by rw [e, pkE_okc]⟩
  · rw [raised_exc L zL hs k₃ (by first | exact fu hm | omega) (by first | exact fu hm | omega), pkS_exc, tryR_exc, law_H6_NotRising]
    obtain ⟨σ₄, v, g₄, e₄, hv⟩ := rise_ok L zL (n := m) (lv := 0 + 1) k₂ (by first | exact fu hm | omega) (by first | exact fu hm | omega)
    have hv' : v = false := by
      cases v with
      | false => rfl
      | true => exact absurd (hv.mp rfl) hs
    subst hv'
    obtain ⟨σ₅, g₅, e₅⟩ := same_ok L zL hP (n := m) (lv := 0 + 1) (g₄.get k₃) (g₄.get k₂) (by first | exact fu hm | omega) (by first | exact fu hm | omega)
    have e₆ := refused_rising L zL hs (n := m) (lv := 0 + 1) ((g₄.trans g₅).get k₃) (by first | exact fu hm | omega) (by first | exact fu hm | omega)
    exact ⟨σ₅, by simp only [e₄, pkB_ok, not_bool, Bool.not_false, tr_bool, cond_true, bq_truec, e₅, e₆]⟩
end Mine.L

/- H10 -/
set_option tactic.hygienic false
/-! Mine: the head of claim 10: the text's own run by the kernel at once, with a hook of my own. -/
namespace Mine
open PySem PySem.W PyProof.Rows
set_option Elab.async false
set_option maxRecDepth 100000
set_option maxHeartbeats 8000000

noncomputable def keepSt : Stmt → Bool
  | .Assign _ _ _ => false
  | _ => true
noncomputable def q10 : Program := { PySem.Challenge.pw_uf010032_10 with main := { PySem.Challenge.pw_uf010032_10.main with body := PySem.Challenge.pw_uf010032_10.main.body.filter keepSt } }

noncomputable def fragOf (h : Heap) (as : List Addr) : Frag := as.filterMap fun a => (h.get? a).map fun o => (a, o)
theorem fragOf_in (h : Heap) : ∀ as, (fragOf h as).In h
  | [], _, _, e => by cases e
  | a :: r, b, o, e => by
    unfold fragOf at e
    rw [List.filterMap_cons] at e
    cases q : h.get? a with
    | none => rw [q] at e; exact fragOf_in h r b o e
    | some o' =>
      rw [q] at e
      simp only [Option.map_some, List.lookup_cons] at e
      cases z : b == a with
      | true => rw [z] at e; cases e; rw [beq_iff_eq.mp z]; exact q
      | false => rw [z] at e; exact fragOf_in h r b o e

noncomputable def clsA : List (Str × Addr) := [("TreeError", 24), ("NoKey", 37), ("NoPlace", 49), ("NotApart", 61), ("NotRising", 73)]
noncomputable def addrs : List Addr := [mainGlobals, 23, 24, 36, 37, 48, 49, 60, 61, 72, 73]
noncomputable def sub3 : List (String × String × Bool) := [("int", "int", true), ("bool", "int", true), ("NoneType", "int", false), ("str", "int", false), ("tuple", "int", false),
  ("int", "bool", false), ("bool", "bool", true), ("NoneType", "bool", false), ("str", "bool", false), ("tuple", "bool", false),
  ("int", "tuple", false), ("bool", "tuple", false), ("NoneType", "tuple", false), ("str", "tuple", false), ("tuple", "tuple", true)]
noncomputable def chkG (K : Frag) : Bool := clsA.all fun x => (match K.lookup mainGlobals with | some o => (match o.data with | .dict es _ => nsFind es x.1 | _ => none) | none => none) == some (.ref x.2)
noncomputable def chkE (K : Frag) : Bool := clsA.all fun x => excIn K x.2 && (clsA.all fun y => exmOne K (.ref x.2) (.ref y.2) == some (PP.sub x.1 y.1) && kitOne K (.ref x.2) (.ref y.2) == some (PP.sub x.1 y.1)) &&
    kitOne K (.ref x.2) (.type "ValueError") == some (PP.sub x.1 "ValueError")
noncomputable def chkS (K : Frag) : Bool := sub3.all fun x => kitOne K (.type x.1) (.type x.2.1) == some x.2.2

noncomputable def hook : Hook where
  α := Bool
  obs := fun s => chkG (fragOf s.heap addrs) && chkE (fragOf s.heap addrs) && chkS (fragOf s.heap addrs)
  val := fun _ => true
  says := fun _ h => ∃ K : Frag, K.In h ∧ chkG K = true ∧ chkE K = true ∧ chkS K = true
  of := fun w s e => by
    simp only [Bool.and_eq_true] at e
    exact ⟨_, fragOf_in s.heap addrs, e.1.1, e.1.2, e.2⟩
  keeps := fun w h h' ⟨K, X, r⟩ k => ⟨K, X.keeps k, r⟩

theorem left10 : LeftO PySem.Challenge.pw_uf010032_10 q10 [] (fun s => xlAt q10 [] s && recOk [] s) (Hook.obs hook) (Hook.val hook) 4152 := by
  intro w
  kernel_rfl
end Mine

/- J2 -/
set_option tactic.hygienic false
/-! Mine: the ground of the program of claim 10. -/
namespace Mine
open PySem PySem.Spec PySem.Calls PyProof.Rows PySem.W
set_option maxRecDepth 100000
set_option Elab.async false

/-- the records' own text, by its name -/
noncomputable def lookR (f : Str) : List DefRec → Option (List Str × List Stmt × Scope)
  | [] => Option.none
  | d :: r => bif d.name == f then some (d.params.args.map (·.arg), d.body, d.scope) else lookR f r
theorem lookR_ok {f : Str} {t : List Str × List Stmt × Scope} : ∀ {ds : List DefRec}, lookR f ds = some t → ∃ d ∈ ds, d.name = f ∧ (d.params.args.map (·.arg), d.body, d.scope) = t
  | [], h => nomatch h
  | d :: r, h => by
    have h : (bif d.name == f then some (d.params.args.map (·.arg), d.body, d.scope) else lookR f r) = some t := h
    cases q : d.name == f with
    | true => rw [q] at h; exact ⟨d, .head _, beq_iff_eq.mp q, Option.some.inj h⟩
    | false =>
      rw [q] at h
      obtain ⟨d', h1, h2⟩ := lookR_ok (ds := r) h
      exact ⟨d', .tail _ h1, h2⟩

noncomputable def notB (f : Str) : Bool := !(f == "len" || f == "isinstance" || f == "int" || f == "tuple" || f == "list" || f == "max" || f == "sorted" || f == "dict")
theorem notB_none {P : Prog} {f : Str} (h : notB f = true) (lv : Nat) (vs : List AV) (σ : Sto) : builtin P lv f vs σ = none := by
  unfold notB at h
  simp only [Bool.not_eq_true', Bool.or_eq_false_iff] at h
  obtain ⟨⟨⟨⟨⟨⟨⟨h1, h2⟩, h3⟩, h4⟩, h5⟩, h6⟩, h7⟩, h8⟩ := h
  simp only [builtin, h1, h2, h3, h4, h5, h6, h7, h8, cond_false]

noncomputable def recFine (d : DefRec) : Bool := d.params.posonlyargs.isEmpty && d.params.kwonlyargs.isEmpty && d.params.vararg.isNone && d.params.kwarg.isNone && distinct (d.params.args.map (·.arg)) && notB d.name
noncomputable def freeOk (p : Program) (loose : List Str) (x : Str) : Bool := !startupNames.contains x && !loose.contains x && !((recsOf p).map (·.name)).contains x && !((litsOf p).map (·.1)).contains x && !((clssOf p loose).map (·.name)).contains x

theorem free_of {p : Program} {loose : List Str} {mean : ExcName → Option Value} {mg mb : Str → Option Value} {h : Heap} (T : Top p loose mean mg mb h) {x : Str} (e : freeOk p loose x = true) : mg x = none := by
  unfold freeOk at e
  simp only [Bool.and_eq_true, Bool.not_eq_true', List.contains_eq_mem, decide_eq_false_iff_not] at e
  exact T.free x e.1.1.1.1 e.1.1.1.2 e.1.1.2 e.1.2 e.2
end Mine

/- J3 -/
set_option tactic.hygienic false
/-! Mine: the ground of the program of claim 10. -/
namespace Mine
open PySem PySem.Spec PySem.Calls PyProof.Rows PySem.W
set_option maxRecDepth 100000
set_option Elab.async false

noncomputable def bnames : List Str := ["len", "isinstance", "int", "tuple", "list", "max", "sorted", "dict", "range", "bool", "ValueError"]
noncomputable def tnames : List Str := ["int", "bool", "tuple", "ValueError"]
noncomputable def tv10 (mg mb : Str → Option Value) (t : Str) : Option Value := bif PP.cls t then mg t else bif tnames.contains t then mb t else none

theorem c_fn (f : Str) : PP.fn f = lookR f (recsOf q10) := by kernel_rfl
theorem c_recs : (recsOf q10).all recFine = true := by decide +kernel
theorem c_free : bnames.all (freeOk q10 (looseW q10 [])) = true := by decide +kernel
theorem c_boot : bootBuiltins "len" = some (.builtin "len") ∧ bootBuiltins "isinstance" = some (.builtin "isinstance") ∧ bootBuiltins "int" = some (.type "int") ∧ bootBuiltins "tuple" = some (.type "tuple") ∧ bootBuiltins "list" = some (.type "list") ∧
    bootBuiltins "max" = some (.builtin "max") ∧ bootBuiltins "sorted" = some (.builtin "sorted") ∧ bootBuiltins "dict" = some (.type "dict") ∧ bootBuiltins "range" = some (.type "range") ∧ bootBuiltins "bool" = some (.type "bool") ∧ bootBuiltins "ValueError" = some (.type "ValueError") := by
  decide +kernel
theorem c_owns : clsA.all (fun x => (ownsOf q10).any fun o => o.name == x.1 && o.newId == "ValueError.__new__" && o.bm == [.type "ValueError", .type "Exception", .type "BaseException", .type "object"]) = true := by decide +kernel
theorem c_said : PySem.Challenge.rw_uf010032_10.wellSaid = true := by decide +kernel
end Mine

/- J4 -/
set_option tactic.hygienic true
/-! Mine: the ground of the program of claim 10, put together. -/
namespace Mine
open PySem PySem.Spec PySem.Calls PyProof.Rows PySem.W
set_option maxRecDepth 100000
set_option Elab.async false

section
variable {mean : ExcName → Option Value} {w : World} {h : Heap} {K : Frag} {mg mb : Str → Option Value}

theorem cls_mem {c : Str} (hc : PP.cls c = true) : ∃ a, (c, a) ∈ clsA := by
  have : c = "NotRising" ∨ c = "NotApart" ∨ c = "NoKey" ∨ c = "TreeError" ∨ c = "NoPlace" := by
    simp only [PP, Bool.or_eq_true, beq_iff_eq] at hc
    rcases hc with (((h | h) | h) | h) | h
    · exact .inl h
    · exact .inr (.inl h)
    · exact .inr (.inr (.inl h))
    · exact .inr (.inr (.inr (.inl h)))
    · exact .inr (.inr (.inr (.inr h)))
  rcases this with rfl | rfl | rfl | rfl | rfl
  · exact ⟨73, by decide +kernel⟩
  · exact ⟨61, by decide +kernel⟩
  · exact ⟨37, by decide +kernel⟩
  · exact ⟨24, by decide +kernel⟩
  · exact ⟨49, by decide +kernel⟩
theorem clsA_cls : ∀ x ∈ clsA, PP.cls x.1 = true := by decide +kernel
theorem clsA_apart : ∀ x ∈ clsA, ∀ y ∈ clsA, x.2 = y.2 → x.1 = y.1 := by decide +kernel

theorem mg_cls (T : Top q10 (looseW q10 []) mean mg mb h) (KX : K.In h) (CG : chkG K = true) {x : Str × Addr} (hx : x ∈ clsA) : mg x.1 = some (.ref x.2) := by
  have := List.all_eq_true.mp CG x hx
  have e := beq_iff_eq.mp this
  cases ho : K.lookup mainGlobals with
  | none => rw [ho] at e; cases e
  | some o => rw [ho] at e; exact ns_at KX T.g ho e

theorem tv_ref (T : Top q10 (looseW q10 []) mean mg mb h) (KX : K.In h) (CG : chkG K = true) {c : Str} {C : Addr} (e : tv10 mg mb c = some (.ref C)) : (c, C) ∈ clsA := by
  unfold tv10 at e
  cases hc : PP.cls c with
  | true =>
    rw [hc] at e
    obtain ⟨a, ha⟩ := cls_mem hc
    have := mg_cls T KX CG ha
    simp only [cond_true] at e
    rw [this] at e; cases e; exact ha
  | false =>
    rw [hc] at e
    simp only [cond_false] at e
    cases ht : tnames.contains c with
    | false => rw [ht] at e; cases e
    | true =>
      rw [ht] at e
      simp only [cond_true] at e
      have hm : c ∈ tnames := by simpa using ht
      simp only [tnames, List.mem_cons, List.not_mem_nil, or_false] at hm
      obtain ⟨_, _, b3, b4, _, _, _, _, _, b10, b11⟩ := c_boot
      rcases hm with rfl | rfl | rfl | rfl
      · rw [T.builtins _ (by decide), b3] at e; cases e
      · rw [T.builtins _ (by decide), b10] at e; cases e
      · rw [T.builtins _ (by decide), b4] at e; cases e
      · rw [T.builtins _ (by decide), b11] at e; cases e
theorem tv_type (T : Top q10 (looseW q10 []) mean mg mb h) : tv10 mg mb "int" = some (.type "int") ∧ tv10 mg mb "bool" = some (.type "bool") ∧ tv10 mg mb "tuple" = some (.type "tuple") ∧ tv10 mg mb "ValueError" = some (.type "ValueError") := by
  obtain ⟨_, _, b3, b4, _, _, _, _, _, b10, b11⟩ := c_boot
  refine ⟨?_, ?_, ?_, ?_⟩
  · show mb "int" = _; rw [T.builtins _ (by decide), b3]
  · show mb "bool" = _; rw [T.builtins _ (by decide), b10]
  · show mb "tuple" = _; rw [T.builtins _ (by decide), b4]
  · show mb "ValueError" = _; rw [T.builtins _ (by decide), b11]
theorem tv_cls (T : Top q10 (looseW q10 []) mean mg mb h) (KX : K.In h) (CG : chkG K = true) {x : Str × Addr} (hx : x ∈ clsA) : tv10 mg mb x.1 = some (.ref x.2) := by
  unfold tv10
  rw [clsA_cls x hx]
  exact mg_cls T KX CG hx

theorem rec_of {f : Str} {ps : List Str} {body : List Stmt} {sc : Scope} (e : PP.fn f = some (ps, body, sc)) : ∃ d ∈ recsOf q10, d.name = f ∧ d.params.args.map (·.arg) = ps ∧ d.body = body ∧ d.scope = sc ∧ recFine d = true := by
  rw [c_fn] at e
  obtain ⟨d, hd, hn, ht⟩ := lookR_ok e
  cases ht
  exact ⟨d, hd, hn, rfl, rfl, rfl, List.all_eq_true.mp c_recs d hd⟩

noncomputable def tyOf : AV → Option String
  | .none => some "NoneType"
  | .bool _ => some "bool"
  | .int _ => some "int"
  | .str _ => some "str"
  | .tup _ => some "tuple"
  | _ => none
theorem isi_val {prog : Program} {A : Around} {E : Value → Shared → Prop} {s : Shared} {X : Cx} {ρ : List Addr} {v : Value} {a : AV} {T1 T2 : String} {b : Bool} {Q : Value → Shared → Prop} (KS : K.In s.heap) (r : Rep X ρ s.heap v a) (hT : tyOf a = some T1) (e : kitOne K (.type T1) (.type T2) = some b)
    (hq : ∀ tk, Q (.bool b) { s with toks := tk }) : wpAny (model prog w) A (call (.builtin "isinstance") [v, .type T2]) Q E s := by
  cases r with
  | none => cases hT; exact kia_one kitx_none KS trivial e (by intro z; cases z) hq
  | bool b => cases hT; exact kia_one kitx_bool KS trivial e (by intro z; cases z) hq
  | int i tk => cases hT; exact kia_one kitx_int KS trivial e (by intro z; cases z) hq
  | str x tk => cases hT; exact kia_one kitx_str KS trivial e (by intro z; cases z) hq
  | tup z it rr =>
    cases hT
    obtain ⟨o, ho, hc, _⟩ := it
    exact kia_one kitx_tuple KS ⟨o, ho, hc⟩ e (by intro z; cases z) hq
  | _ => cases hT
theorem inst_int {a : AV} {b : Bool} (h : isInst PP "int" a = some b) : ∃ T1, tyOf a = some T1 ∧ (T1, "int", b) ∈ sub3 := by
  cases a <;> first | (cases (show some true = some b from h); exact ⟨_, rfl, by decide +kernel⟩) | (cases (show some false = some b from h); exact ⟨_, rfl, by decide +kernel⟩) | exact nomatch (show (none : Option Bool) = some b from h)
theorem inst_bool {a : AV} {b : Bool} (h : isInst PP "bool" a = some b) : ∃ T1, tyOf a = some T1 ∧ (T1, "bool", b) ∈ sub3 := by
  cases a <;> first | (cases (show some true = some b from h); exact ⟨_, rfl, by decide +kernel⟩) | (cases (show some false = some b from h); exact ⟨_, rfl, by decide +kernel⟩) | exact nomatch (show (none : Option Bool) = some b from h)
theorem inst_tuple {a : AV} {b : Bool} (h : isInst PP "tuple" a = some b) : ∃ T1, tyOf a = some T1 ∧ (T1, "tuple", b) ∈ sub3 := by
  cases a <;> first | (cases (show some true = some b from h); exact ⟨_, rfl, by decide +kernel⟩) | (cases (show some false = some b from h); exact ⟨_, rfl, by decide +kernel⟩) | exact nomatch (show (none : Option Bool) = some b from h)

theorem gd10 (prog : Program) (T : Top q10 (looseW q10 []) mean mg mb h) (KX : K.In h) (CG : chkG K = true) (CE : chkE K = true) (CS : chkS K = true) : Gd prog w ⟨h, tv10 mg mb⟩ PP mg mb where
  gl := ⟨T.g, T.b⟩
  nolimit := T.nolimit
  nodict := rfl
  isi := fun A E s ρ v c a t b Q st r ht hi hq => by
    have ht : tv10 mg mb t = some c := ht
    have KS : K.In s.heap := KX.keeps st
    obtain ⟨t1, t2, t3, t4⟩ := tv_type T
    have ks := fun (x : String × String × Bool) (hx : x ∈ sub3) => beq_iff_eq.mp (List.all_eq_true.mp CS x hx)
    cases e1 : (t == "int") with
    | true =>
      have := beq_iff_eq.mp e1; subst this
      rw [t1] at ht; cases ht
      obtain ⟨T1, h1, h2⟩ := inst_int hi
      exact isi_val KS r h1 (ks _ h2) hq
    | false =>
    cases e2 : (t == "bool") with
    | true =>
      have := beq_iff_eq.mp e2; subst this
      rw [t2] at ht; cases ht
      obtain ⟨T1, h1, h2⟩ := inst_bool hi
      exact isi_val KS r h1 (ks _ h2) hq
    | false =>
    cases e3 : (t == "tuple") with
    | true =>
      have := beq_iff_eq.mp e3; subst this
      rw [t3] at ht; cases ht
      obtain ⟨T1, h1, h2⟩ := inst_tuple hi
      exact isi_val KS r h1 (ks _ h2) hq
    | false =>
      unfold isInst at hi
      rw [e1, e2, e3] at hi
      simp only [cond_false] at hi
      cases r with
      | exc ho hc hd htv =>
        rename_i x C o fs cc
        cases hi
        have hm := tv_ref T KX CG htv
        have hall := List.all_eq_true.mp CE _ hm
        simp only [Bool.and_eq_true] at hall
        obtain ⟨⟨x1, x2⟩, x3⟩ := hall
        have p : ExcAt x C s.heap := ⟨o, ho, hc⟩
        cases hcl : PP.cls t with
        | true =>
          obtain ⟨a', ha'⟩ := cls_mem hcl
          have := tv_cls T KX CG ha'
          rw [this] at ht; cases ht
          have y := List.all_eq_true.mp x2 _ ha'
          rw [Bool.and_eq_true] at y
          exact isi_exc x1 KS p (beq_iff_eq.mp y.2) hq
        | false =>
          have htv' : tv10 mg mb t = bif tnames.contains t then mb t else none := by unfold tv10; rw [hcl]; rfl
          rw [htv'] at ht
          cases htn : tnames.contains t with
          | false => rw [htn] at ht; cases ht
          | true =>
            have hm : t ∈ tnames := by simpa using htn
            simp only [tnames, List.mem_cons, List.not_mem_nil, or_false] at hm
            rcases hm with rfl | rfl | rfl | rfl
            · exact absurd e1 (by decide)
            · exact absurd e2 (by decide)
            · exact absurd e3 (by decide)
            · rw [← htv', t4] at ht; cases ht
              exact isi_exc x1 KS p (beq_iff_eq.mp x3) hq
      | _ => cases hi
  blt := fun f v e => by
    have fr := fun (x : Str) (hx : x ∈ bnames) => free_of T (List.all_eq_true.mp c_free x hx)
    obtain ⟨b1, b2, b3, b4, b5, b6, b7, b8, b9, b10, b11⟩ := c_boot
    unfold bval at e
    cases q1 : (f == "len") with
    | true => rw [q1] at e; cases e; have := beq_iff_eq.mp q1; subst this; exact ⟨fr _ (by decide +kernel), by rw [T.builtins _ (by decide), b1]⟩
    | false =>
    rw [q1] at e; simp only [cond_false] at e
    cases q2 : (f == "isinstance") with
    | true => rw [q2] at e; cases e; have := beq_iff_eq.mp q2; subst this; exact ⟨fr _ (by decide +kernel), by rw [T.builtins _ (by decide), b2]⟩
    | false =>
    rw [q2] at e; simp only [cond_false] at e
    cases q3 : (f == "int") with
    | true => rw [q3] at e; cases e; have := beq_iff_eq.mp q3; subst this; exact ⟨fr _ (by decide +kernel), by rw [T.builtins _ (by decide), b3]⟩
    | false =>
    rw [q3] at e; simp only [cond_false] at e
    cases q4 : (f == "tuple") with
    | true => rw [q4] at e; cases e; have := beq_iff_eq.mp q4; subst this; exact ⟨fr _ (by decide +kernel), by rw [T.builtins _ (by decide), b4]⟩
    | false =>
    rw [q4] at e; simp only [cond_false] at e
    cases q5 : (f == "list") with
    | true => rw [q5] at e; cases e; have := beq_iff_eq.mp q5; subst this; exact ⟨fr _ (by decide +kernel), by rw [T.builtins _ (by decide), b5]⟩
    | false =>
    rw [q5] at e; simp only [cond_false] at e
    cases q6 : (f == "max") with
    | true => rw [q6] at e; cases e; have := beq_iff_eq.mp q6; subst this; exact ⟨fr _ (by decide +kernel), by rw [T.builtins _ (by decide), b6]⟩
    | false =>
    rw [q6] at e; simp only [cond_false] at e
    cases q7 : (f == "sorted") with
    | true => rw [q7] at e; cases e; have := beq_iff_eq.mp q7; subst this; exact ⟨fr _ (by decide +kernel), by rw [T.builtins _ (by decide), b7]⟩
    | false =>
    rw [q7] at e; simp only [cond_false] at e
    cases q8 : (f == "dict") with
    | true => rw [q8] at e; cases e; have := beq_iff_eq.mp q8; subst this; exact ⟨fr _ (by decide +kernel), by rw [T.builtins _ (by decide), b8]⟩
    | false => rw [q8] at e; cases e
  known := fun g e => by
    simp only [PP, Bool.or_eq_true] at e
    rcases e with e | e
    · refine .inl ?_
      have hm : g ∈ blts := by simpa using e
      simp only [blts, List.mem_cons, List.not_mem_nil, or_false] at hm
      rcases hm with rfl | rfl | rfl | rfl | rfl | rfl | rfl | rfl <;> exact ⟨_, rfl⟩
    · refine .inr ?_
      obtain ⟨t, ht⟩ := Option.isSome_iff_exists.mp e
      obtain ⟨ps, body, sc⟩ := t
      obtain ⟨d, hd, hn, _, _, _, hf⟩ := rec_of (f := g) (ps := ps) (body := body) (sc := sc) ht
      obtain ⟨a, o, pm, code, doc, h1, h2, h3, h4⟩ := T.fn d hd
      rw [hn] at h1
      unfold recFine at hf
      simp only [Bool.and_eq_true] at hf
      exact ⟨fun lv vs σ => notB_none (hn ▸ hf.2) lv vs σ, a, o, _, h1, h2, h3⟩
  range := by
    obtain ⟨_, _, _, _, _, _, _, _, b9, _, _⟩ := c_boot
    exact ⟨free_of T (List.all_eq_true.mp c_free "range" (by decide +kernel)), by rw [T.builtins _ (by decide), b9]⟩
  fn := fun f ps body sc a o fd e hm ho hd => by
    obtain ⟨d, hdm, hn, h1, h2, h3, hf⟩ := rec_of e
    obtain ⟨a', o', pm, code, doc, g1, g2, g3, g4⟩ := T.fn d hdm
    rw [hn, hm] at g1; cases g1
    rw [show h.get? a = some o from ho] at g2; cases g2
    rw [hd] at g3; cases g3
    unfold recFine at hf
    simp only [Bool.and_eq_true, List.isEmpty_iff, Option.isNone_iff_eq_none] at hf
    obtain ⟨⟨⟨⟨⟨f1, f2⟩, f3⟩, f4⟩, f5⟩, _⟩ := hf
    refine ⟨by rw [← h2]; rfl, h3, rfl, rfl, rfl, fun vals hl => ?_, g4⟩
    rw [← h1]
    exact bind_plain f1 f2 f3 f4 (distinct_nodup f5) vals (by rw [hl, ← h1, List.length_map])
  cls := fun c hc => by
    obtain ⟨a, ha⟩ := cls_mem hc
    have := List.all_eq_true.mp c_owns _ ha
    obtain ⟨o, ho, hq⟩ := List.any_eq_true.mp this
    simp only [Bool.and_eq_true, beq_iff_eq] at hq
    obtain ⟨⟨q1, q2⟩, q3⟩ := hq
    obtain ⟨C, O, _⟩ := T.own o ho
    rw [q1, q2, q3] at O
    have hb := O.bound
    rw [mg_cls T KX CG ha] at hb; cases hb
    exact ⟨a, _, _, "ValueError", _, _, "ValueError", _, _, tv_cls T KX CG ha, O.own, PySem.F.excBase_ValueError, by decide +kernel, PySem.F.excBase_ValueError⟩
  exm := fun A E s c t a oe C vt Q st ho hc htv hcl htt hq => by
    have KS : K.In s.heap := KX.keeps st
    have hm := tv_ref T KX CG htv
    have htt : tv10 mg mb t = some vt := htt
    obtain ⟨a', ha'⟩ := cls_mem hcl
    rw [tv_cls T KX CG ha'] at htt; cases htt
    have hall := List.all_eq_true.mp CE _ hm
    simp only [Bool.and_eq_true] at hall
    have y := List.all_eq_true.mp hall.1.2 _ ha'
    rw [Bool.and_eq_true] at y
    exact exm_exc KS ⟨oe, ho, hc⟩ (beq_iff_eq.mp y.1) hq
  typ := fun t ht => by
    have hm : t ∈ typs := by simpa [PP] using ht
    simp only [typs, List.mem_cons, List.not_mem_nil, or_false] at hm
    have fr := fun (x : Str) (hx : x ∈ bnames) => free_of T (List.all_eq_true.mp c_free x hx)
    obtain ⟨t1, t2, t3, t4⟩ := tv_type T
    have own : ∀ x ∈ clsA, ∃ v, tv10 mg mb x.1 = some v ∧ ((∃ n, v = .type n) ∨ ∃ C, v = .ref C) ∧ (mg x.1 = some v ∨ (mg x.1 = none ∧ mb x.1 = some v)) := fun x hx => ⟨.ref x.2, tv_cls T KX CG hx, .inr ⟨_, rfl⟩, .inl (mg_cls T KX CG hx)⟩
    rcases hm with rfl | rfl | rfl | rfl | rfl | rfl | rfl | rfl | rfl
    · exact ⟨_, t1, .inl ⟨_, rfl⟩, .inr ⟨fr _ (by decide +kernel), t1⟩⟩
    · exact ⟨_, t2, .inl ⟨_, rfl⟩, .inr ⟨fr _ (by decide +kernel), t2⟩⟩
    · exact ⟨_, t3, .inl ⟨_, rfl⟩, .inr ⟨fr _ (by decide +kernel), t3⟩⟩
    · exact ⟨_, t4, .inl ⟨_, rfl⟩, .inr ⟨fr _ (by decide +kernel), t4⟩⟩
    · exact own ("TreeError", 24) (by decide +kernel)
    · exact own ("NoKey", 37) (by decide +kernel)
    · exact own ("NoPlace", 49) (by decide +kernel)
    · exact own ("NotApart", 61) (by decide +kernel)
    · exact own ("NotRising", 73) (by decide +kernel)
end
end Mine

/- J5 -/
set_option tactic.hygienic true
/-! Mine: the law of claim 10, joined. -/
namespace Mine
open PySem PySem.Spec PySem.Calls PyProof.Rows PySem.W
set_option maxRecDepth 100000
set_option Elab.async false

theorem weightAll_mem : ∀ {ns : List Int} {x : Int}, x ∈ ns → PyData.weight (.int x) ≤ PyData.weightAll (ns.map .int)
  | [], _, h => by simp at h
  | y :: r, x, h => by
    simp only [List.map_cons, PyData.weightAll]
    rcases List.mem_cons.mp h with rfl | h
    · omega
    · have := weightAll_mem h; omega
theorem bd_of {ns : List Int} (h : (PyData.list (ns.map .int)).layable0 = true) : L.Bd ns := by
  unfold PyData.layable0 at h
  simp only [Bool.and_eq_true, decide_eq_true_eq] at h
  have hw := h.2
  simp only [PyData.weight] at hw
  intro k
  by_cases hk : k < ns.length
  · have e : ns.getD k 0 = ns[k] := by simp [hk]
    have hm : ns[k] ∈ ns := List.getElem_mem _
    have := weightAll_mem hm
    rw [e]
    simp only [PyData.weight] at this
    have hb : Builtin.Int.intBits ns[k] = if (ns[k] == 0) = true then 0 else ns[k].natAbs.log2 + 1 := rfl
    rw [hb]; omega
  · have e : ns.getD k 0 = 0 := by simp [hk]
    rw [e]; decide

theorem end10 {mean : ExcName → Option Value} {w : World} {s₁ : Shared} {mg mb : Str → Option Value} {fa : Addr} {o : Obj} {fd : FuncData} (prog : Program) (T : Top q10 (looseW q10 []) mean mg mb s₁.heap) {K : Frag} (KX : K.In s₁.heap) (CG : chkG K = true) (CE : chkE K = true) (CS : chkS K = true)
    (hmg : mg "law" = some (.ref fa)) (ho : s₁.heap.get? fa = some o) (hd : o.data = .func fd) {ns : List Int} {la : Addr} {vs : List Value} (hL : s₁.heap.IsList la vs.toArray) (hI : IntsAre vs ns) (hz : ¬ (((63 : Nat) : Int) < (ns.length : Int))) (hlay : (PyData.list (ns.map .int)).layable0 = true)
    {Q : Value → Shared → Prop} {E : Value → Shared → Prop} (hQ : ∀ s', s₁.heap.StaysIn s'.heap → s'.os = s₁.os → s'.gens = s₁.gens → Q (.bool true) s') : wpAny (model prog w) callerA (call (.ref fa) [.ref la]) Q E s₁ := by
  obtain ⟨σ', e⟩ := L.law_ok ns (by omega) (bd_of hlay) 100 (Nat.le_refl _)
  have G := gd10 (w := w) prog T KX CG CE CS
  have wd : Wd ⟨s₁.heap, tv10 mg mb⟩ [] [] s₁.heap := ⟨fun _ _ e => e, fun _ q => (nomatch q), .nil, rfl, fun n o e => by simp at e⟩
  have cl : Cl ⟨s₁.heap, tv10 mg mb⟩ 100 0 callerA [] [] [] s₁ := ⟨wd, rfl, fun _ q => (nomatch q), fun _ q => (nomatch q), ⟨by decide, by decide⟩, rfl⟩
  have ra : RepAll ⟨s₁.heap, tv10 mg mb⟩ [] s₁.heap [.ref la] [L.scr ns] := .cons (.frozen (by unfold bigN; omega) hL hI) .nil
  have := callOk G 100 callerA [] [] [] s₁ 0 "law" fa o fd [.ref la] [L.scr ns] cl hmg ho hd ra (by rw [e]; exact fun z => by cases z)
  refine wpAny_mono this (fun v s' q => ?_) fun x s' q => ?_
  · obtain ⟨a, σ₂, ρ', e1, af, rp⟩ := q
    rw [e] at e1; cases e1
    cases rp
    obtain ⟨h', tk, rfl⟩ := af.same
    exact hQ _ af.wd.stays rfl rfl
  · obtain ⟨c, σ₂, ρ', e1, _⟩ := q
    rw [e] at e1; cases e1
end Mine

open PySem PySem.W PyProof.Rows PySem.Calls PySem.Spec
set_option Elab.async false
set_option maxRecDepth 100000
set_option maxHeartbeats 8000000 in
theorem PySem.Challenge.cw_uf010032_10_holds : PySem.Challenge.rw_uf010032_10.Holds := by
  refine holds_law Mine.c_said fun said => ?_
  refine holds_open (q := Mine.q10) (loose := []) (Xt := fun s => xlAt Mine.q10 [] s && recOk (RowW.records (OpenRow.toRowW PySem.Challenge.rw_uf010032_10.row)) s) (XP := XL Mine.q10 []) (Yf := Hook.obs Mine.hook) (Ya := Hook.val Mine.hook) (YP := Hook.says Mine.hook) (N := 4152)
    Mine.left10 (Hook.of Mine.hook) (Hook.keeps Mine.hook) (fun s e => xl_of s (Bool.and_eq_true_iff.mp e).1) XL.keeps (by rfl) (by rfl) (by rfl) (fun s e => recFacts_of (Bool.and_eq_true_iff.mp e).2) (by rfl) said (by decide +kernel) ⟨rfl, rfl, rfl, rfl, rfl, by decide +kernel⟩ ?hw ?hc
  case hw => w_witness2
  intro w s₀ s₁ mg mb G Y fa o pm cd doc dV kV ho hd hcd hD hmg hg args vals as hpre hlay hrd hwl hlo
  obtain ⟨K, KX, CG, CE, CS⟩ := Y
  refine Ground.open G ?_
  intro T B D TE TW
  wrow_args hpre hlay hrd hwl hlo
  rename_i ns _ _ hlay1 _ _ _ _ la vs _ hL _ _ _ hI _ hz _
  refine Mine.end10 _ T KX CG CE CS hmg ho hd hL hI hz hlay1 fun s' hk hos hgn => ?_
  refine ⟨.inl ⟨.bool true, .bool true, [], rfl, ?_, .bool _, ?_, ?_⟩, ?_, hos, ?_⟩
  · exact fun _ => rfl
  · kernel_rfl
  · exact fun _ => ⟨.nil, fun _ z => (nomatch z)⟩
  · exact .of_keep hk
  · exact .of_eq (hgn.trans hg)
