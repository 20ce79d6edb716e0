import PyProof.Rows.All
import Wide.All
import OpenK.AllK
import Wide.FinOn
import KE.KTryMore
import PyProof.Rows.Top
import PySem.Challenge.RW_uf010032_13
set_option Elab.async false
set_option linter.all false

namespace Mine
/-- a goal behind a letter: the letter is what the case splits repeat -/
theorem cps {P : Prop} (h : ∀ G : Prop, (P → G) → G) : P := h P id
end Mine
local macro_rules
  | `(tactic| obtain $pat:rcasesPatMed := $e:term) => `(tactic| (refine Mine.cps fun G k => ?_; (rcases $e:term with $pat) <;> (refine k ?_; clear k G)))
local macro_rules
  | `(tactic| omega) => `(tactic| first | lia | omega +splitDisjunctions)


/- NP -/
set_option tactic.hygienic false
/-! Mine: a mini-interpreter over the model's AST, by continuations. -/
namespace Mine
open PySem
set_option genSizeOf false
set_option genInjectivity false

set_option genInjectivity true in
inductive AV where
  | none
  | bool (b : Bool)
  | int (i : Int)
  | str (s : Str)
  | tup (xs : List AV)
  | ref (n : Nat)
  | frozen (ns : List Int)
  | typ (t : Str)
  | sl (a b : Option Int)

inductive AO where
  | list (xs : List AV)
  | dict (es : List (Int × AV))

abbrev Sto := List AO
abbrev Loc := List (Str × AV)

set_option genInjectivity true in
inductive Out (α : Type) where
  | ok (a : α) (σ : Sto)
  | exc (c : Str) (σ : Sto)
  | bad

inductive Fl where
  | next
  | ret (v : AV)

set_option genInjectivity true in
inductive OutS where
  | ok (f : Fl) (l : Loc) (σ : Sto)
  | exc (c : Str) (l : Loc) (σ : Sto)
  | bad

/-! continuations -/
structure Kt (R : Type) where
  ret : AV → Loc → Sto → R
  exc : Str → Loc → Sto → R
  bad : R
structure Ke (R : Type) where
  exc : Str → Sto → R
  bad : R
noncomputable def Kt.e {R : Type} (t : Kt R) (l : Loc) : Ke R := ⟨fun c σ => t.exc c l σ, t.bad⟩
noncomputable def pk {α R : Type} (t : Ke R) (o : Out α) (k : α → Sto → R) : R := match o with
  | .ok a σ => k a σ
  | .exc c σ => t.exc c σ
  | .bad => t.bad
/-- what must not raise -/
noncomputable def pb {α R : Type} (t : Ke R) (o : Out α) (k : α → Sto → R) : R := match o with
  | .ok a σ => k a σ
  | .exc _ _ => t.bad
  | .bad => t.bad
noncomputable def sk {R : Type} (t : Kt R) (o : OutS) (k : Loc → Sto → R) : R := match o with
  | .ok f l σ => (match f with
    | .next => k l σ
    | .ret v => t.ret v l σ)
  | .exc c l σ => t.exc c l σ
  | .bad => t.bad
noncomputable def ktS : Kt OutS := ⟨fun v l σ => .ok (.ret v) l σ, .exc, .bad⟩
noncomputable def ktO : Kt (Out AV) := ⟨fun v _ σ => .ok v σ, fun c _ σ => .exc c σ, .bad⟩
noncomputable def eE (α : Type) : Ke (Out α) := ⟨fun c σ => .exc c σ, .bad⟩

/-- a piece of an expression's run: what it gives is handed on; it knows no other end -/
structure W (α : Type) where
  f : (R : Type) → Ke R → (α → Sto → R) → R
  nat : ∀ R t k, f R t k = pk t (f (Out α) (eE α) .ok) k
namespace W
variable {α β : Type}
noncomputable def run (x : W α) : Out α := x.f (Out α) (eE α) .ok
noncomputable def ok (a : α) (σ : Sto) : W α := ⟨fun _ _ k => k a σ, fun _ _ _ => rfl⟩
noncomputable def bad : W α := ⟨fun _ t _ => t.bad, fun _ _ _ => rfl⟩
theorem op_nat (o : Out α) (R : Type) (t : Ke R) (k : α → Sto → R) : pb t o k = pk t (pb (eE α) o .ok) k := by cases o <;> rfl
theorem call_nat (o : Out α) (R : Type) (t : Ke R) (k : α → Sto → R) : pk t o k = pk t (pk (eE α) o .ok) k := by cases o <;> rfl
noncomputable def op (o : Out α) : W α := ⟨fun _ t k => pb t o k, op_nat o⟩
noncomputable def call (o : Out α) : W α := ⟨fun _ t k => pk t o k, call_nat o⟩
theorem bind_aux (m : Out α) (g : α → Sto → W β) (R : Type) (t : Ke R) (k : β → Sto → R) :
    pk t m (fun a σ => (g a σ).f R t k) = pk t (pk (eE β) m fun a σ => (g a σ).f (Out β) (eE β) .ok) k := by
  cases m with
  | ok a σ => exact (g a σ).nat R t k
  | exc c σ => rfl
  | bad => rfl
theorem bind_nat (x : W α) (g : α → Sto → W β) (R : Type) (t : Ke R) (k : β → Sto → R) :
    x.f R t (fun a σ => (g a σ).f R t k) = pk t (x.f (Out β) (eE β) fun a σ => (g a σ).f (Out β) (eE β) .ok) k :=
  (x.nat R t _).trans ((bind_aux x.run g R t k).trans (congrArg (fun m => pk t m k) (x.nat (Out β) (eE β) _).symm))
noncomputable def bind (x : W α) (g : α → Sto → W β) : W β := ⟨fun R t k => x.f R t fun a σ => (g a σ).f R t k, bind_nat x g⟩
theorem cond_nat (b : Bool) (x y : W α) (R : Type) (t : Ke R) (k : α → Sto → R) :
    (bif b then x.f R t k else y.f R t k) = pk t (bif b then x.f (Out α) (eE α) .ok else y.f (Out α) (eE α) .ok) k := by
  cases b
  · exact y.nat R t k
  · exact x.nat R t k
noncomputable def cond (b : Bool) (x y : W α) : W α := ⟨fun R t k => bif b then x.f R t k else y.f R t k, cond_nat b x y⟩
end W

/-- a piece of a statement's run -/
structure WS where
  f : (R : Type) → Kt R → (Loc → Sto → R) → R
  nat : ∀ R t k, f R t k = sk t (f OutS ktS fun l σ => .ok .next l σ) k
namespace WS
variable {α : Type}
noncomputable def run (x : WS) : OutS := x.f OutS ktS fun l σ => .ok .next l σ
noncomputable def next (l : Loc) (σ : Sto) : WS := ⟨fun _ _ k => k l σ, fun _ _ _ => rfl⟩
noncomputable def ret (v : AV) (l : Loc) (σ : Sto) : WS := ⟨fun _ t _ => t.ret v l σ, fun _ _ _ => rfl⟩
noncomputable def exc (c : Str) (l : Loc) (σ : Sto) : WS := ⟨fun _ t _ => t.exc c l σ, fun _ _ _ => rfl⟩
noncomputable def bad : WS := ⟨fun _ t _ => t.bad, fun _ _ _ => rfl⟩
theorem out_nat (o : OutS) (R : Type) (t : Kt R) (k : Loc → Sto → R) : sk t o k = sk t (sk ktS o fun l σ => .ok .next l σ) k := by
  cases o with
  | ok f l σ => cases f <;> rfl
  | exc c l σ => rfl
  | bad => rfl
noncomputable def out (o : OutS) : WS := ⟨fun _ t k => sk t o k, out_nat o⟩
theorem of_aux (l : Loc) (m : Out α) (g : α → Sto → WS) (R : Type) (t : Kt R) (k : Loc → Sto → R) :
    pk (t.e l) m (fun a σ => (g a σ).f R t k) = sk t (pk (ktS.e l) m fun a σ => (g a σ).f OutS ktS fun l σ => .ok .next l σ) k := by
  cases m with
  | ok a σ => exact (g a σ).nat R t k
  | exc c σ => rfl
  | bad => rfl
theorem of_nat (x : W α) (l : Loc) (g : α → Sto → WS) (R : Type) (t : Kt R) (k : Loc → Sto → R) :
    x.f R (t.e l) (fun a σ => (g a σ).f R t k) = sk t (x.f OutS (ktS.e l) fun a σ => (g a σ).f OutS ktS fun l σ => .ok .next l σ) k :=
  (x.nat R _ _).trans ((of_aux l x.run g R t k).trans (congrArg (fun m => sk t m k) (x.nat OutS (ktS.e l) _).symm))
noncomputable def of (x : W α) (l : Loc) (g : α → Sto → WS) : WS := ⟨fun R t k => x.f R (t.e l) fun a σ => (g a σ).f R t k, of_nat x l g⟩
theorem seq_aux (m : OutS) (g : Loc → Sto → WS) (R : Type) (t : Kt R) (k : Loc → Sto → R) :
    sk t m (fun l σ => (g l σ).f R t k) = sk t (sk ktS m fun l σ => (g l σ).f OutS ktS fun l σ => .ok .next l σ) k := by
  cases m with
  | ok f l σ => cases f with
    | next => exact (g l σ).nat R t k
    | ret v => rfl
  | exc c l σ => rfl
  | bad => rfl
theorem seq_nat (x : WS) (g : Loc → Sto → WS) (R : Type) (t : Kt R) (k : Loc → Sto → R) :
    x.f R t (fun l σ => (g l σ).f R t k) = sk t (x.f OutS ktS fun l σ => (g l σ).f OutS ktS fun l σ => .ok .next l σ) k :=
  (x.nat R _ _).trans ((seq_aux x.run g R t k).trans (congrArg (fun m => sk t m k) (x.nat OutS ktS _).symm))
noncomputable def seq (x : WS) (g : Loc → Sto → WS) : WS := ⟨fun R t k => x.f R t fun l σ => (g l σ).f R t k, seq_nat x g⟩
theorem cond_nat (b : Bool) (x y : WS) (R : Type) (t : Kt R) (k : Loc → Sto → R) :
    (bif b then x.f R t k else y.f R t k) = sk t (bif b then x.f OutS ktS fun l σ => .ok .next l σ else y.f OutS ktS fun l σ => .ok .next l σ) k := by
  cases b
  · exact y.nat R t k
  · exact x.nat R t k
noncomputable def cond (b : Bool) (x y : WS) : WS := ⟨fun R t k => bif b then x.f R t k else y.f R t k, cond_nat b x y⟩
end WS

/-! names -/
noncomputable def setL (x : Str) (v : AV) : Loc → Loc
  | [] => [(x, v)]
  | (y, w) :: r => bif y == x then (y, v) :: r else (y, w) :: setL x v r
noncomputable def getL (x : Str) : Loc → Option AV
  | [] => Option.none
  | (y, w) :: r => bif y == x then some w else getL x r

noncomputable def kLoc : Option NameKind → Bool
  | some .local => true
  | some .cell => true
  | some .free => true
  | _ => false
noncomputable def kCell : Option NameKind → Bool
  | some .cell => true
  | some .free => true
  | _ => false
noncomputable def isLoc (sc : Scope) (x : Str) : Bool := !(x == ".0") && kLoc (sc.names.lookup x)
noncomputable def isCell (sc : Scope) (x : Str) : Bool := kCell (sc.names.lookup x)
noncomputable def isGlob (sc : Scope) (x : Str) : Bool := sc.names.lookup x == some .globalImplicit
noncomputable def isLocal (sc : Scope) (x : Str) : Bool := sc.names.lookup x == some .local

/-- the length that no list or text here passes -/
noncomputable def bigN : Nat := 2 ^ 20

noncomputable def listOf? (σ : Sto) (n : Nat) : Option (List AV) := match σ[n]? with
  | some o => (match o with
    | .list xs => some xs
    | .dict _ => Option.none)
  | Option.none => Option.none
noncomputable def dictOf? (σ : Sto) (n : Nat) : Option (List (Int × AV)) := match σ[n]? with
  | some o => (match o with
    | .list _ => Option.none
    | .dict es => some es)
  | Option.none => Option.none

noncomputable def optA {α : Type} (r : Option α) (σ : Sto) : Out α := match r with
  | some v => .ok v σ
  | Option.none => .bad
noncomputable def newL (xs : List AV) (σ : Sto) : Out AV := bif Nat.ble xs.length bigN then .ok (.ref σ.length) (σ ++ [.list xs]) else .bad
noncomputable def small (x : Int) : Bool := decide (x.natAbs < 2 ^ 1000)

noncomputable def intR {α : Type} (b : AV) (f : Int → Out α) : Out α := match b with
  | .int y => f y
  | _ => .bad
noncomputable def strR (b : AV) (f : Str → Out AV) : Out AV := match b with
  | .str y => f y
  | _ => .bad
noncomputable def refR {α : Type} (b : AV) (f : Nat → Out α) : Out α := match b with
  | .ref n => f n
  | _ => .bad
noncomputable def optR {α β : Type} (r : Option β) (f : β → Out α) : Out α := match r with
  | some ys => f ys
  | Option.none => .bad
noncomputable def lstR {α : Type} (σ : Sto) (b : AV) (f : List AV → Out α) : Out α := refR b fun n => optR (listOf? σ n) f
noncomputable def dicR (σ : Sto) (b : AV) (f : List (Int × AV) → Out AV) : Out AV := refR b fun n => optR (dictOf? σ n) f

noncomputable def truthO (v : AV) (σ : Sto) : Out Bool := match v with
  | .none => .ok false σ
  | .bool b => .ok b σ
  | v => lstR σ v fun xs => .ok (!xs.isEmpty) σ

noncomputable def addA (a b : AV) (σ : Sto) : Out AV := match a with
  | .int x => intR b fun y => .ok (.int (x + y)) σ
  | .str x => strR b fun y => bif Nat.ble (x.length + y.length) bigN then .ok (.str (x ++ y)) σ else .bad
  | a => lstR σ a fun xs => lstR σ b fun ys => newL (xs ++ ys) σ
noncomputable def mulA (a b : AV) (σ : Sto) : Out AV := match a with
  | .int x => intR b fun y => bif small x && small y then .ok (.int (x * y)) σ else .bad
  | .str x => intR b fun y => bif decide (y = 3) && Nat.ble x.length bigN then .ok (.str (Txt.mul x y)) σ else .bad
  | a => lstR σ a fun xs => intR b fun y => bif Nat.ble xs.length 1 && decide (0 ≤ y) && decide (y ≤ 100) then newL (List.replicate y.toNat xs).flatten σ else .bad
noncomputable def binop (op : Operator) (a b : AV) (σ : Sto) : Out AV := match op with
  | .Add => addA a b σ
  | .Sub => intR a fun x => intR b fun y => .ok (.int (x - y)) σ
  | .Mult => mulA a b σ
  | .Mod => intR a fun x => intR b fun y => bif decide (0 < y) then .ok (.int (x.fmod y)) σ else .bad
  | .FloorDiv => intR a fun x => intR b fun y => bif decide (0 < y) && small y then .ok (.int (x.fdiv y)) σ else .bad
  | .Pow => intR a fun x => intR b fun y => bif decide (0 < y) && decide ((Builtin.Int.intBits x : Int) * y ≤ 2 ^ 27) then .ok (.int (x ^ y.toNat)) σ else .bad
  | _ => .bad

/-- AV as plain data, where it may be compared by == : scalars, tuples and lists of such -/
noncomputable def allP (f : AV → Option PyData) : List AV → Option (List PyData)
  | [] => some []
  | x :: r => (f x).bind fun p => (allP f r).map fun ps => p :: ps
noncomputable def plainD (σ : Sto) : Nat → AV → Option PyData
  | 0 => fun _ => Option.none
  | d + 1 => fun v => match v with
    | .none => some .none
    | .bool b => some (.bool b)
    | .int i => some (.int i)
    | .str s => bif PyData.strOk s then some (.str s) else Option.none
    | .tup xs => (allP (plainD σ d) xs).map .tuple
    | .ref n => (listOf? σ n).bind fun xs => (allP (plainD σ d) xs).map .list
    | _ => Option.none
noncomputable def eqv (σ : Sto) (a b : AV) : Option Bool := (plainD σ 16 a).bind fun x => (plainD σ 16 b).map fun y => PyData.eqv x y

noncomputable def isNone : AV → Bool
  | .none => true
  | _ => false

noncomputable def dictGet (k : Int) : List (Int × AV) → Option AV
  | [] => Option.none
  | (j, v) :: r => bif j == k then some v else dictGet k r
noncomputable def dictPutL (k : Int) (v : AV) : List (Int × AV) → List (Int × AV)
  | [] => [(k, v)]
  | (j, w) :: r => bif j == k then (j, v) :: r else (j, w) :: dictPutL k v r

noncomputable def cmpop (op : CmpOp) (a b : AV) (σ : Sto) : Out AV := match op with
  | .Is => bif isNone b then .ok (.bool (isNone a)) σ else .bad
  | .IsNot => bif isNone b then .ok (.bool (!isNone a)) σ else .bad
  | .Eq => optR (eqv σ a b) fun r => .ok (.bool r) σ
  | .NotEq => optR (eqv σ a b) fun r => .ok (.bool (!r)) σ
  | .Lt => intR a fun x => intR b fun y => .ok (.bool (decide (x < y))) σ
  | .LtE => intR a fun x => intR b fun y => .ok (.bool (decide (x ≤ y))) σ
  | .Gt => intR a fun x => intR b fun y => .ok (.bool (decide (x > y))) σ
  | .GtE => intR a fun x => intR b fun y => .ok (.bool (decide (x ≥ y))) σ
  | .In => intR a fun x => dicR σ b fun es => .ok (.bool (dictGet x es).isSome) σ
  | .NotIn => intR a fun x => dicR σ b fun es => .ok (.bool (!(dictGet x es).isSome)) σ

noncomputable def unop (op : UnaryOp) (a : AV) (σ : Sto) : Out AV := match op with
  | .USub => intR a fun x => .ok (.int (-x)) σ
  | .Not => (match truthO a σ with
    | .ok b _ => .ok (.bool (!b)) σ
    | .exc _ _ => .bad
    | .bad => .bad)
  | _ => .bad

noncomputable def at? (xs : List AV) (i : Int) : Option AV := bif decide (0 ≤ i) then xs[i.toNat]? else bif decide (0 ≤ i + xs.length) then xs[(i + xs.length).toNat]? else Option.none

noncomputable def part? : AV → Option (Option Int)
  | .none => some Option.none
  | .int i => some (some i)
  | _ => Option.none
noncomputable def slA (a b : AV) (σ : Sto) : Out AV := optR (part? a) fun x => optR (part? b) fun y => .ok (.sl x y) σ

/-- o[k] -/
noncomputable def itemI (o : AV) (k : Int) (σ : Sto) : Out AV := match o with
  | .tup xs => bif decide (0 ≤ k) then optA (xs[k.toNat]?) σ else .bad
  | .ref n => optR (σ[n]?) fun ob => (match ob with
    | .list xs => optA (at? xs k) σ
    | .dict es => optA (dictGet k es) σ)
  | _ => .bad
noncomputable def item (o i : AV) (σ : Sto) : Out AV := match i with
  | .int k => itemI o k σ
  | .sl a b => strR o fun x => bif Nat.ble x.length bigN then .ok (.str (Txt.slice x a b)) σ else .bad
  | _ => .bad

/-- o[i] = v -/
noncomputable def setItem (o i v : AV) (σ : Sto) : Out Unit := intR i fun k => refR o fun n => optR (σ[n]?) fun ob => match ob with
  | .list xs => bif decide (0 ≤ k) && decide (k < xs.length) then .ok () (σ.set n (.list (xs.set k.toNat v))) else .bad
  | .dict es => bif Nat.ble es.length bigN then .ok () (σ.set n (.dict (dictPutL k v es))) else .bad

noncomputable def append (o v : AV) (σ : Sto) : Out AV := refR o fun n => optR (listOf? σ n) fun xs => bif Nat.ble xs.length bigN then .ok .none (σ.set n (.list (xs ++ [v]))) else .bad

noncomputable def intOf? : AV → Option Int
  | .int i => some i
  | _ => Option.none
noncomputable def tupOf? : AV → Option (List AV)
  | .tup xs => some xs
  | _ => Option.none
noncomputable def pairOf? (v : AV) : Option (Int × AV) := (tupOf? v).bind fun xs => match xs with
  | [] => Option.none
  | k :: r => (intOf? k).bind fun k => match r with
    | [] => Option.none
    | x :: q => bif q.isEmpty then some (k, x) else Option.none
noncomputable def mapO {α : Type} (f : AV → Option α) : List AV → Option (List α)
  | [] => some []
  | x :: r => (f x).bind fun p => (mapO f r).map fun ps => p :: ps

noncomputable def dictFrom (ps : List (Int × AV)) : List (Int × AV) := ps.foldl (fun d p => dictPutL p.1 p.2 d) []

/-- what a program is to the interpreter -/
structure Prog where
  /-- parameters, body, table of names -/
  fn : Str → Option (List Str × List Stmt × Scope)
  /-- an exception class that the text may raise -/
  cls : Str → Bool
  /-- the class above all of them -/
  top : Str
  /-- a function, its own or built in, stands at this name -/
  known : Str → Bool

noncomputable def typeNo : AV → Option Nat
  | .none => some 0
  | .bool _ => some 1
  | .int _ => some 2
  | .str _ => some 3
  | .tup _ => some 4
  | _ => Option.none
noncomputable def isInst (t : Str) (k : Nat) : Option Bool :=
  bif t == "int" then some (k == 1 || k == 2) else bif t == "bool" then some (k == 1) else bif t == "tuple" then some (k == 4) else Option.none

noncomputable def arg1 (vs : List AV) (f : AV → Out AV) : Out AV := match vs with
  | [] => .bad
  | v :: r => (match r with
    | [] => f v
    | _ :: _ => .bad)
noncomputable def typR (b : AV) (f : Str → Out AV) : Out AV := match b with
  | .typ y => f y
  | _ => .bad
noncomputable def lenA (vs : List AV) (σ : Sto) : Out AV := arg1 vs fun v => match v with
  | .tup xs => .ok (.int xs.length) σ
  | v => lstR σ v fun xs => .ok (.int xs.length) σ
noncomputable def isiA (vs : List AV) (σ : Sto) : Out AV := match vs with
  | [] => .bad
  | v :: r => arg1 r fun t => typR t fun t => optR (typeNo v) fun k => optR (isInst t k) fun b => .ok (.bool b) σ
noncomputable def intA (vs : List AV) (σ : Sto) : Out AV := arg1 vs fun v => match v with
  | .bool b => .ok (.int (bif b then 1 else 0)) σ
  | _ => .bad
noncomputable def tupleA (vs : List AV) (σ : Sto) : Out AV := arg1 vs fun v => lstR σ v fun xs => bif Nat.ble xs.length bigN then .ok (.tup xs) σ else .bad
/-- two rising stretches, one behind the other -/
noncomputable def two (is : List Int) : Bool := (List.range (is.length + 1)).any fun n => decide ((is.take n).Pairwise (· < ·)) && decide ((is.drop n).Pairwise (· < ·))
noncomputable def sortA (vs : List AV) (σ : Sto) : Out AV := arg1 vs fun v => lstR σ v fun xs => optR (mapO intOf? xs) fun is => bif two is then newL ((is.mergeSort fun a b => decide (a ≤ b)).map .int) σ else .bad
noncomputable def dictA (vs : List AV) (σ : Sto) : Out AV := arg1 vs fun v => lstR σ v fun xs => optR (mapO pairOf? xs) fun ps => bif Nat.ble ps.length bigN then .ok (.ref σ.length) (σ ++ [.dict (dictFrom ps)]) else .bad

/-- the built-ins: name, value, what they do -/
structure Bl where
  name : Str
  val : Value
  act : List AV → Sto → Out AV
noncomputable def blts : List Bl := [⟨"len", .builtin "len", lenA⟩, ⟨"isinstance", .builtin "isinstance", isiA⟩, ⟨"int", .type "int", intA⟩, ⟨"tuple", .type "tuple", tupleA⟩, ⟨"sorted", .builtin "sorted", sortA⟩, ⟨"dict", .type "dict", dictA⟩]
noncomputable def findB (g : Str) : List Bl → Option Bl
  | [] => Option.none
  | b :: r => bif b.name == g then some b else findB g r

abbrev Calls := Str → List AV → Sto → Out AV

noncomputable def callW (cf : Calls) (g : Str) (vs : List AV) (σ : Sto) : W AV := match findB g blts with
  | some b => .op (b.act vs σ)
  | Option.none => .call (cf g vs σ)

/-! loops -/
inductive Src where
  | items (xs : List AV)
  | lst (n : Nat)
noncomputable def rangeL (a b : Int) : List AV := (List.range (b - a).toNat).map fun (i : Nat) => .int (a + (i : Int))
noncomputable def srcOf (v : AV) (σ : Sto) : Out Src := match v with
  | .ref n => optR (listOf? σ n) fun _ => .ok (.lst n) σ
  | .frozen ns => .ok (.items (ns.map .int)) σ
  | _ => .bad
noncomputable def rangeOf2 (a b : Int) (σ : Sto) : Out Src := bif decide (0 ≤ a) && decide (a ≤ 2 ^ 40) && decide (-(2 ^ 40) ≤ b) && decide (b ≤ 2 ^ 40) then .ok (.items (rangeL a b)) σ else .bad
noncomputable def rangeOf (vs : List AV) (σ : Sto) : Out Src := match vs with
  | [] => .bad
  | a :: r => intR a fun a => (match r with
    | [] => rangeOf2 0 a σ
    | b :: q => intR b fun b => bif q.isEmpty then rangeOf2 a b σ else .bad)
/-- the item at a place, if it may be asked for -/
noncomputable def srcAt (σ : Sto) (i : Nat) : Src → Option (Option AV)
  | .items xs => some xs[i]?
  | .lst n => (listOf? σ n).map fun xs => xs[i]?

noncomputable def andThen (m : OutS) (f : Loc → Sto → OutS) : OutS := match m with
  | .ok fl l σ => (match fl with
    | .next => f l σ
    | .ret v => .ok (.ret v) l σ)
  | .exc c l σ => .exc c l σ
  | .bad => .bad
noncomputable def forS (body : AV → Loc → Sto → OutS) (src : Src) : Nat → Nat → Loc → Sto → OutS
  | 0, _, _, _ => .bad
  | f + 1, i, l, σ => match srcAt σ i src with
    | Option.none => .bad
    | some x => (match x with
      | Option.none => .ok .next l σ
      | some v => andThen (body v l σ) (forS body src f (i + 1)))
/-- turns of a comprehension: the element, or none where the test fails -/
noncomputable def cpS (elt : AV → Sto → Out (Option AV)) (src : Src) : Nat → Nat → List AV → Sto → Out (List AV)
  | 0, _, _, _ => .bad
  | f + 1, i, acc, σ => match srcAt σ i src with
    | Option.none => .bad
    | some x => (match x with
      | Option.none => .ok acc σ
      | some v => (match elt v σ with
        | .ok y σ => (match y with
          | some y => bif Nat.ble acc.length bigN then cpS elt src f (i + 1) (acc ++ [y]) σ else .bad
          | Option.none => cpS elt src f (i + 1) acc σ)
        | .exc _ _ => .bad
        | .bad => .bad))
noncomputable def whileG (test : Loc → Sto → Out Bool) (body : Loc → Sto → OutS) : Nat → Loc → Sto → OutS
  | 0, _, _ => .bad
  | f + 1, l, σ => match test l σ with
    | .ok b σ => bif b then (match body l σ with
      | .ok fl l σ => (match fl with
        | .next => whileG test body f l σ
        | .ret _ => .bad)
      | .exc _ _ _ => .bad
      | .bad => .bad) else .ok .next l σ
    | .exc _ _ => .bad
    | .bad => .bad

/-! what a text may look like -/
/-- a table of names that may be a function's -/
noncomputable def tableFine (sc : Scope) : Bool := sc.kind == .function && !sc.isGenerator && !sc.isCoroutine && sc.names.all fun p => !(p.1 == "__debug__" || p.1 == "__classdict__" || p.2 == .globalExplicit)
noncomputable def kFine (sc csc : Scope) (k : Str) (p : Str × NameKind) : Bool := match p.2 with
  | .local => (p.1 == k || p.1 == ".0") && isLocal csc p.1
  | .free => isCell sc p.1
  | .globalImplicit => true
  | _ => false
/-- a table of names that may be a comprehension's over k, in a block with the table sc -/
noncomputable def scopeFine (sc csc : Scope) (k : Str) : Bool := tableFine csc && !(k == ".0") && isLocal csc k && csc.names.all (kFine sc csc k)
noncomputable def distinct : List Str → Bool
  | [] => true
  | x :: r => !r.contains x && distinct r
/-- a function's table, with its parameters -/
noncomputable def fnFine (ps : List Str) (sc : Scope) : Bool := tableFine sc && distinct (sc.names.map (·.1)) && distinct ps && (ps.all fun x => isLoc sc x) && sc.names.all fun p => !(p.2 == .free)

noncomputable def types : List Str := ["int", "bool", "tuple"]
noncomputable def evName (sc : Scope) (x : Str) (l : Loc) : Option AV := bif isLoc sc x then getL x l else bif isGlob sc x && types.contains x then some (.typ x) else Option.none
noncomputable def constA : Const → Option AV
  | .none => some .none
  | .bool b => some (.bool b)
  | .int i => some (.int i)
  | .str s => bif PyData.strOk s then some (.str s) else Option.none
  | _ => Option.none
noncomputable def tupA (vs : List AV) (σ : Sto) : Out AV := bif Nat.ble vs.length bigN then .ok (.tup vs) σ else .bad

/-- kinds of expressions: 1 starred, 2 a set, 3 a comprehension in brackets, 4 and 5 a value looked at, 5 a place -/
noncomputable def kx : Expr → Nat
  | .Starred _ _ => 1
  | .Set _ _ _ => 2
  | .ListComp _ _ _ _ => 3
  | .SetComp _ _ _ _ => 3
  | .DictComp _ _ _ _ _ => 3
  | .Compare _ _ _ _ => 4
  | .Call _ _ _ _ => 4
  | .Name _ _ => 5
  | .Subscript _ _ _ => 5
  | _ => 0
noncomputable def noStar (e : Expr) : Bool := !(kx e == 1)
noncomputable def notSet (e : Expr) : Bool := !(kx e == 2)
noncomputable def notComp (e : Expr) : Bool := !(kx e == 3)
/-- a test that is a value looked at -/
noncomputable def plainT (e : Expr) : Bool := Nat.ble 4 (kx e)
noncomputable def plainS (e : Expr) : Bool := Nat.ble 5 (kx e)
noncomputable def nameX : Expr → Option Str
  | .Name c _ => some c
  | _ => Option.none
noncomputable def one? {α : Type} : List α → Option α
  | [] => Option.none
  | x :: r => bif r.isEmpty then some x else Option.none
noncomputable def optW {α β : Type} (r : Option β) (f : β → W α) : W α := match r with
  | some y => f y
  | Option.none => .bad
noncomputable def optS {β : Type} (r : Option β) (f : β → WS) : WS := match r with
  | some y => f y
  | Option.none => .bad

/-! expressions -/
/-- the interpreter one step down -/
structure Ev where
  v : Scope → Expr → Loc → Sto → W AV
  t : Scope → Expr → Loc → Sto → W Bool

noncomputable def noStars (es : List Expr) : Bool := es.all noStar
noncomputable def evsW (E : Ev) (sc : Scope) (l : Loc) : List Expr → Sto → W (List AV)
  | [], σ => .ok [] σ
  | e :: r, σ => .cond (noStars (e :: r)) ((E.v sc e l σ).bind fun v σ => (evsW E sc l r σ).bind fun vs σ => .ok (v :: vs) σ) .bad
noncomputable def evOptW (E : Ev) (sc : Scope) (x : Option Expr) (l : Loc) (σ : Sto) : W AV := match x with
  | Option.none => .ok .none σ
  | some e => E.v sc e l σ
noncomputable def evBoolW (E : Ev) (sc : Scope) (op : BoolOp) (l : Loc) : List Expr → Sto → W AV
  | [], _ => .bad
  | e :: r, σ => match r with
    | [] => E.v sc e l σ
    | _ :: _ => (E.v sc e l σ).bind fun v σ => (W.op (truthO v σ)).bind fun b σ => match op with
      | .And => .cond b (evBoolW E sc op l r σ) (.ok v σ)
      | .Or => .cond b (.ok v σ) (evBoolW E sc op l r σ)
noncomputable def evTsW (E : Ev) (sc : Scope) (op : BoolOp) (l : Loc) : List Expr → Sto → W Bool
  | [], σ => .ok (match op with | .And => true | .Or => false) σ
  | e :: r, σ => (E.t sc e l σ).bind fun b σ => match op with
    | .And => .cond b (evTsW E sc op l r σ) (.ok false σ)
    | .Or => .cond b (.ok true σ) (evTsW E sc op l r σ)
noncomputable def rangeX : Expr → Option (Str × List Expr)
  | .Call f es ks _ => (nameX f).bind fun g => bif ks.isEmpty then some (g, es) else Option.none
  | _ => Option.none
noncomputable def evSrcW (E : Ev) (sc : Scope) (e : Expr) (l : Loc) (σ : Sto) : W Src := match rangeX e with
  | some (g, es) => .cond (isGlob sc g && g == "range") ((evsW E sc l es σ).bind fun vs σ => .op (rangeOf vs σ)) .bad
  | Option.none => .cond (plainS e) ((E.v sc e l σ).bind fun v σ => .op (srcOf v σ)) .bad
/-- the tests of a comprehension (none or one) -/
noncomputable def evIfsW (E : Ev) (sc : Scope) (ifs : List Expr) (l : Loc) (σ : Sto) : W Bool := match ifs with
  | [] => .ok true σ
  | e :: r => .cond r.isEmpty (E.t sc e l σ) .bad
noncomputable def cpW (E : Ev) (csc : Scope) (ifs : List Expr) (elt : Expr) (l : Loc) (σ : Sto) : W (Option AV) :=
  (evIfsW E csc ifs l σ).bind fun b σ => .cond b ((E.v csc elt l σ).bind fun y σ => .ok (some y) σ) (.ok Option.none σ)
noncomputable def compW (E : Ev) (sc csc : Scope) (elt : Expr) (g : Comprehension) (l : Loc) (σ : Sto) : W AV := optW (nameX g.target) fun k =>
  .cond (g.is_async == 0 && scopeFine sc csc k) ((evSrcW E sc g.iter l σ).bind fun s σ => (W.op (cpS (fun v σ => (cpW E csc g.ifs elt ((k, v) :: l) σ).run) s bigN 0 [] σ)).bind fun xs σ => .op (newL xs σ)) .bad
noncomputable def methW (E : Ev) (sc : Scope) (o : Expr) (m : Str) (apos pos : Pos) (es : List Expr) (l : Loc) (σ : Sto) : W AV := optW (nameX o) fun o => .cond (m == "append" && (apos.endLine == pos.line) && isLoc sc o) (optW (one? es) fun e => .cond (noStar e)
  (optW (getL o l) fun x => (W.op (lstR σ x fun _ => .ok () σ)).bind fun _ σ => (E.v sc e l σ).bind fun v σ => .op (append x v σ)) .bad) .bad

noncomputable def evW (P : Prog) (cf : Calls) (E : Ev) (sc : Scope) (e : Expr) (l : Loc) (σ : Sto) : W AV := match e with
  | .Constant c _ _ => optW (constA c) fun v => .ok v σ
  | .Name x _ => optW (evName sc x l) fun v => .ok v σ
  | .BoolOp op vs _ => evBoolW E sc op l vs σ
  | .UnaryOp op x _ => (E.v sc x l σ).bind fun v σ => .op (unop op v σ)
  | .BinOp a op b _ => (E.v sc a l σ).bind fun x σ => (E.v sc b l σ).bind fun y σ => .op (binop op x y σ)
  | .Compare a ops bs _ => optW (one? ops) fun op => optW (one? bs) fun b => .cond (notSet b) ((E.v sc a l σ).bind fun x σ => (E.v sc b l σ).bind fun y σ => .op (cmpop op x y σ)) .bad
  | .Slice lo hi st _ => .cond st.isNone ((evOptW E sc lo l σ).bind fun a σ => (evOptW E sc hi l σ).bind fun b σ => .op (slA a b σ)) .bad
  | .Subscript o i _ => (E.v sc o l σ).bind fun x σ => (E.v sc i l σ).bind fun k σ => .op (item x k σ)
  | .Tuple es _ _ => (evsW E sc l es σ).bind fun vs σ => .op (tupA vs σ)
  | .List es _ => (evsW E sc l es σ).bind fun vs σ => .op (newL vs σ)
  | .Dict ks vs _ => .cond (ks.isEmpty && vs.isEmpty) (.ok (.ref σ.length) (σ ++ [.dict []])) .bad
  | .ListComp elt gs csc _ => optW (one? gs) fun g => compW E sc csc elt g l σ
  | .Call f es ks pos => .cond ks.isEmpty (match f with
    | .Name g _ => .cond (isGlob sc g && P.known g) ((evsW E sc l es σ).bind fun vs σ => callW cf g vs σ) .bad
    | .Attribute o m apos => methW E sc o m apos pos es l σ
    | _ => .bad) .bad
  | _ => .bad
noncomputable def evTW (E : Ev) (sc : Scope) (e : Expr) (l : Loc) (σ : Sto) : W Bool := match e with
  | .UnaryOp op x _ => (match op with
    | .Not => (E.t sc x l σ).bind fun b σ => .ok (!b) σ
    | _ => .bad)
  | .BoolOp op vs _ => evTsW E sc op l vs σ
  | .Compare a ops bs _ => optW (one? ops) fun op => optW (one? bs) fun b => .cond (notSet b) ((E.v sc a l σ).bind fun x σ => (E.v sc b l σ).bind fun y σ => (W.op (cmpop op x y σ)).bind fun v σ => .op (truthO v σ)) .bad
  | e => .cond (plainT e) ((E.v sc e l σ).bind fun v σ => .op (truthO v σ)) .bad

noncomputable def lev (P : Prog) (cf : Calls) : Nat → Ev
  | 0 => ⟨fun _ _ _ _ => .bad, fun _ _ _ _ => .bad⟩
  | n + 1 => ⟨evW P cf (lev P cf n), evTW (lev P cf n)⟩

/-! statements -/
noncomputable def constX : Expr → Option Const
  | .Constant v _ _ => some v
  | _ => Option.none
noncomputable def isStr : Const → Bool
  | .str _ => true
  | _ => false
noncomputable def strX (e : Expr) : Bool := match constX e with
  | some v => isStr v
  | Option.none => false
/-- the class that a raise names -/
noncomputable def raiseN (P : Prog) (sc : Scope) (e : Expr) : Option Str := match e with
  | .Call f es ks _ => (nameX f).bind fun c => (one? es).bind fun x => bif isGlob sc c && P.cls c && (strX x && ks.isEmpty) then some c else Option.none
  | _ => Option.none
noncomputable def bindT (E : Ev) (sc : Scope) (tg : Expr) (v : AV) (l : Loc) (σ : Sto) : WS := match tg with
  | .Name x _ => .cond (isLoc sc x) (.next (setL x v l) σ) .bad
  | .Subscript o i _ => .of (E.v sc o l σ) l fun ov σ => .of (E.v sc i l σ) l fun iv σ => .of (.op (setItem ov iv v σ)) l fun _ σ => .next l σ
  | _ => .bad
/-- what may be assigned to -/
noncomputable def okT (sc : Scope) : Expr → Bool
  | .Name x _ => isLoc sc x
  | .Subscript _ _ _ => true
  | _ => false
/-- x = constant -/
noncomputable def setX (sc : Scope) (s : Stmt) : Option (Str × Const) := match s with
  | .Assign ts e _ => (one? ts).bind fun t => (nameX t).bind fun x => (constX e).bind fun c => bif isLoc sc x then some (x, c) else Option.none
  | _ => Option.none
/-- a try's one clause -/
noncomputable def clauseX (P : Prog) (sc : Scope) (h : ExceptHandler) : Option (Str × Const) := match h with
  | .ExceptHandler ty nm b _ => ty.bind fun t => (nameX t).bind fun t => (one? b).bind fun s => bif t == P.top && isGlob sc t && nm.isNone then setX sc s else Option.none
noncomputable def tryO (o : OutS) (g : Loc → Sto → OutS) : OutS := match o with
  | .ok f l σ => .ok f l σ
  | .exc _ l σ => g l σ
  | .bad => .bad

abbrev Ex := Scope → Stmt → Loc → Sto → WS
noncomputable def exsW (X : Ex) (sc : Scope) : List Stmt → Loc → Sto → WS
  | [], l, σ => .next l σ
  | s :: r, l, σ => (X sc s l σ).seq fun l σ => exsW X sc r l σ
noncomputable def exW (P : Prog) (E : Ev) (X : Ex) (sc : Scope) (s : Stmt) (l : Loc) (σ : Sto) : WS := match s with
  | .If t b o _ => .of (.call (E.t sc t l σ).run) l fun c σ => .cond c (exsW X sc b l σ) (exsW X sc o l σ)
  | .Return e _ => optS e fun e => .of (E.v sc e l σ) l fun v σ => .ret v l σ
  | .Assign ts e _ => optS (one? ts) fun t => .cond (okT sc t) (.of (E.v sc e l σ) l fun v σ => bindT E sc t v l σ) .bad
  | .Expr e _ => .cond (notComp e) (.of (E.v sc e l σ) l fun _ σ => .next l σ) .bad
  | .While t b o _ => .cond o.isEmpty (.out (whileG (fun l σ => (E.t sc t l σ).run) (fun l σ => (exsW X sc b l σ).run) 1000 l σ)) .bad
  | .For tg it b o _ => optS (nameX tg) fun x => .cond (isLoc sc x && o.isEmpty) (.of (evSrcW E sc it l σ) l fun s σ => .out (forS (fun v l σ => (exsW X sc b (setL x v l) σ).run) s bigN 0 l σ)) .bad
  | .Raise e c _ => .cond c.isNone (optS (e.bind (raiseN P sc)) fun c => .exc c l σ) .bad
  | .Try b hs o f _ => .cond (o.isEmpty && f.isEmpty) (optS ((one? hs).bind (clauseX P sc)) fun xc => .out (tryO (exsW X sc b l σ).run fun l σ => (optS (constA xc.2) fun v => .next (setL xc.1 v l) σ).run)) .bad
  | _ => .bad
noncomputable def lex (P : Prog) (cf : Calls) : Nat → Ex
  | 0 => fun _ _ _ _ => .bad
  | n + 1 => exW P (lev P cf 24) (lex P cf n)

noncomputable def bodyW (P : Prog) (cf : Calls) (f : Str) (vs : List AV) (σ : Sto) : WS := optS (P.fn f) fun t => .cond (t.1.length == vs.length && fnFine t.1 t.2.2) (exsW (lex P cf 12) t.2.2 t.2.1 (t.1.zip vs) σ) .bad
noncomputable def callBody (P : Prog) (cf : Calls) (f : Str) (vs : List AV) (σ : Sto) : Out AV := (bodyW P cf f vs σ).f (Out AV) ktO fun _ σ => .ok .none σ
noncomputable def callN (P : Prog) : Nat → Calls
  | 0 => fun _ _ _ => .bad
  | n + 1 => callBody P (callN P n)

end Mine

/- P13 -/
set_option tactic.hygienic false
namespace Mine
open PySem
noncomputable def fnIn (f : Str) : List Stmt → Option (List Str × List Stmt × Scope)
  | [] => Option.none
  | s :: r => (match s with
    | .FunctionDef n a b _ _ _ sc _ _ _ => bif n == f then some (a.args.map (·.arg), b, sc) else fnIn f r
    | _ => fnIn f r)
noncomputable def clsNames : List Str := ["NoKey", "NotApart", "NotRising"]
noncomputable def PP : Prog where
  fn := fun f => fnIn f PySem.Challenge.pw_uf010032_13.main.body
  cls := fun c => clsNames.contains c
  top := "TreeError"
  known := fun f => (findB f blts).isSome || (fnIn f PySem.Challenge.pw_uf010032_13.main.body).isSome
end Mine

/- F13 -/
set_option tactic.hygienic false
namespace Mine
open PySem
set_option linter.unusedVariables false
set_option maxRecDepth 100000
/-- a continuation, kept out of simp's sight until it is reached -/
class Kn (α R : Type) where k : α → Sto → R
class Th (R : Type) where v : R
noncomputable def qk {α R : Type} (t : Ke R) (o : Out α) [f : Kn α R] : R := pk t o f.k
noncomputable def qb {α R : Type} (t : Ke R) (o : Out α) [f : Kn α R] : R := pb t o f.k
noncomputable def bq {R : Type} (c : Bool) [a : Th R] [b : Th R] : R := bif c then a.v else b.v
theorem size_of_K (cf : Calls) (tree_v : AV) (σ : Sto) : callBody PP cf "size_of" [tree_v] σ =
 (@qk _ _ (eE AV) (@qb _ _ (eE Bool) (cmpop .Is tree_v .none σ) (.mk fun v1001 σ1002 =>
 @qb _ _ (eE Bool) (truthO v1001 σ1002) (.mk fun b1003 σ1004 =>
 .ok b1003 σ1004))) (.mk fun c1005 σ1006 =>
 @bq _ c1005 (.mk (.ok (.int 0) σ1006)) (.mk (@qb _ _ (eE AV) (item tree_v (.int 5) σ1006) (.mk fun v1007 σ1008 =>
 .ok v1007 σ1008)))) : Out AV) := by
  kernel_rfl

theorem knot_K (cf : Calls) (paint_v left_v key_v thing_v right_v : AV) (σ : Sto) : callBody PP cf "knot" [paint_v, left_v, key_v, thing_v, right_v] σ =
 (@qk _ _ (eE AV) (cf "size_of" [left_v] σ) (.mk fun v1 σ2 =>
 @qb _ _ (eE AV) (binop .Add v1 (.int 1) σ2) (.mk fun v3 σ4 =>
 @qk _ _ (eE AV) (cf "size_of" [right_v] σ4) (.mk fun v5 σ6 =>
 @qb _ _ (eE AV) (binop .Add v3 v5 σ6) (.mk fun v7 σ8 =>
 .ok (.tup [paint_v, left_v, key_v, thing_v, right_v, v7]) σ8)))) : Out AV) := by
  kernel_rfl

theorem is_painted_K (cf : Calls) (tree_v : AV) (σ : Sto) : callBody PP cf "is_painted" [tree_v] σ =
 (@qb _ _ (eE AV) (cmpop .IsNot tree_v .none σ) (.mk fun v1 σ2 =>
 @qb _ _ (eE AV) (truthO v1 σ2) (.mk fun b3 σ4 =>
 @bq _ b3 (.mk (@qb _ _ (eE AV) (item tree_v (.int 0) σ4) (.mk fun v5 σ6 =>
 .ok v5 σ6))) (.mk (.ok v1 σ4)))) : Out AV) := by
  kernel_rfl

theorem unpainted_K (cf : Calls) (tree_v : AV) (σ : Sto) : callBody PP cf "unpainted" [tree_v] σ =
 (@qk _ _ (eE AV) (@qk _ _ (eE Bool) (cf "is_painted" [tree_v] σ) (.mk fun v1001 σ1002 =>
 @qb _ _ (eE Bool) (truthO v1001 σ1002) (.mk fun b1003 σ1004 =>
 .ok b1003 σ1004))) (.mk fun c1005 σ1006 =>
 @bq _ c1005 (.mk (@qb _ _ (eE AV) (item tree_v (.int 1) σ1006) (.mk fun v1007 σ1008 =>
 @qb _ _ (eE AV) (item tree_v (.int 2) σ1008) (.mk fun v1009 σ1010 =>
 @qb _ _ (eE AV) (item tree_v (.int 3) σ1010) (.mk fun v1011 σ1012 =>
 @qb _ _ (eE AV) (item tree_v (.int 4) σ1012) (.mk fun v1013 σ1014 =>
 @qk _ _ (eE AV) (cf "knot" [(.bool false), v1007, v1009, v1011, v1013] σ1014) (.mk fun v1015 σ1016 =>
 .ok v1015 σ1016))))))) (.mk (.ok tree_v σ1006))) : Out AV) := by
  kernel_rfl

theorem hung_right_K (cf : Calls) (one_v height_v key_v thing_v other_v wanted_v : AV) (σ : Sto) : callBody PP cf "hung_right" [one_v, height_v, key_v, thing_v, other_v, wanted_v] σ =
 (@qk _ _ (eE AV) (@qb _ _ (eE Bool) (cmpop .Eq height_v wanted_v σ) (.mk fun v1001 σ1002 =>
 @qb _ _ (eE Bool) (truthO v1001 σ1002) (.mk fun b1003 σ1004 =>
 @bq _ b1003 (.mk (@qk _ _ (eE Bool) (cf "is_painted" [one_v] σ1004) (.mk fun v1005 σ1006 =>
 @qb _ _ (eE Bool) (truthO v1005 σ1006) (.mk fun b1007 σ1008 =>
 @bq _ (!b1007) (.mk (.ok true σ1008)) (.mk (.ok false σ1008)))))) (.mk (.ok false σ1004))))) (.mk fun c1009 σ1010 =>
 @bq _ c1009 (.mk (@qk _ _ (eE AV) (cf "knot" [(.bool true), one_v, key_v, thing_v, other_v] σ1010) (.mk fun v1011 σ1012 =>
 .ok v1011 σ1012))) (.mk (@qk _ _ (eE AV) (@qb _ _ (eE Bool) (item one_v (.int 0) σ1010) (.mk fun v2013 σ2014 =>
 @qb _ _ (eE Bool) (truthO v2013 σ2014) (.mk fun b2015 σ2016 =>
 .ok (!b2015) σ2016))) (.mk fun c2017 σ2018 =>
 @bq _ c2017 (.mk (@qb _ _ (eE AV) (binop .Sub height_v (.int 1) σ2018) (.mk fun v2019 σ2020 =>
 @qb _ _ (eE AV) (item one_v (.int 4) σ2020) (.mk fun v2021 σ2022 =>
 @qk _ _ (eE AV) (cf "hung_right" [v2021, v2019, key_v, thing_v, other_v, wanted_v] σ2022) (.mk fun v2023 σ2024 =>
 @qk _ _ (eE AV) (@qb _ _ (eE Bool) (item one_v (.int 0) σ2024) (.mk fun v3025 σ3026 =>
 @qb _ _ (eE Bool) (truthO v3025 σ3026) (.mk fun b3027 σ3028 =>
 @bq _ (!b3027) (.mk (@qk _ _ (eE Bool) (cf "is_painted" [v2023] σ3028) (.mk fun v3029 σ3030 =>
 @qb _ _ (eE Bool) (truthO v3029 σ3030) (.mk fun b3031 σ3032 =>
 @bq _ b3031 (.mk (@qb _ _ (eE Bool) (item v2023 (.int 4) σ3032) (.mk fun v3033 σ3034 =>
 @qk _ _ (eE Bool) (cf "is_painted" [v3033] σ3034) (.mk fun v3035 σ3036 =>
 @qb _ _ (eE Bool) (truthO v3035 σ3036) (.mk fun b3037 σ3038 =>
 @bq _ b3037 (.mk (.ok true σ3038)) (.mk (.ok false σ3038))))))) (.mk (.ok false σ3032)))))) (.mk (.ok false σ3028))))) (.mk fun c3039 σ3040 =>
 @bq _ c3039 (.mk (@qb _ _ (eE AV) (item one_v (.int 1) σ3040) (.mk fun v3041 σ3042 =>
 @qb _ _ (eE AV) (item one_v (.int 2) σ3042) (.mk fun v3043 σ3044 =>
 @qb _ _ (eE AV) (item one_v (.int 3) σ3044) (.mk fun v3045 σ3046 =>
 @qb _ _ (eE AV) (item v2023 (.int 1) σ3046) (.mk fun v3047 σ3048 =>
 @qk _ _ (eE AV) (cf "knot" [(.bool false), v3041, v3043, v3045, v3047] σ3048) (.mk fun v3049 σ3050 =>
 @qb _ _ (eE AV) (item v2023 (.int 2) σ3050) (.mk fun v3051 σ3052 =>
 @qb _ _ (eE AV) (item v2023 (.int 3) σ3052) (.mk fun v3053 σ3054 =>
 @qb _ _ (eE AV) (item v2023 (.int 4) σ3054) (.mk fun v3055 σ3056 =>
 @qk _ _ (eE AV) (cf "unpainted" [v3055] σ3056) (.mk fun v3057 σ3058 =>
 @qk _ _ (eE AV) (cf "knot" [(.bool true), v3049, v3051, v3053, v3057] σ3058) (.mk fun v3059 σ3060 =>
 .ok v3059 σ3060)))))))))))) (.mk (@qb _ _ (eE AV) (item one_v (.int 0) σ3040) (.mk fun v3061 σ3062 =>
 @qb _ _ (eE AV) (item one_v (.int 1) σ3062) (.mk fun v3063 σ3064 =>
 @qb _ _ (eE AV) (item one_v (.int 2) σ3064) (.mk fun v3065 σ3066 =>
 @qb _ _ (eE AV) (item one_v (.int 3) σ3066) (.mk fun v3067 σ3068 =>
 @qk _ _ (eE AV) (cf "knot" [v3061, v3063, v3065, v3067, v2023] σ3068) (.mk fun v3069 σ3070 =>
 .ok v3069 σ3070))))))))))))) (.mk (@qb _ _ (eE AV) (item one_v (.int 4) σ2018) (.mk fun v3071 σ3072 =>
 @qk _ _ (eE AV) (cf "hung_right" [v3071, height_v, key_v, thing_v, other_v, wanted_v] σ3072) (.mk fun v3073 σ3074 =>
 @qk _ _ (eE AV) (@qb _ _ (eE Bool) (item one_v (.int 0) σ3074) (.mk fun v4075 σ4076 =>
 @qb _ _ (eE Bool) (truthO v4075 σ4076) (.mk fun b4077 σ4078 =>
 @bq _ (!b4077) (.mk (@qk _ _ (eE Bool) (cf "is_painted" [v3073] σ4078) (.mk fun v4079 σ4080 =>
 @qb _ _ (eE Bool) (truthO v4079 σ4080) (.mk fun b4081 σ4082 =>
 @bq _ b4081 (.mk (@qb _ _ (eE Bool) (item v3073 (.int 4) σ4082) (.mk fun v4083 σ4084 =>
 @qk _ _ (eE Bool) (cf "is_painted" [v4083] σ4084) (.mk fun v4085 σ4086 =>
 @qb _ _ (eE Bool) (truthO v4085 σ4086) (.mk fun b4087 σ4088 =>
 @bq _ b4087 (.mk (.ok true σ4088)) (.mk (.ok false σ4088))))))) (.mk (.ok false σ4082)))))) (.mk (.ok false σ4078))))) (.mk fun c4089 σ4090 =>
 @bq _ c4089 (.mk (@qb _ _ (eE AV) (item one_v (.int 1) σ4090) (.mk fun v4091 σ4092 =>
 @qb _ _ (eE AV) (item one_v (.int 2) σ4092) (.mk fun v4093 σ4094 =>
 @qb _ _ (eE AV) (item one_v (.int 3) σ4094) (.mk fun v4095 σ4096 =>
 @qb _ _ (eE AV) (item v3073 (.int 1) σ4096) (.mk fun v4097 σ4098 =>
 @qk _ _ (eE AV) (cf "knot" [(.bool false), v4091, v4093, v4095, v4097] σ4098) (.mk fun v4099 σ4100 =>
 @qb _ _ (eE AV) (item v3073 (.int 2) σ4100) (.mk fun v4101 σ4102 =>
 @qb _ _ (eE AV) (item v3073 (.int 3) σ4102) (.mk fun v4103 σ4104 =>
 @qb _ _ (eE AV) (item v3073 (.int 4) σ4104) (.mk fun v4105 σ4106 =>
 @qk _ _ (eE AV) (cf "unpainted" [v4105] σ4106) (.mk fun v4107 σ4108 =>
 @qk _ _ (eE AV) (cf "knot" [(.bool true), v4099, v4101, v4103, v4107] σ4108) (.mk fun v4109 σ4110 =>
 .ok v4109 σ4110)))))))))))) (.mk (@qb _ _ (eE AV) (item one_v (.int 0) σ4090) (.mk fun v4111 σ4112 =>
 @qb _ _ (eE AV) (item one_v (.int 1) σ4112) (.mk fun v4113 σ4114 =>
 @qb _ _ (eE AV) (item one_v (.int 2) σ4114) (.mk fun v4115 σ4116 =>
 @qb _ _ (eE AV) (item one_v (.int 3) σ4116) (.mk fun v4117 σ4118 =>
 @qk _ _ (eE AV) (cf "knot" [v4111, v4113, v4115, v4117, v3073] σ4118) (.mk fun v4119 σ4120 =>
 .ok v4119 σ4120)))))))))))))))) : Out AV) := by
  kernel_rfl

theorem hung_left_K (cf : Calls) (one_v wanted_v key_v thing_v other_v height_v : AV) (σ : Sto) : callBody PP cf "hung_left" [one_v, wanted_v, key_v, thing_v, other_v, height_v] σ =
 (@qk _ _ (eE AV) (@qb _ _ (eE Bool) (cmpop .Eq height_v wanted_v σ) (.mk fun v1001 σ1002 =>
 @qb _ _ (eE Bool) (truthO v1001 σ1002) (.mk fun b1003 σ1004 =>
 @bq _ b1003 (.mk (@qk _ _ (eE Bool) (cf "is_painted" [other_v] σ1004) (.mk fun v1005 σ1006 =>
 @qb _ _ (eE Bool) (truthO v1005 σ1006) (.mk fun b1007 σ1008 =>
 @bq _ (!b1007) (.mk (.ok true σ1008)) (.mk (.ok false σ1008)))))) (.mk (.ok false σ1004))))) (.mk fun c1009 σ1010 =>
 @bq _ c1009 (.mk (@qk _ _ (eE AV) (cf "knot" [(.bool true), one_v, key_v, thing_v, other_v] σ1010) (.mk fun v1011 σ1012 =>
 .ok v1011 σ1012))) (.mk (@qk _ _ (eE AV) (@qb _ _ (eE Bool) (item other_v (.int 0) σ1010) (.mk fun v2013 σ2014 =>
 @qb _ _ (eE Bool) (truthO v2013 σ2014) (.mk fun b2015 σ2016 =>
 .ok (!b2015) σ2016))) (.mk fun c2017 σ2018 =>
 @bq _ c2017 (.mk (@qb _ _ (eE AV) (binop .Sub height_v (.int 1) σ2018) (.mk fun v2019 σ2020 =>
 @qb _ _ (eE AV) (item other_v (.int 1) σ2020) (.mk fun v2021 σ2022 =>
 @qk _ _ (eE AV) (cf "hung_left" [one_v, wanted_v, key_v, thing_v, v2021, v2019] σ2022) (.mk fun v2023 σ2024 =>
 @qk _ _ (eE AV) (@qb _ _ (eE Bool) (item other_v (.int 0) σ2024) (.mk fun v3025 σ3026 =>
 @qb _ _ (eE Bool) (truthO v3025 σ3026) (.mk fun b3027 σ3028 =>
 @bq _ (!b3027) (.mk (@qk _ _ (eE Bool) (cf "is_painted" [v2023] σ3028) (.mk fun v3029 σ3030 =>
 @qb _ _ (eE Bool) (truthO v3029 σ3030) (.mk fun b3031 σ3032 =>
 @bq _ b3031 (.mk (@qb _ _ (eE Bool) (item v2023 (.int 1) σ3032) (.mk fun v3033 σ3034 =>
 @qk _ _ (eE Bool) (cf "is_painted" [v3033] σ3034) (.mk fun v3035 σ3036 =>
 @qb _ _ (eE Bool) (truthO v3035 σ3036) (.mk fun b3037 σ3038 =>
 @bq _ b3037 (.mk (.ok true σ3038)) (.mk (.ok false σ3038))))))) (.mk (.ok false σ3032)))))) (.mk (.ok false σ3028))))) (.mk fun c3039 σ3040 =>
 @bq _ c3039 (.mk (@qb _ _ (eE AV) (item v2023 (.int 4) σ3040) (.mk fun v3041 σ3042 =>
 @qb _ _ (eE AV) (item other_v (.int 2) σ3042) (.mk fun v3043 σ3044 =>
 @qb _ _ (eE AV) (item other_v (.int 3) σ3044) (.mk fun v3045 σ3046 =>
 @qb _ _ (eE AV) (item other_v (.int 4) σ3046) (.mk fun v3047 σ3048 =>
 @qk _ _ (eE AV) (cf "knot" [(.bool false), v3041, v3043, v3045, v3047] σ3048) (.mk fun v3049 σ3050 =>
 @qb _ _ (eE AV) (item v2023 (.int 1) σ3050) (.mk fun v3051 σ3052 =>
 @qk _ _ (eE AV) (cf "unpainted" [v3051] σ3052) (.mk fun v3053 σ3054 =>
 @qb _ _ (eE AV) (item v2023 (.int 2) σ3054) (.mk fun v3055 σ3056 =>
 @qb _ _ (eE AV) (item v2023 (.int 3) σ3056) (.mk fun v3057 σ3058 =>
 @qk _ _ (eE AV) (cf "knot" [(.bool true), v3053, v3055, v3057, v3049] σ3058) (.mk fun v3059 σ3060 =>
 .ok v3059 σ3060)))))))))))) (.mk (@qb _ _ (eE AV) (item other_v (.int 0) σ3040) (.mk fun v3061 σ3062 =>
 @qb _ _ (eE AV) (item other_v (.int 2) σ3062) (.mk fun v3063 σ3064 =>
 @qb _ _ (eE AV) (item other_v (.int 3) σ3064) (.mk fun v3065 σ3066 =>
 @qb _ _ (eE AV) (item other_v (.int 4) σ3066) (.mk fun v3067 σ3068 =>
 @qk _ _ (eE AV) (cf "knot" [v3061, v2023, v3063, v3065, v3067] σ3068) (.mk fun v3069 σ3070 =>
 .ok v3069 σ3070))))))))))))) (.mk (@qb _ _ (eE AV) (item other_v (.int 1) σ2018) (.mk fun v3071 σ3072 =>
 @qk _ _ (eE AV) (cf "hung_left" [one_v, wanted_v, key_v, thing_v, v3071, height_v] σ3072) (.mk fun v3073 σ3074 =>
 @qk _ _ (eE AV) (@qb _ _ (eE Bool) (item other_v (.int 0) σ3074) (.mk fun v4075 σ4076 =>
 @qb _ _ (eE Bool) (truthO v4075 σ4076) (.mk fun b4077 σ4078 =>
 @bq _ (!b4077) (.mk (@qk _ _ (eE Bool) (cf "is_painted" [v3073] σ4078) (.mk fun v4079 σ4080 =>
 @qb _ _ (eE Bool) (truthO v4079 σ4080) (.mk fun b4081 σ4082 =>
 @bq _ b4081 (.mk (@qb _ _ (eE Bool) (item v3073 (.int 1) σ4082) (.mk fun v4083 σ4084 =>
 @qk _ _ (eE Bool) (cf "is_painted" [v4083] σ4084) (.mk fun v4085 σ4086 =>
 @qb _ _ (eE Bool) (truthO v4085 σ4086) (.mk fun b4087 σ4088 =>
 @bq _ b4087 (.mk (.ok true σ4088)) (.mk (.ok false σ4088))))))) (.mk (.ok false σ4082)))))) (.mk (.ok false σ4078))))) (.mk fun c4089 σ4090 =>
 @bq _ c4089 (.mk (@qb _ _ (eE AV) (item v3073 (.int 4) σ4090) (.mk fun v4091 σ4092 =>
 @qb _ _ (eE AV) (item other_v (.int 2) σ4092) (.mk fun v4093 σ4094 =>
 @qb _ _ (eE AV) (item other_v (.int 3) σ4094) (.mk fun v4095 σ4096 =>
 @qb _ _ (eE AV) (item other_v (.int 4) σ4096) (.mk fun v4097 σ4098 =>
 @qk _ _ (eE AV) (cf "knot" [(.bool false), v4091, v4093, v4095, v4097] σ4098) (.mk fun v4099 σ4100 =>
 @qb _ _ (eE AV) (item v3073 (.int 1) σ4100) (.mk fun v4101 σ4102 =>
 @qk _ _ (eE AV) (cf "unpainted" [v4101] σ4102) (.mk fun v4103 σ4104 =>
 @qb _ _ (eE AV) (item v3073 (.int 2) σ4104) (.mk fun v4105 σ4106 =>
 @qb _ _ (eE AV) (item v3073 (.int 3) σ4106) (.mk fun v4107 σ4108 =>
 @qk _ _ (eE AV) (cf "knot" [(.bool true), v4103, v4105, v4107, v4099] σ4108) (.mk fun v4109 σ4110 =>
 .ok v4109 σ4110)))))))))))) (.mk (@qb _ _ (eE AV) (item other_v (.int 0) σ4090) (.mk fun v4111 σ4112 =>
 @qb _ _ (eE AV) (item other_v (.int 2) σ4112) (.mk fun v4113 σ4114 =>
 @qb _ _ (eE AV) (item other_v (.int 3) σ4114) (.mk fun v4115 σ4116 =>
 @qb _ _ (eE AV) (item other_v (.int 4) σ4116) (.mk fun v4117 σ4118 =>
 @qk _ _ (eE AV) (cf "knot" [v4111, v3073, v4113, v4115, v4117] σ4118) (.mk fun v4119 σ4120 =>
 .ok v4119 σ4120)))))))))))))))) : Out AV) := by
  kernel_rfl

theorem bound_K (cf : Calls) (one_v key_v thing_v other_v : AV) (σ : Sto) : callBody PP cf "bound" [one_v, key_v, thing_v, other_v] σ =
 (@qk _ _ (eE AV) (cf "unpainted" [one_v] σ) (.mk fun v1 σ2 =>
 @qk _ _ (eE AV) (cf "unpainted" [other_v] σ2) (.mk fun v3 σ4 =>
 @qk _ _ (eE AV) (cf "height_of" [v1] σ4) (.mk fun v5 σ6 =>
 @qk _ _ (eE AV) (cf "height_of" [v3] σ6) (.mk fun v7 σ8 =>
 @qk _ _ (eE AV) (@qb _ _ (eE Bool) (cmpop .Eq v5 v7 σ8) (.mk fun v1009 σ1010 =>
 @qb _ _ (eE Bool) (truthO v1009 σ1010) (.mk fun b1011 σ1012 =>
 .ok b1011 σ1012))) (.mk fun c1013 σ1014 =>
 @bq _ c1013 (.mk (@qk _ _ (eE AV) (cf "knot" [(.bool false), v1, key_v, thing_v, v3] σ1014) (.mk fun v1015 σ1016 =>
 .ok v1015 σ1016))) (.mk (@qk _ _ (eE AV) (@qb _ _ (eE Bool) (cmpop .Gt v5 v7 σ1014) (.mk fun v2017 σ2018 =>
 @qb _ _ (eE Bool) (truthO v2017 σ2018) (.mk fun b2019 σ2020 =>
 .ok b2019 σ2020))) (.mk fun c2021 σ2022 =>
 @bq _ c2021 (.mk (@qk _ _ (eE AV) (cf "hung_right" [v1, v5, key_v, thing_v, v3, v7] σ2022) (.mk fun v2023 σ2024 =>
 @qk _ _ (eE AV) (cf "unpainted" [v2023] σ2024) (.mk fun v2025 σ2026 =>
 .ok v2025 σ2026)))) (.mk (@qk _ _ (eE AV) (cf "hung_left" [v1, v5, key_v, thing_v, v3, v7] σ2022) (.mk fun v2027 σ2028 =>
 @qk _ _ (eE AV) (cf "unpainted" [v2027] σ2028) (.mk fun v2029 σ2030 =>
 .ok v2029 σ2030)))))))))))) : Out AV) := by
  kernel_rfl

theorem bound_alone_K (cf : Calls) (one_v other_v : AV) (σ : Sto) : callBody PP cf "bound_alone" [one_v, other_v] σ =
 (@qk _ _ (eE AV) (@qb _ _ (eE Bool) (cmpop .Is one_v .none σ) (.mk fun v1001 σ1002 =>
 @qb _ _ (eE Bool) (truthO v1001 σ1002) (.mk fun b1003 σ1004 =>
 .ok b1003 σ1004))) (.mk fun c1005 σ1006 =>
 @bq _ c1005 (.mk (@qk _ _ (eE AV) (cf "unpainted" [other_v] σ1006) (.mk fun v1007 σ1008 =>
 .ok v1007 σ1008))) (.mk (@qk _ _ (eE AV) (@qb _ _ (eE Bool) (cmpop .Is other_v .none σ1006) (.mk fun v2009 σ2010 =>
 @qb _ _ (eE Bool) (truthO v2009 σ2010) (.mk fun b2011 σ2012 =>
 .ok b2011 σ2012))) (.mk fun c2013 σ2014 =>
 @bq _ c2013 (.mk (@qk _ _ (eE AV) (cf "unpainted" [one_v] σ2014) (.mk fun v2015 σ2016 =>
 .ok v2015 σ2016))) (.mk (@qk _ _ (eE AV) (cf "greatest" [one_v] σ2014) (.mk fun v2017 σ2018 =>
 @qb _ _ (eE AV) (item v2017 (.int 2) σ2018) (.mk fun v2019 σ2020 =>
 @qk _ _ (eE AV) (cf "cut_at" [one_v, v2019] σ2020) (.mk fun v2021 σ2022 =>
 @qb _ _ (eE AV) (item v2021 (.int 0) σ2022) (.mk fun v2023 σ2024 =>
 @qb _ _ (eE AV) (item v2017 (.int 2) σ2024) (.mk fun v2025 σ2026 =>
 @qb _ _ (eE AV) (item v2017 (.int 3) σ2026) (.mk fun v2027 σ2028 =>
 @qk _ _ (eE AV) (cf "bound" [v2023, v2025, v2027, other_v] σ2028) (.mk fun v2029 σ2030 =>
 .ok v2029 σ2030))))))))))))) : Out AV) := by
  kernel_rfl

theorem joined_K (cf : Calls) (one_v key_v thing_v other_v : AV) (σ : Sto) : callBody PP cf "joined" [one_v, key_v, thing_v, other_v] σ =
 (@qk _ _ (eE AV) (@qb _ _ (eE Bool) (cmpop .IsNot one_v .none σ) (.mk fun v1001 σ1002 =>
 @qb _ _ (eE Bool) (truthO v1001 σ1002) (.mk fun b1003 σ1004 =>
 @bq _ b1003 (.mk (@qk _ _ (eE Bool) (cf "greatest" [one_v] σ1004) (.mk fun v1005 σ1006 =>
 @qb _ _ (eE Bool) (item v1005 (.int 2) σ1006) (.mk fun v1007 σ1008 =>
 @qb _ _ (eE Bool) (cmpop .GtE v1007 key_v σ1008) (.mk fun v1009 σ1010 =>
 @qb _ _ (eE Bool) (truthO v1009 σ1010) (.mk fun b1011 σ1012 =>
 @bq _ b1011 (.mk (.ok true σ1012)) (.mk (.ok false σ1012)))))))) (.mk (.ok false σ1004))))) (.mk fun c1013 σ1014 =>
 @bq _ c1013 (.mk (.exc "NotApart" σ1014)) (.mk (@qk _ _ (eE AV) (@qb _ _ (eE Bool) (cmpop .IsNot other_v .none σ1014) (.mk fun v2015 σ2016 =>
 @qb _ _ (eE Bool) (truthO v2015 σ2016) (.mk fun b2017 σ2018 =>
 @bq _ b2017 (.mk (@qk _ _ (eE Bool) (cf "least" [other_v] σ2018) (.mk fun v2019 σ2020 =>
 @qb _ _ (eE Bool) (item v2019 (.int 2) σ2020) (.mk fun v2021 σ2022 =>
 @qb _ _ (eE Bool) (cmpop .LtE v2021 key_v σ2022) (.mk fun v2023 σ2024 =>
 @qb _ _ (eE Bool) (truthO v2023 σ2024) (.mk fun b2025 σ2026 =>
 @bq _ b2025 (.mk (.ok true σ2026)) (.mk (.ok false σ2026)))))))) (.mk (.ok false σ2018))))) (.mk fun c2027 σ2028 =>
 @bq _ c2027 (.mk (.exc "NotApart" σ2028)) (.mk (@qk _ _ (eE AV) (cf "bound" [one_v, key_v, thing_v, other_v] σ2028) (.mk fun v2029 σ2030 =>
 .ok v2029 σ2030))))))) : Out AV) := by
  kernel_rfl

theorem laid_K (cf : Calls) (one_v other_v : AV) (σ : Sto) : callBody PP cf "laid" [one_v, other_v] σ =
 (@qk _ _ (eE AV) (@qb _ _ (eE Bool) (cmpop .IsNot one_v .none σ) (.mk fun v1001 σ1002 =>
 @qb _ _ (eE Bool) (truthO v1001 σ1002) (.mk fun b1003 σ1004 =>
 @bq _ b1003 (.mk (@qb _ _ (eE Bool) (cmpop .IsNot other_v .none σ1004) (.mk fun v1005 σ1006 =>
 @qb _ _ (eE Bool) (truthO v1005 σ1006) (.mk fun b1007 σ1008 =>
 @bq _ b1007 (.mk (@qk _ _ (eE Bool) (cf "greatest" [one_v] σ1008) (.mk fun v1009 σ1010 =>
 @qb _ _ (eE Bool) (item v1009 (.int 2) σ1010) (.mk fun v1011 σ1012 =>
 @qk _ _ (eE Bool) (cf "least" [other_v] σ1012) (.mk fun v1013 σ1014 =>
 @qb _ _ (eE Bool) (item v1013 (.int 2) σ1014) (.mk fun v1015 σ1016 =>
 @qb _ _ (eE Bool) (cmpop .GtE v1011 v1015 σ1016) (.mk fun v1017 σ1018 =>
 @qb _ _ (eE Bool) (truthO v1017 σ1018) (.mk fun b1019 σ1020 =>
 @bq _ b1019 (.mk (.ok true σ1020)) (.mk (.ok false σ1020)))))))))) (.mk (.ok false σ1008)))))) (.mk (.ok false σ1004))))) (.mk fun c1021 σ1022 =>
 @bq _ c1021 (.mk (.exc "NotApart" σ1022)) (.mk (@qk _ _ (eE AV) (cf "bound_alone" [one_v, other_v] σ1022) (.mk fun v1023 σ1024 =>
 .ok v1023 σ1024)))) : Out AV) := by
  kernel_rfl

theorem cut_at_K (cf : Calls) (tree_v key_v : AV) (σ : Sto) : callBody PP cf "cut_at" [tree_v, key_v] σ =
 (@qk _ _ (eE AV) (@qb _ _ (eE Bool) (cmpop .Is tree_v .none σ) (.mk fun v1001 σ1002 =>
 @qb _ _ (eE Bool) (truthO v1001 σ1002) (.mk fun b1003 σ1004 =>
 .ok b1003 σ1004))) (.mk fun c1005 σ1006 =>
 @bq _ c1005 (.mk (.ok (.tup [.none, .none, .none]) σ1006)) (.mk (@qk _ _ (eE AV) (@qb _ _ (eE Bool) (item tree_v (.int 2) σ1006) (.mk fun v2007 σ2008 =>
 @qb _ _ (eE Bool) (cmpop .Eq key_v v2007 σ2008) (.mk fun v2009 σ2010 =>
 @qb _ _ (eE Bool) (truthO v2009 σ2010) (.mk fun b2011 σ2012 =>
 .ok b2011 σ2012)))) (.mk fun c2013 σ2014 =>
 @bq _ c2013 (.mk (@qb _ _ (eE AV) (item tree_v (.int 1) σ2014) (.mk fun v2015 σ2016 =>
 @qk _ _ (eE AV) (cf "unpainted" [v2015] σ2016) (.mk fun v2017 σ2018 =>
 @qb _ _ (eE AV) (item tree_v (.int 2) σ2018) (.mk fun v2019 σ2020 =>
 @qb _ _ (eE AV) (item tree_v (.int 3) σ2020) (.mk fun v2021 σ2022 =>
 @qb _ _ (eE AV) (item tree_v (.int 4) σ2022) (.mk fun v2023 σ2024 =>
 @qk _ _ (eE AV) (cf "unpainted" [v2023] σ2024) (.mk fun v2025 σ2026 =>
 .ok (.tup [v2017, (.tup [v2019, v2021]), v2025]) σ2026)))))))) (.mk (@qk _ _ (eE AV) (@qb _ _ (eE Bool) (item tree_v (.int 2) σ2014) (.mk fun v3027 σ3028 =>
 @qb _ _ (eE Bool) (cmpop .Lt key_v v3027 σ3028) (.mk fun v3029 σ3030 =>
 @qb _ _ (eE Bool) (truthO v3029 σ3030) (.mk fun b3031 σ3032 =>
 .ok b3031 σ3032)))) (.mk fun c3033 σ3034 =>
 @bq _ c3033 (.mk (@qb _ _ (eE AV) (item tree_v (.int 1) σ3034) (.mk fun v3035 σ3036 =>
 @qk _ _ (eE AV) (cf "cut_at" [v3035, key_v] σ3036) (.mk fun v3037 σ3038 =>
 @qb _ _ (eE AV) (item v3037 (.int 0) σ3038) (.mk fun v3039 σ3040 =>
 @qb _ _ (eE AV) (item v3037 (.int 1) σ3040) (.mk fun v3041 σ3042 =>
 @qb _ _ (eE AV) (item v3037 (.int 2) σ3042) (.mk fun v3043 σ3044 =>
 @qb _ _ (eE AV) (item tree_v (.int 2) σ3044) (.mk fun v3045 σ3046 =>
 @qb _ _ (eE AV) (item tree_v (.int 3) σ3046) (.mk fun v3047 σ3048 =>
 @qb _ _ (eE AV) (item tree_v (.int 4) σ3048) (.mk fun v3049 σ3050 =>
 @qk _ _ (eE AV) (cf "bound" [v3043, v3045, v3047, v3049] σ3050) (.mk fun v3051 σ3052 =>
 .ok (.tup [v3039, v3041, v3051]) σ3052))))))))))) (.mk (@qb _ _ (eE AV) (item tree_v (.int 4) σ3034) (.mk fun v3053 σ3054 =>
 @qk _ _ (eE AV) (cf "cut_at" [v3053, key_v] σ3054) (.mk fun v3055 σ3056 =>
 @qb _ _ (eE AV) (item tree_v (.int 1) σ3056) (.mk fun v3057 σ3058 =>
 @qb _ _ (eE AV) (item tree_v (.int 2) σ3058) (.mk fun v3059 σ3060 =>
 @qb _ _ (eE AV) (item tree_v (.int 3) σ3060) (.mk fun v3061 σ3062 =>
 @qb _ _ (eE AV) (item v3055 (.int 0) σ3062) (.mk fun v3063 σ3064 =>
 @qk _ _ (eE AV) (cf "bound" [v3057, v3059, v3061, v3063] σ3064) (.mk fun v3065 σ3066 =>
 @qb _ _ (eE AV) (item v3055 (.int 1) σ3066) (.mk fun v3067 σ3068 =>
 @qb _ _ (eE AV) (item v3055 (.int 2) σ3068) (.mk fun v3069 σ3070 =>
 .ok (.tup [v3065, v3067, v3069]) σ3070)))))))))))))))))) : Out AV) := by
  kernel_rfl

theorem put_K (cf : Calls) (tree_v key_v thing_v : AV) (σ : Sto) : callBody PP cf "put" [tree_v, key_v, thing_v] σ =
 (@qk _ _ (eE AV) (cf "cut_at" [tree_v, key_v] σ) (.mk fun v1 σ2 =>
 @qb _ _ (eE AV) (item v1 (.int 0) σ2) (.mk fun v3 σ4 =>
 @qb _ _ (eE AV) (item v1 (.int 2) σ4) (.mk fun v5 σ6 =>
 @qk _ _ (eE AV) (cf "bound" [v3, key_v, thing_v, v5] σ6) (.mk fun v7 σ8 =>
 .ok v7 σ8)))) : Out AV) := by
  kernel_rfl

theorem taken_K (cf : Calls) (tree_v key_v : AV) (σ : Sto) : callBody PP cf "taken" [tree_v, key_v] σ =
 (@qk _ _ (eE AV) (cf "cut_at" [tree_v, key_v] σ) (.mk fun v1 σ2 =>
 @qk _ _ (eE AV) (@qb _ _ (eE Bool) (item v1 (.int 1) σ2) (.mk fun v1003 σ1004 =>
 @qb _ _ (eE Bool) (cmpop .Is v1003 .none σ1004) (.mk fun v1005 σ1006 =>
 @qb _ _ (eE Bool) (truthO v1005 σ1006) (.mk fun b1007 σ1008 =>
 .ok b1007 σ1008)))) (.mk fun c1009 σ1010 =>
 @bq _ c1009 (.mk (.exc "NoKey" σ1010)) (.mk (@qb _ _ (eE AV) (item v1 (.int 0) σ1010) (.mk fun v1011 σ1012 =>
 @qb _ _ (eE AV) (item v1 (.int 2) σ1012) (.mk fun v1013 σ1014 =>
 @qk _ _ (eE AV) (cf "bound_alone" [v1011, v1013] σ1014) (.mk fun v1015 σ1016 =>
 .ok v1015 σ1016))))))) : Out AV) := by
  kernel_rfl

theorem built_K (cf : Calls) (pairs_v low_v high_v levels_v : AV) (σ : Sto) : callBody PP cf "built" [pairs_v, low_v, high_v, levels_v] σ =
 (@qk _ _ (eE AV) (@qb _ _ (eE Bool) (cmpop .Eq low_v high_v σ) (.mk fun v1001 σ1002 =>
 @qb _ _ (eE Bool) (truthO v1001 σ1002) (.mk fun b1003 σ1004 =>
 .ok b1003 σ1004))) (.mk fun c1005 σ1006 =>
 @bq _ c1005 (.mk (.ok .none σ1006)) (.mk (@qb _ _ (eE AV) (binop .Add low_v high_v σ1006) (.mk fun v1007 σ1008 =>
 @qb _ _ (eE AV) (binop .FloorDiv v1007 (.int 2) σ1008) (.mk fun v1009 σ1010 =>
 @qk _ _ (eE AV) (@qb _ _ (eE Bool) (cmpop .Eq levels_v (.int 0) σ1010) (.mk fun v2011 σ2012 =>
 @qb _ _ (eE Bool) (truthO v2011 σ2012) (.mk fun b2013 σ2014 =>
 .ok b2013 σ2014))) (.mk fun c2015 σ2016 =>
 @bq _ c2015 (.mk (@qb _ _ (eE AV) (item pairs_v v1009 σ2016) (.mk fun v2017 σ2018 =>
 @qb _ _ (eE AV) (item v2017 (.int 0) σ2018) (.mk fun v2019 σ2020 =>
 @qb _ _ (eE AV) (item pairs_v v1009 σ2020) (.mk fun v2021 σ2022 =>
 @qb _ _ (eE AV) (item v2021 (.int 1) σ2022) (.mk fun v2023 σ2024 =>
 @qk _ _ (eE AV) (cf "knot" [(.bool true), .none, v2019, v2023, .none] σ2024) (.mk fun v2025 σ2026 =>
 .ok v2025 σ2026))))))) (.mk (@qb _ _ (eE AV) (binop .Sub levels_v (.int 1) σ2016) (.mk fun v2027 σ2028 =>
 @qk _ _ (eE AV) (cf "built" [pairs_v, low_v, v1009, v2027] σ2028) (.mk fun v2029 σ2030 =>
 @qb _ _ (eE AV) (binop .Add v1009 (.int 1) σ2030) (.mk fun v2031 σ2032 =>
 @qb _ _ (eE AV) (binop .Sub levels_v (.int 1) σ2032) (.mk fun v2033 σ2034 =>
 @qk _ _ (eE AV) (cf "built" [pairs_v, v2031, high_v, v2033] σ2034) (.mk fun v2035 σ2036 =>
 @qb _ _ (eE AV) (item pairs_v v1009 σ2036) (.mk fun v2037 σ2038 =>
 @qb _ _ (eE AV) (item v2037 (.int 0) σ2038) (.mk fun v2039 σ2040 =>
 @qb _ _ (eE AV) (item pairs_v v1009 σ2040) (.mk fun v2041 σ2042 =>
 @qb _ _ (eE AV) (item v2041 (.int 1) σ2042) (.mk fun v2043 σ2044 =>
 @qk _ _ (eE AV) (cf "knot" [(.bool false), v2029, v2039, v2043, v2035] σ2044) (.mk fun v2045 σ2046 =>
 .ok v2045 σ2046)))))))))))))))))) : Out AV) := by
  kernel_rfl

theorem united_K (cf : Calls) (one_v other_v : AV) (σ : Sto) : callBody PP cf "united" [one_v, other_v] σ =
 (@qk _ _ (eE AV) (@qb _ _ (eE Bool) (cmpop .Is one_v .none σ) (.mk fun v1001 σ1002 =>
 @qb _ _ (eE Bool) (truthO v1001 σ1002) (.mk fun b1003 σ1004 =>
 .ok b1003 σ1004))) (.mk fun c1005 σ1006 =>
 @bq _ c1005 (.mk (@qk _ _ (eE AV) (cf "unpainted" [other_v] σ1006) (.mk fun v1007 σ1008 =>
 .ok v1007 σ1008))) (.mk (@qb _ _ (eE AV) (item one_v (.int 2) σ1006) (.mk fun v1009 σ1010 =>
 @qk _ _ (eE AV) (cf "cut_at" [other_v, v1009] σ1010) (.mk fun v1011 σ1012 =>
 @qb _ _ (eE AV) (item one_v (.int 1) σ1012) (.mk fun v1013 σ1014 =>
 @qb _ _ (eE AV) (item v1011 (.int 0) σ1014) (.mk fun v1015 σ1016 =>
 @qk _ _ (eE AV) (cf "united" [v1013, v1015] σ1016) (.mk fun v1017 σ1018 =>
 @qb _ _ (eE AV) (item one_v (.int 4) σ1018) (.mk fun v1019 σ1020 =>
 @qb _ _ (eE AV) (item v1011 (.int 2) σ1020) (.mk fun v1021 σ1022 =>
 @qk _ _ (eE AV) (cf "united" [v1019, v1021] σ1022) (.mk fun v1023 σ1024 =>
 @qb _ _ (eE AV) (item one_v (.int 2) σ1024) (.mk fun v1025 σ1026 =>
 @qb _ _ (eE AV) (item one_v (.int 3) σ1026) (.mk fun v1027 σ1028 =>
 @qk _ _ (eE AV) (cf "bound" [v1017, v1025, v1027, v1023] σ1028) (.mk fun v1029 σ1030 =>
 .ok v1029 σ1030)))))))))))))) : Out AV) := by
  kernel_rfl

theorem common_K (cf : Calls) (one_v other_v : AV) (σ : Sto) : callBody PP cf "common" [one_v, other_v] σ =
 (@qk _ _ (eE AV) (@qb _ _ (eE Bool) (cmpop .Is one_v .none σ) (.mk fun v1001 σ1002 =>
 @qb _ _ (eE Bool) (truthO v1001 σ1002) (.mk fun b1003 σ1004 =>
 @bq _ b1003 (.mk (.ok true σ1004)) (.mk (@qb _ _ (eE Bool) (cmpop .Is other_v .none σ1004) (.mk fun v1005 σ1006 =>
 @qb _ _ (eE Bool) (truthO v1005 σ1006) (.mk fun b1007 σ1008 =>
 @bq _ b1007 (.mk (.ok true σ1008)) (.mk (.ok false σ1008))))))))) (.mk fun c1009 σ1010 =>
 @bq _ c1009 (.mk (.ok .none σ1010)) (.mk (@qb _ _ (eE AV) (item one_v (.int 2) σ1010) (.mk fun v1011 σ1012 =>
 @qk _ _ (eE AV) (cf "cut_at" [other_v, v1011] σ1012) (.mk fun v1013 σ1014 =>
 @qb _ _ (eE AV) (item one_v (.int 1) σ1014) (.mk fun v1015 σ1016 =>
 @qb _ _ (eE AV) (item v1013 (.int 0) σ1016) (.mk fun v1017 σ1018 =>
 @qk _ _ (eE AV) (cf "common" [v1015, v1017] σ1018) (.mk fun v1019 σ1020 =>
 @qb _ _ (eE AV) (item one_v (.int 4) σ1020) (.mk fun v1021 σ1022 =>
 @qb _ _ (eE AV) (item v1013 (.int 2) σ1022) (.mk fun v1023 σ1024 =>
 @qk _ _ (eE AV) (cf "common" [v1021, v1023] σ1024) (.mk fun v1025 σ1026 =>
 @qk _ _ (eE AV) (@qb _ _ (eE Bool) (item v1013 (.int 1) σ1026) (.mk fun v2027 σ2028 =>
 @qb _ _ (eE Bool) (cmpop .Is v2027 .none σ2028) (.mk fun v2029 σ2030 =>
 @qb _ _ (eE Bool) (truthO v2029 σ2030) (.mk fun b2031 σ2032 =>
 .ok b2031 σ2032)))) (.mk fun c2033 σ2034 =>
 @bq _ c2033 (.mk (@qk _ _ (eE AV) (cf "bound_alone" [v1019, v1025] σ2034) (.mk fun v2035 σ2036 =>
 .ok v2035 σ2036))) (.mk (@qb _ _ (eE AV) (item one_v (.int 2) σ2034) (.mk fun v2037 σ2038 =>
 @qb _ _ (eE AV) (item one_v (.int 3) σ2038) (.mk fun v2039 σ2040 =>
 @qk _ _ (eE AV) (cf "bound" [v1019, v2037, v2039, v1025] σ2040) (.mk fun v2041 σ2042 =>
 .ok v2041 σ2042))))))))))))))))) : Out AV) := by
  kernel_rfl

theorem without_K (cf : Calls) (one_v other_v : AV) (σ : Sto) : callBody PP cf "without" [one_v, other_v] σ =
 (@qk _ _ (eE AV) (@qb _ _ (eE Bool) (cmpop .Is one_v .none σ) (.mk fun v1001 σ1002 =>
 @qb _ _ (eE Bool) (truthO v1001 σ1002) (.mk fun b1003 σ1004 =>
 @bq _ b1003 (.mk (.ok true σ1004)) (.mk (@qb _ _ (eE Bool) (cmpop .Is other_v .none σ1004) (.mk fun v1005 σ1006 =>
 @qb _ _ (eE Bool) (truthO v1005 σ1006) (.mk fun b1007 σ1008 =>
 @bq _ b1007 (.mk (.ok true σ1008)) (.mk (.ok false σ1008))))))))) (.mk fun c1009 σ1010 =>
 @bq _ c1009 (.mk (@qk _ _ (eE AV) (cf "unpainted" [one_v] σ1010) (.mk fun v1011 σ1012 =>
 .ok v1011 σ1012))) (.mk (@qb _ _ (eE AV) (item one_v (.int 2) σ1010) (.mk fun v1013 σ1014 =>
 @qk _ _ (eE AV) (cf "cut_at" [other_v, v1013] σ1014) (.mk fun v1015 σ1016 =>
 @qb _ _ (eE AV) (item one_v (.int 1) σ1016) (.mk fun v1017 σ1018 =>
 @qb _ _ (eE AV) (item v1015 (.int 0) σ1018) (.mk fun v1019 σ1020 =>
 @qk _ _ (eE AV) (cf "without" [v1017, v1019] σ1020) (.mk fun v1021 σ1022 =>
 @qb _ _ (eE AV) (item one_v (.int 4) σ1022) (.mk fun v1023 σ1024 =>
 @qb _ _ (eE AV) (item v1015 (.int 2) σ1024) (.mk fun v1025 σ1026 =>
 @qk _ _ (eE AV) (cf "without" [v1023, v1025] σ1026) (.mk fun v1027 σ1028 =>
 @qk _ _ (eE AV) (@qb _ _ (eE Bool) (item v1015 (.int 1) σ1028) (.mk fun v2029 σ2030 =>
 @qb _ _ (eE Bool) (cmpop .Is v2029 .none σ2030) (.mk fun v2031 σ2032 =>
 @qb _ _ (eE Bool) (truthO v2031 σ2032) (.mk fun b2033 σ2034 =>
 .ok b2033 σ2034)))) (.mk fun c2035 σ2036 =>
 @bq _ c2035 (.mk (@qb _ _ (eE AV) (item one_v (.int 2) σ2036) (.mk fun v2037 σ2038 =>
 @qb _ _ (eE AV) (item one_v (.int 3) σ2038) (.mk fun v2039 σ2040 =>
 @qk _ _ (eE AV) (cf "bound" [v1021, v2037, v2039, v1027] σ2040) (.mk fun v2041 σ2042 =>
 .ok v2041 σ2042))))) (.mk (@qk _ _ (eE AV) (cf "bound_alone" [v1021, v1027] σ2036) (.mk fun v2043 σ2044 =>
 .ok v2043 σ2044))))))))))))))) : Out AV) := by
  kernel_rfl

theorem law_whole_K (cf : Calls) (law_told_v : AV) (σ : Sto) : callBody PP cf "_law_whole" [law_told_v] σ =
 (@qb _ _ (eE AV) (isiA [law_told_v, (.typ "int")] σ) (.mk fun v1 σ2 =>
 @qb _ _ (eE AV) (truthO v1 σ2) (.mk fun b3 σ4 =>
 @bq _ b3 (.mk (@qb _ _ (eE AV) (isiA [law_told_v, (.typ "bool")] σ4) (.mk fun v5 σ6 =>
 @qb _ _ (eE AV) (unop .Not v5 σ6) (.mk fun v7 σ8 =>
 .ok v7 σ8)))) (.mk (.ok v1 σ4)))) : Out AV) := by
  kernel_rfl

theorem law_text_K (cf : Calls) (law_cell_v law_size_v : AV) (σ : Sto) : callBody PP cf "_law_text" [law_cell_v, law_size_v] σ =
 (@qb _ _ (eE AV) (binop .Add (.str " !\"#$&'()*+,-./0123456789:;<=>?@ABCDEFGHIJKLMNOPQRSTUVWXYZ[\\]^_`") (.str "abcdefghijklmnopqrstuvwxyz{|}~\n\t") σ) (.mk fun v1 σ2 =>
 @qb _ _ (eE AV) (binop .Add v1 v1 σ2) (.mk fun v3 σ4 =>
 @qb _ _ (eE AV) (binop .Mod law_cell_v (.int 96) σ4) (.mk fun v5 σ6 =>
 @qb _ _ (eE AV) (binop .Mod law_cell_v (.int 96) σ6) (.mk fun v7 σ8 =>
 @qb _ _ (eE AV) (binop .Add v7 law_size_v σ8) (.mk fun v9 σ10 =>
 @qb _ _ (eE AV) (slA v5 v9 σ10) (.mk fun v11 σ12 =>
 @qb _ _ (eE AV) (item v3 v11 σ12) (.mk fun v13 σ14 =>
 @qk _ _ (eE AV) (@qb _ _ (eE Bool) (binop .FloorDiv law_cell_v (.int 96) σ14) (.mk fun v1015 σ1016 =>
 @qb _ _ (eE Bool) (binop .Mod v1015 (.int 3) σ1016) (.mk fun v1017 σ1018 =>
 @qb _ _ (eE Bool) (cmpop .Eq v1017 (.int 1) σ1018) (.mk fun v1019 σ1020 =>
 @qb _ _ (eE Bool) (truthO v1019 σ1020) (.mk fun b1021 σ1022 =>
 .ok b1021 σ1022))))) (.mk fun c1023 σ1024 =>
 @bq _ c1023 (.mk (@qb _ _ (eE AV) (unop .USub (.int 1) σ1024) (.mk fun v1025 σ1026 =>
 @qb _ _ (eE AV) (slA v1025 .none σ1026) (.mk fun v1027 σ1028 =>
 @qb _ _ (eE AV) (item v13 v1027 σ1028) (.mk fun v1029 σ1030 =>
 @qb _ _ (eE AV) (binop .Mult v1029 (.int 3) σ1030) (.mk fun v1031 σ1032 =>
 @qb _ _ (eE AV) (binop .Add v13 v1031 σ1032) (.mk fun v1033 σ1034 =>
 @qb _ _ (eE AV) (slA .none (.int 9) σ1034) (.mk fun v1035 σ1036 =>
 @qb _ _ (eE AV) (item v13 v1035 σ1036) (.mk fun v1037 σ1038 =>
 @qb _ _ (eE AV) (binop .Add v1033 v1037 σ1038) (.mk fun v1039 σ1040 =>
 .ok v1039 σ1040)))))))))) (.mk (.ok v13 σ1024)))))))))) : Out AV) := by
  kernel_rfl

theorem law_rising_K (cf : Calls) (law_cell_v law_many_v : AV) (σ : Sto) : callBody PP cf "_law_rising" [law_cell_v, law_many_v] σ =
 (@qb _ _ (eE AV) (binop .FloorDiv law_cell_v (.int 7) σ) (.mk fun v1 σ2 =>
 @qb _ _ (eE AV) (binop .Mod v1 (.int 90) σ2) (.mk fun v3 σ4 =>
 @qb _ _ (eE AV) (binop .Add (.int 1) v3 σ4) (.mk fun v5 σ6 =>
 @qb _ _ (eE AV) (binop .FloorDiv law_cell_v (.int 7) σ6) (.mk fun v7 σ8 =>
 @qb _ _ (eE AV) (binop .Pow (.int 10) (.int 56) σ8) (.mk fun v9 σ10 =>
 @qb _ _ (eE AV) (binop .Mod v7 v9 σ10) (.mk fun v11 σ12 =>
 @qb _ _ (eE AV) (binop .Add (.int 1) v11 σ12) (.mk fun v13 σ14 =>
 @qb _ _ (eE AV) (newL [(.int 1), (.int 2), v5, v13] σ14) (.mk fun v15 σ16 =>
 @qb _ _ (eE AV) (binop .Mod law_cell_v (.int 4) σ16) (.mk fun v17 σ18 =>
 @qb _ _ (eE AV) (item v15 v17 σ18) (.mk fun v19 σ20 =>
 @qb _ _ (eE AV) (binop .FloorDiv law_cell_v (.int 4) σ20) (.mk fun v21 σ22 =>
 @qb _ _ (eE AV) (binop .Mod v21 (.int 41) σ22) (.mk fun v23 σ24 =>
 @qb _ _ (eE AV) (binop .Sub v23 (.int 20) σ24) (.mk fun v25 σ26 =>
 @qb _ _ (eE AV) (unop .USub (.int 7) σ26) (.mk fun v27 σ28 =>
 @qb _ _ (eE AV) (binop .FloorDiv law_cell_v (.int 4) σ28) (.mk fun v29 σ30 =>
 @qb _ _ (eE AV) (binop .Pow (.int 10) (.int 59) σ30) (.mk fun v31 σ32 =>
 @qb _ _ (eE AV) (binop .Mod v29 v31 σ32) (.mk fun v33 σ34 =>
 @qb _ _ (eE AV) (binop .Pow (.int 10) (.int 58) σ34) (.mk fun v35 σ36 =>
 @qb _ _ (eE AV) (binop .Mult (.int 5) v35 σ36) (.mk fun v37 σ38 =>
 @qb _ _ (eE AV) (binop .Sub v33 v37 σ38) (.mk fun v39 σ40 =>
 @qb _ _ (eE AV) (binop .Pow (.int 10) (.int 59) σ40) (.mk fun v41 σ42 =>
 @qb _ _ (eE AV) (unop .USub v41 σ42) (.mk fun v43 σ44 =>
 @qb _ _ (eE AV) (newL [v25, v27, v39, v43] σ44) (.mk fun v45 σ46 =>
 @qb _ _ (eE AV) (binop .FloorDiv law_cell_v (.int 5) σ46) (.mk fun v47 σ48 =>
 @qb _ _ (eE AV) (binop .Mod v47 (.int 4) σ48) (.mk fun v49 σ50 =>
 @qb _ _ (eE AV) (item v45 v49 σ50) (.mk fun v51 σ52 =>
 @qb _ _ (eE AV) (binop .FloorDiv law_cell_v (.int 11) σ52) (.mk fun v53 σ54 =>
 @qb _ _ (eE AV) (binop .Mod v53 (.int 9) σ54) (.mk fun v55 σ56 =>
 @qb _ _ (eE AV) (rangeOf [law_many_v] σ56) (.mk fun s57 σ58 =>
 @qb _ _ (eE AV) (cpS (fun x59 σ60 =>
 @qb _ _ (eE (Option AV)) (binop .Mult v19 x59 σ60) (.mk fun v161 σ162 =>
 @qb _ _ (eE (Option AV)) (binop .Add v51 v161 σ162) (.mk fun v163 σ164 =>
 @qb _ _ (eE (Option AV)) (binop .Mult x59 x59 σ164) (.mk fun v165 σ166 =>
 @qb _ _ (eE (Option AV)) (binop .Mult v165 v55 σ166) (.mk fun v167 σ168 =>
 @qb _ _ (eE (Option AV)) (binop .FloorDiv v167 (.int 7) σ168) (.mk fun v169 σ170 =>
 @qb _ _ (eE (Option AV)) (binop .Add v163 v169 σ170) (.mk fun v171 σ172 =>
 @qb _ _ (eE (Option AV)) (binop .Add law_cell_v x59 σ172) (.mk fun v173 σ174 =>
 @qk _ _ (eE (Option AV)) (cf "_law_thing" [v173] σ174) (.mk fun v175 σ176 =>
 .ok (some (.tup [v171, v175])) σ176))))))))) s57 bigN 0 [] σ58) (.mk fun xs177 σ178 =>
 @qb _ _ (eE AV) (newL xs177 σ178) (.mk fun v179 σ180 =>
 .ok v179 σ180))))))))))))))))))))))))))))))) : Out AV) := by
  kernel_rfl

theorem law_alike_K (cf : Calls) (law_told_v law_due_here_v : AV) (σ : Sto) : callBody PP cf "_law_alike" [law_told_v, law_due_here_v] σ =
 (@qk _ _ (eE AV) (@qb _ _ (eE Bool) (isiA [law_due_here_v, (.typ "tuple")] σ) (.mk fun v1001 σ1002 =>
 @qb _ _ (eE Bool) (truthO v1001 σ1002) (.mk fun b1003 σ1004 =>
 .ok b1003 σ1004))) (.mk fun c1005 σ1006 =>
 @bq _ c1005 (.mk (@qk _ _ (eE AV) (@qb _ _ (eE Bool) (isiA [law_told_v, (.typ "tuple")] σ1006) (.mk fun v2007 σ2008 =>
 @qb _ _ (eE Bool) (truthO v2007 σ2008) (.mk fun b2009 σ2010 =>
 @bq _ (!b2009) (.mk (.ok true σ2010)) (.mk (@qb _ _ (eE Bool) (lenA [law_told_v] σ2010) (.mk fun v2011 σ2012 =>
 @qb _ _ (eE Bool) (lenA [law_due_here_v] σ2012) (.mk fun v2013 σ2014 =>
 @qb _ _ (eE Bool) (cmpop .NotEq v2011 v2013 σ2014) (.mk fun v2015 σ2016 =>
 @qb _ _ (eE Bool) (truthO v2015 σ2016) (.mk fun b2017 σ2018 =>
 @bq _ b2017 (.mk (.ok true σ2018)) (.mk (.ok false σ2018))))))))))) (.mk fun c2019 σ2020 =>
 @bq _ c2019 (.mk (.ok (.bool false) σ2020)) (.mk (@qb _ _ (eE AV) (lenA [law_due_here_v] σ2020) (.mk fun v2021 σ2022 =>
 @qb _ _ (eE AV) (rangeOf [v2021] σ2022) (.mk fun s2023 σ2024 =>
 @qb _ _ (eE AV) (cpS (fun x2025 σ2026 =>
 @qb _ _ (eE (Option AV)) (item law_told_v x2025 σ2026) (.mk fun v2127 σ2128 =>
 @qb _ _ (eE (Option AV)) (item law_due_here_v x2025 σ2128) (.mk fun v2129 σ2130 =>
 @qk _ _ (eE (Option AV)) (cf "_law_alike" [v2127, v2129] σ2130) (.mk fun v2131 σ2132 =>
 @qb _ _ (eE (Option AV)) (truthO v2131 σ2132) (.mk fun b2133 σ2134 =>
 @bq _ (!b2133) (.mk (.ok (some x2025) σ2134)) (.mk (.ok Option.none σ2134))))))) s2023 bigN 0 [] σ2024) (.mk fun xs2135 σ2136 =>
 @qb _ _ (eE AV) (newL xs2135 σ2136) (.mk fun v2137 σ2138 =>
 @qb _ _ (eE AV) (newL [] σ2138) (.mk fun v2139 σ2140 =>
 @qb _ _ (eE AV) (cmpop .Eq v2137 v2139 σ2140) (.mk fun v2141 σ2142 =>
 .ok v2141 σ2142))))))))))) (.mk (@qb _ _ (eE AV) (isiA [law_told_v, (.typ "bool")] σ1006) (.mk fun v2143 σ2144 =>
 @qb _ _ (eE AV) (isiA [law_due_here_v, (.typ "bool")] σ2144) (.mk fun v2145 σ2146 =>
 @qb _ _ (eE AV) (cmpop .Eq v2143 v2145 σ2146) (.mk fun v2147 σ2148 =>
 @qb _ _ (eE AV) (truthO v2147 σ2148) (.mk fun b2149 σ2150 =>
 @bq _ b2149 (.mk (@qb _ _ (eE AV) (cmpop .Eq law_told_v law_due_here_v σ2150) (.mk fun v2151 σ2152 =>
 .ok v2151 σ2152))) (.mk (.ok v2147 σ2150))))))))) : Out AV) := by
  kernel_rfl

theorem law_same_K (cf : Calls) (law_pairs_v law_due_here_v : AV) (σ : Sto) : callBody PP cf "_law_same" [law_pairs_v, law_due_here_v] σ =
 (@qk _ _ (eE AV) (@qb _ _ (eE Bool) (lenA [law_pairs_v] σ) (.mk fun v1001 σ1002 =>
 @qb _ _ (eE Bool) (lenA [law_due_here_v] σ1002) (.mk fun v1003 σ1004 =>
 @qb _ _ (eE Bool) (cmpop .NotEq v1001 v1003 σ1004) (.mk fun v1005 σ1006 =>
 @qb _ _ (eE Bool) (truthO v1005 σ1006) (.mk fun b1007 σ1008 =>
 .ok b1007 σ1008))))) (.mk fun c1009 σ1010 =>
 @bq _ c1009 (.mk (.ok (.bool false) σ1010)) (.mk (@qb _ _ (eE AV) (lenA [law_due_here_v] σ1010) (.mk fun v1011 σ1012 =>
 @qb _ _ (eE AV) (rangeOf [v1011] σ1012) (.mk fun s1013 σ1014 =>
 @qb _ _ (eE AV) (cpS (fun x1015 σ1016 =>
 @qb _ _ (eE (Option AV)) (item law_pairs_v x1015 σ1016) (.mk fun v1117 σ1118 =>
 @qb _ _ (eE (Option AV)) (item law_due_here_v x1015 σ1118) (.mk fun v1119 σ1120 =>
 @qk _ _ (eE (Option AV)) (cf "_law_alike" [v1117, v1119] σ1120) (.mk fun v1121 σ1122 =>
 @qb _ _ (eE (Option AV)) (truthO v1121 σ1122) (.mk fun b1123 σ1124 =>
 @bq _ (!b1123) (.mk (.ok (some x1015) σ1124)) (.mk (.ok Option.none σ1124))))))) s1013 bigN 0 [] σ1014) (.mk fun xs1125 σ1126 =>
 @qb _ _ (eE AV) (newL xs1125 σ1126) (.mk fun v1127 σ1128 =>
 @qb _ _ (eE AV) (newL [] σ1128) (.mk fun v1129 σ1130 =>
 @qb _ _ (eE AV) (cmpop .Eq v1127 v1129 σ1130) (.mk fun v1131 σ1132 =>
 .ok v1131 σ1132))))))))) : Out AV) := by
  kernel_rfl

theorem law_seen_K (cf : Calls) (law_tree_v law_under_v law_pairs_v : AV) (σ : Sto) : callBody PP cf "_law_seen" [law_tree_v, law_under_v, law_pairs_v] σ =
 (@qk _ _ (eE AV) (@qb _ _ (eE Bool) (cmpop .Is law_tree_v .none σ) (.mk fun v1001 σ1002 =>
 @qb _ _ (eE Bool) (truthO v1001 σ1002) (.mk fun b1003 σ1004 =>
 .ok b1003 σ1004))) (.mk fun c1005 σ1006 =>
 @bq _ c1005 (.mk (.ok (.int 0) σ1006)) (.mk (@qk _ _ (eE AV) (@qb _ _ (eE Bool) (isiA [law_tree_v, (.typ "tuple")] σ1006) (.mk fun v2007 σ2008 =>
 @qb _ _ (eE Bool) (truthO v2007 σ2008) (.mk fun b2009 σ2010 =>
 @bq _ (!b2009) (.mk (.ok true σ2010)) (.mk (@qb _ _ (eE Bool) (lenA [law_tree_v] σ2010) (.mk fun v2011 σ2012 =>
 @qb _ _ (eE Bool) (cmpop .NotEq v2011 (.int 6) σ2012) (.mk fun v2013 σ2014 =>
 @qb _ _ (eE Bool) (truthO v2013 σ2014) (.mk fun b2015 σ2016 =>
 @bq _ b2015 (.mk (.ok true σ2016)) (.mk (@qb _ _ (eE Bool) (item law_tree_v (.int 0) σ2016) (.mk fun v2017 σ2018 =>
 @qb _ _ (eE Bool) (isiA [v2017, (.typ "bool")] σ2018) (.mk fun v2019 σ2020 =>
 @qb _ _ (eE Bool) (truthO v2019 σ2020) (.mk fun b2021 σ2022 =>
 @bq _ (!b2021) (.mk (.ok true σ2022)) (.mk (.ok false σ2022))))))))))))))) (.mk fun c2023 σ2024 =>
 @bq _ c2023 (.mk (@qb _ _ (eE AV) (unop .USub (.int 1) σ2024) (.mk fun v2025 σ2026 =>
 .ok v2025 σ2026))) (.mk (@qk _ _ (eE AV) (@qb _ _ (eE Bool) (item law_tree_v (.int 0) σ2024) (.mk fun v3027 σ3028 =>
 @qb _ _ (eE Bool) (truthO v3027 σ3028) (.mk fun b3029 σ3030 =>
 @bq _ b3029 (.mk (@qb _ _ (eE Bool) (truthO law_under_v σ3030) (.mk fun b3031 σ3032 =>
 @bq _ b3031 (.mk (@bq _ true (.mk (.ok true σ3032)) (.mk (@qb _ _ (eE Bool) (item law_tree_v (.int 2) σ3032) (.mk fun v3033 σ3034 =>
 @qk _ _ (eE Bool) (cf "_law_whole" [v3033] σ3034) (.mk fun v3035 σ3036 =>
 @qb _ _ (eE Bool) (truthO v3035 σ3036) (.mk fun b3037 σ3038 =>
 @bq _ (!b3037) (.mk (.ok true σ3038)) (.mk (@qb _ _ (eE Bool) (item law_tree_v (.int 5) σ3038) (.mk fun v3039 σ3040 =>
 @qk _ _ (eE Bool) (cf "_law_whole" [v3039] σ3040) (.mk fun v3041 σ3042 =>
 @qb _ _ (eE Bool) (truthO v3041 σ3042) (.mk fun b3043 σ3044 =>
 @bq _ (!b3043) (.mk (.ok true σ3044)) (.mk (.ok false σ3044)))))))))))))) (.mk (@bq _ false (.mk (.ok true σ3032)) (.mk (@qb _ _ (eE Bool) (item law_tree_v (.int 2) σ3032) (.mk fun v3045 σ3046 =>
 @qk _ _ (eE Bool) (cf "_law_whole" [v3045] σ3046) (.mk fun v3047 σ3048 =>
 @qb _ _ (eE Bool) (truthO v3047 σ3048) (.mk fun b3049 σ3050 =>
 @bq _ (!b3049) (.mk (.ok true σ3050)) (.mk (@qb _ _ (eE Bool) (item law_tree_v (.int 5) σ3050) (.mk fun v3051 σ3052 =>
 @qk _ _ (eE Bool) (cf "_law_whole" [v3051] σ3052) (.mk fun v3053 σ3054 =>
 @qb _ _ (eE Bool) (truthO v3053 σ3054) (.mk fun b3055 σ3056 =>
 @bq _ (!b3055) (.mk (.ok true σ3056)) (.mk (.ok false σ3056))))))))))))))))) (.mk (@bq _ false (.mk (.ok true σ3030)) (.mk (@qb _ _ (eE Bool) (item law_tree_v (.int 2) σ3030) (.mk fun v3057 σ3058 =>
 @qk _ _ (eE Bool) (cf "_law_whole" [v3057] σ3058) (.mk fun v3059 σ3060 =>
 @qb _ _ (eE Bool) (truthO v3059 σ3060) (.mk fun b3061 σ3062 =>
 @bq _ (!b3061) (.mk (.ok true σ3062)) (.mk (@qb _ _ (eE Bool) (item law_tree_v (.int 5) σ3062) (.mk fun v3063 σ3064 =>
 @qk _ _ (eE Bool) (cf "_law_whole" [v3063] σ3064) (.mk fun v3065 σ3066 =>
 @qb _ _ (eE Bool) (truthO v3065 σ3066) (.mk fun b3067 σ3068 =>
 @bq _ (!b3067) (.mk (.ok true σ3068)) (.mk (.ok false σ3068))))))))))))))))) (.mk fun c3069 σ3070 =>
 @bq _ c3069 (.mk (@qb _ _ (eE AV) (unop .USub (.int 1) σ3070) (.mk fun v3071 σ3072 =>
 .ok v3071 σ3072))) (.mk (@qb _ _ (eE AV) (lenA [law_pairs_v] σ3070) (.mk fun v3073 σ3074 =>
 @qb _ _ (eE AV) (item law_tree_v (.int 1) σ3074) (.mk fun v3075 σ3076 =>
 @qb _ _ (eE AV) (item law_tree_v (.int 0) σ3076) (.mk fun v3077 σ3078 =>
 @qk _ _ (eE AV) (cf "_law_seen" [v3075, v3077, law_pairs_v] σ3078) (.mk fun v3079 σ3080 =>
 @qb _ _ (eE AV) (lstR σ3080 law_pairs_v fun _ => .ok () σ3080) (.mk fun _ σ3081 =>
 @qb _ _ (eE AV) (item law_tree_v (.int 2) σ3081) (.mk fun v3082 σ3083 =>
 @qb _ _ (eE AV) (item law_tree_v (.int 3) σ3083) (.mk fun v3084 σ3085 =>
 @qb _ _ (eE AV) (append law_pairs_v (.tup [v3082, v3084]) σ3085) (.mk fun v3086 σ3087 =>
 @qb _ _ (eE AV) (item law_tree_v (.int 4) σ3087) (.mk fun v3088 σ3089 =>
 @qb _ _ (eE AV) (item law_tree_v (.int 0) σ3089) (.mk fun v3090 σ3091 =>
 @qk _ _ (eE AV) (cf "_law_seen" [v3088, v3090, law_pairs_v] σ3091) (.mk fun v3092 σ3093 =>
 @qk _ _ (eE AV) (@qb _ _ (eE Bool) (cmpop .Lt v3079 (.int 0) σ3093) (.mk fun v4094 σ4095 =>
 @qb _ _ (eE Bool) (truthO v4094 σ4095) (.mk fun b4096 σ4097 =>
 @bq _ b4096 (.mk (.ok true σ4097)) (.mk (@qb _ _ (eE Bool) (cmpop .NotEq v3079 v3092 σ4097) (.mk fun v4098 σ4099 =>
 @qb _ _ (eE Bool) (truthO v4098 σ4099) (.mk fun b4100 σ4101 =>
 @bq _ b4100 (.mk (.ok true σ4101)) (.mk (@qb _ _ (eE Bool) (item law_tree_v (.int 5) σ4101) (.mk fun v4102 σ4103 =>
 @qb _ _ (eE Bool) (lenA [law_pairs_v] σ4103) (.mk fun v4104 σ4105 =>
 @qb _ _ (eE Bool) (binop .Sub v4104 v3073 σ4105) (.mk fun v4106 σ4107 =>
 @qb _ _ (eE Bool) (cmpop .NotEq v4102 v4106 σ4107) (.mk fun v4108 σ4109 =>
 @qb _ _ (eE Bool) (truthO v4108 σ4109) (.mk fun b4110 σ4111 =>
 @bq _ b4110 (.mk (.ok true σ4111)) (.mk (.ok false σ4111)))))))))))))))) (.mk fun c4112 σ4113 =>
 @bq _ c4112 (.mk (@qb _ _ (eE AV) (unop .USub (.int 1) σ4113) (.mk fun v4114 σ4115 =>
 .ok v4114 σ4115))) (.mk (@qb _ _ (eE AV) (item law_tree_v (.int 0) σ4113) (.mk fun v4116 σ4117 =>
 @qb _ _ (eE AV) (unop .Not v4116 σ4117) (.mk fun v4118 σ4119 =>
 @qb _ _ (eE AV) (intA [v4118] σ4119) (.mk fun v4120 σ4121 =>
 @qb _ _ (eE AV) (binop .Add v3079 v4120 σ4121) (.mk fun v4122 σ4123 =>
 .ok v4122 σ4123))))))))))))))))))))))))))) : Out AV) := by
  kernel_rfl

theorem law_sound_K (cf : Calls) (law_tree_v law_due_here_v : AV) (σ : Sto) : callBody PP cf "_law_sound" [law_tree_v, law_due_here_v] σ =
 (@qb _ _ (eE AV) (newL [] σ) (.mk fun v1 σ2 =>
 @qk _ _ (eE AV) (cf "_law_seen" [law_tree_v, (.bool true), v1] σ2) (.mk fun v3 σ4 =>
 @qb _ _ (eE AV) (cmpop .GtE v3 (.int 0) σ4) (.mk fun v5 σ6 =>
 @qb _ _ (eE AV) (truthO v5 σ6) (.mk fun b7 σ8 =>
 @bq _ b7 (.mk (@qk _ _ (eE AV) (cf "_law_same" [v1, law_due_here_v] σ8) (.mk fun v9 σ10 =>
 .ok v9 σ10))) (.mk (.ok v5 σ8)))))) : Out AV) := by
  kernel_rfl

theorem law_key_by_K (cf : Calls) (law_cell_v : AV) (σ : Sto) : callBody PP cf "_law_key_by" [law_cell_v] σ =
 (@qk _ _ (eE AV) (@qb _ _ (eE Bool) (binop .Mod law_cell_v (.int 5) σ) (.mk fun v1001 σ1002 =>
 @qb _ _ (eE Bool) (cmpop .Eq v1001 (.int 4) σ1002) (.mk fun v1003 σ1004 =>
 @qb _ _ (eE Bool) (truthO v1003 σ1004) (.mk fun b1005 σ1006 =>
 .ok b1005 σ1006)))) (.mk fun c1007 σ1008 =>
 @bq _ c1007 (.mk (@qb _ _ (eE AV) (binop .FloorDiv law_cell_v (.int 5) σ1008) (.mk fun v1009 σ1010 =>
 @qb _ _ (eE AV) (binop .Pow (.int 10) (.int 60) σ1010) (.mk fun v1011 σ1012 =>
 @qb _ _ (eE AV) (binop .Mult (.int 2) v1011 σ1012) (.mk fun v1013 σ1014 =>
 @qb _ _ (eE AV) (binop .Sub v1013 (.int 3) σ1014) (.mk fun v1015 σ1016 =>
 @qb _ _ (eE AV) (binop .Mod v1009 v1015 σ1016) (.mk fun v1017 σ1018 =>
 @qb _ _ (eE AV) (binop .Pow (.int 10) (.int 60) σ1018) (.mk fun v1019 σ1020 =>
 @qb _ _ (eE AV) (binop .Sub v1019 (.int 2) σ1020) (.mk fun v1021 σ1022 =>
 @qb _ _ (eE AV) (binop .Sub v1017 v1021 σ1022) (.mk fun v1023 σ1024 =>
 .ok v1023 σ1024)))))))))) (.mk (@qb _ _ (eE AV) (binop .FloorDiv law_cell_v (.int 5) σ1008) (.mk fun v1025 σ1026 =>
 @qb _ _ (eE AV) (binop .Mod v1025 (.int 29) σ1026) (.mk fun v1027 σ1028 =>
 @qb _ _ (eE AV) (binop .Sub v1027 (.int 14) σ1028) (.mk fun v1029 σ1030 =>
 .ok v1029 σ1030)))))) : Out AV) := by
  kernel_rfl

theorem law_row_of_K (cf : Calls) (law_cell_v : AV) (σ : Sto) : callBody PP cf "_law_row_of" [law_cell_v] σ =
 (@qb _ _ (eE AV) (binop .Mod law_cell_v (.int 9) σ) (.mk fun v1 σ2 =>
 @qk _ _ (eE AV) (@qb _ _ (eE Bool) (binop .FloorDiv law_cell_v (.int 9) σ2) (.mk fun v1003 σ1004 =>
 @qb _ _ (eE Bool) (binop .Mod v1003 (.int 6) σ1004) (.mk fun v1005 σ1006 =>
 @qb _ _ (eE Bool) (cmpop .Eq v1005 (.int 5) σ1006) (.mk fun v1007 σ1008 =>
 @qb _ _ (eE Bool) (truthO v1007 σ1008) (.mk fun b1009 σ1010 =>
 .ok b1009 σ1010))))) (.mk fun c1011 σ1012 =>
 @bq _ c1011 (.mk (@qb _ _ (eE AV) (binop .FloorDiv law_cell_v (.int 54) σ1012) (.mk fun v1013 σ1014 =>
 @qb _ _ (eE AV) (binop .Mod v1013 (.int 60) σ1014) (.mk fun v1015 σ1016 =>
 @qb _ _ (eE AV) (binop .FloorDiv law_cell_v (.int 9) σ1016) (.mk fun v1017 σ1018 =>
 @qk _ _ (eE AV) (cf "_law_rising" [v1017, v1015] σ1018) (.mk fun v1019 σ1020 =>
 .ok v1019 σ1020)))))) (.mk (@qb _ _ (eE AV) (binop .FloorDiv law_cell_v (.int 9) σ1012) (.mk fun v1021 σ1022 =>
 @qk _ _ (eE AV) (cf "_law_rising" [v1021, v1] σ1022) (.mk fun v1023 σ1024 =>
 .ok v1023 σ1024)))))) : Out AV) := by
  kernel_rfl

theorem law_paired_K (cf : Calls) (law_row_v law_cell_v : AV) (σ : Sto) : callBody PP cf "_law_paired" [law_row_v, law_cell_v] σ =
 (@qk _ _ (eE AV) (cf "_law_key_by" [law_cell_v] σ) (.mk fun v1 σ2 =>
 @qb _ _ (eE AV) (binop .FloorDiv law_cell_v (.int 3) σ2) (.mk fun v3 σ4 =>
 @qk _ _ (eE AV) (cf "_law_thing" [v3] σ4) (.mk fun v5 σ6 =>
 @qb _ _ (eE AV) (srcOf law_row_v σ6) (.mk fun s7 σ8 =>
 @qb _ _ (eE AV) (cpS (fun x9 σ10 =>
 @qb _ _ (eE (Option AV)) (item x9 (.int 0) σ10) (.mk fun v111 σ112 =>
 @qb _ _ (eE (Option AV)) (cmpop .Lt v111 v1 σ112) (.mk fun v113 σ114 =>
 @qb _ _ (eE (Option AV)) (truthO v113 σ114) (.mk fun b115 σ116 =>
 @bq _ b115 (.mk (.ok (some x9) σ116)) (.mk (.ok Option.none σ116)))))) s7 bigN 0 [] σ8) (.mk fun xs117 σ118 =>
 @qb _ _ (eE AV) (newL xs117 σ118) (.mk fun v119 σ120 =>
 @qb _ _ (eE AV) (newL [(.tup [v1, v5])] σ120) (.mk fun v121 σ122 =>
 @qb _ _ (eE AV) (binop .Add v119 v121 σ122) (.mk fun v123 σ124 =>
 @qb _ _ (eE AV) (srcOf law_row_v σ124) (.mk fun s125 σ126 =>
 @qb _ _ (eE AV) (cpS (fun x127 σ128 =>
 @qb _ _ (eE (Option AV)) (item x127 (.int 0) σ128) (.mk fun v229 σ230 =>
 @qb _ _ (eE (Option AV)) (cmpop .Gt v229 v1 σ230) (.mk fun v231 σ232 =>
 @qb _ _ (eE (Option AV)) (truthO v231 σ232) (.mk fun b233 σ234 =>
 @bq _ b233 (.mk (.ok (some x127) σ234)) (.mk (.ok Option.none σ234)))))) s125 bigN 0 [] σ126) (.mk fun xs235 σ236 =>
 @qb _ _ (eE AV) (newL xs235 σ236) (.mk fun v237 σ238 =>
 @qb _ _ (eE AV) (binop .Add v123 v237 σ238) (.mk fun v239 σ240 =>
 .ok v239 σ240)))))))))))) : Out AV) := by
  kernel_rfl

theorem law_due_K (cf : Calls) (law_kind_v law_one_v law_other_v law_cell_v : AV) (σ : Sto) : callBody PP cf "_law_due" [law_kind_v, law_one_v, law_other_v, law_cell_v] σ =
 (@qk _ _ (eE AV) (cf "_law_key_by" [law_cell_v] σ) (.mk fun v1 σ2 =>
 @qk _ _ (eE AV) (@qb _ _ (eE Bool) (cmpop .Lt law_kind_v (.int 4) σ2) (.mk fun v1003 σ1004 =>
 @qb _ _ (eE Bool) (truthO v1003 σ1004) (.mk fun b1005 σ1006 =>
 .ok b1005 σ1006))) (.mk fun c1007 σ1008 =>
 @bq _ c1007 (.mk (@qk _ _ (eE AV) (cf "_law_paired" [law_one_v, law_cell_v] σ1008) (.mk fun v1009 σ1010 =>
 .ok v1009 σ1010))) (.mk (@qk _ _ (eE AV) (@qb _ _ (eE Bool) (cmpop .Lt law_kind_v (.int 7) σ1008) (.mk fun v2011 σ2012 =>
 @qb _ _ (eE Bool) (truthO v2011 σ2012) (.mk fun b2013 σ2014 =>
 .ok b2013 σ2014))) (.mk fun c2015 σ2016 =>
 @bq _ c2015 (.mk (@qk _ _ (eE AV) (@qb _ _ (eE Bool) (srcOf law_one_v σ2016) (.mk fun s3017 σ3018 =>
 @qb _ _ (eE Bool) (cpS (fun x3019 σ3020 =>
 @qb _ _ (eE (Option AV)) (item x3019 (.int 0) σ3020) (.mk fun v3121 σ3122 =>
 @qb _ _ (eE (Option AV)) (cmpop .Eq v3121 v1 σ3122) (.mk fun v3123 σ3124 =>
 @qb _ _ (eE (Option AV)) (truthO v3123 σ3124) (.mk fun b3125 σ3126 =>
 @bq _ b3125 (.mk (.ok (some x3019) σ3126)) (.mk (.ok Option.none σ3126)))))) s3017 bigN 0 [] σ3018) (.mk fun xs3127 σ3128 =>
 @qb _ _ (eE Bool) (newL xs3127 σ3128) (.mk fun v3129 σ3130 =>
 @qb _ _ (eE Bool) (newL [] σ3130) (.mk fun v3131 σ3132 =>
 @qb _ _ (eE Bool) (cmpop .Eq v3129 v3131 σ3132) (.mk fun v3133 σ3134 =>
 @qb _ _ (eE Bool) (truthO v3133 σ3134) (.mk fun b3135 σ3136 =>
 .ok b3135 σ3136))))))) (.mk fun c3137 σ3138 =>
 @bq _ c3137 (.mk (.ok .none σ3138)) (.mk (@qb _ _ (eE AV) (srcOf law_one_v σ3138) (.mk fun s3139 σ3140 =>
 @qb _ _ (eE AV) (cpS (fun x3141 σ3142 =>
 @qb _ _ (eE (Option AV)) (item x3141 (.int 0) σ3142) (.mk fun v3243 σ3244 =>
 @qb _ _ (eE (Option AV)) (cmpop .NotEq v3243 v1 σ3244) (.mk fun v3245 σ3246 =>
 @qb _ _ (eE (Option AV)) (truthO v3245 σ3246) (.mk fun b3247 σ3248 =>
 @bq _ b3247 (.mk (.ok (some x3141) σ3248)) (.mk (.ok Option.none σ3248)))))) s3139 bigN 0 [] σ3140) (.mk fun xs3249 σ3250 =>
 @qb _ _ (eE AV) (newL xs3249 σ3250) (.mk fun v3251 σ3252 =>
 .ok v3251 σ3252)))))))) (.mk (@qk _ _ (eE AV) (@qb _ _ (eE Bool) (cmpop .Eq law_kind_v (.int 7) σ2016) (.mk fun v4253 σ4254 =>
 @qb _ _ (eE Bool) (truthO v4253 σ4254) (.mk fun b4255 σ4256 =>
 .ok b4255 σ4256))) (.mk fun c4257 σ4258 =>
 @bq _ c4257 (.mk (@qk _ _ (eE AV) (cf "_law_row_of" [law_cell_v] σ4258) (.mk fun v4259 σ4260 =>
 .ok v4259 σ4260))) (.mk (@qk _ _ (eE AV) (@qb _ _ (eE Bool) (cmpop .Eq law_kind_v (.int 8) σ4258) (.mk fun v5261 σ5262 =>
 @qb _ _ (eE Bool) (truthO v5261 σ5262) (.mk fun b5263 σ5264 =>
 .ok b5263 σ5264))) (.mk fun c5265 σ5266 =>
 @bq _ c5265 (.mk (@qk _ _ (eE AV) (@qb _ _ (eE Bool) (truthO law_one_v σ5266) (.mk fun b6267 σ6268 =>
 @bq _ b6267 (.mk (@qb _ _ (eE Bool) (unop .USub (.int 1) σ6268) (.mk fun v6269 σ6270 =>
 @qb _ _ (eE Bool) (item law_one_v v6269 σ6270) (.mk fun v6271 σ6272 =>
 @qb _ _ (eE Bool) (item v6271 (.int 0) σ6272) (.mk fun v6273 σ6274 =>
 @qb _ _ (eE Bool) (cmpop .GtE v6273 v1 σ6274) (.mk fun v6275 σ6276 =>
 @qb _ _ (eE Bool) (truthO v6275 σ6276) (.mk fun b6277 σ6278 =>
 @bq _ b6277 (.mk (@bq _ true (.mk (.ok true σ6278)) (.mk (@qb _ _ (eE Bool) (truthO law_other_v σ6278) (.mk fun b6279 σ6280 =>
 @bq _ b6279 (.mk (@qb _ _ (eE Bool) (item law_other_v (.int 0) σ6280) (.mk fun v6281 σ6282 =>
 @qb _ _ (eE Bool) (item v6281 (.int 0) σ6282) (.mk fun v6283 σ6284 =>
 @qb _ _ (eE Bool) (cmpop .LtE v6283 v1 σ6284) (.mk fun v6285 σ6286 =>
 @qb _ _ (eE Bool) (truthO v6285 σ6286) (.mk fun b6287 σ6288 =>
 @bq _ b6287 (.mk (@bq _ true (.mk (.ok true σ6288)) (.mk (.ok false σ6288)))) (.mk (@bq _ false (.mk (.ok true σ6288)) (.mk (.ok false σ6288)))))))))) (.mk (@bq _ false (.mk (.ok true σ6280)) (.mk (.ok false σ6280))))))))) (.mk (@bq _ false (.mk (.ok true σ6278)) (.mk (@qb _ _ (eE Bool) (truthO law_other_v σ6278) (.mk fun b6289 σ6290 =>
 @bq _ b6289 (.mk (@qb _ _ (eE Bool) (item law_other_v (.int 0) σ6290) (.mk fun v6291 σ6292 =>
 @qb _ _ (eE Bool) (item v6291 (.int 0) σ6292) (.mk fun v6293 σ6294 =>
 @qb _ _ (eE Bool) (cmpop .LtE v6293 v1 σ6294) (.mk fun v6295 σ6296 =>
 @qb _ _ (eE Bool) (truthO v6295 σ6296) (.mk fun b6297 σ6298 =>
 @bq _ b6297 (.mk (@bq _ true (.mk (.ok true σ6298)) (.mk (.ok false σ6298)))) (.mk (@bq _ false (.mk (.ok true σ6298)) (.mk (.ok false σ6298)))))))))) (.mk (@bq _ false (.mk (.ok true σ6290)) (.mk (.ok false σ6290)))))))))))))))) (.mk (@bq _ false (.mk (.ok true σ6268)) (.mk (@qb _ _ (eE Bool) (truthO law_other_v σ6268) (.mk fun b6299 σ6300 =>
 @bq _ b6299 (.mk (@qb _ _ (eE Bool) (item law_other_v (.int 0) σ6300) (.mk fun v6301 σ6302 =>
 @qb _ _ (eE Bool) (item v6301 (.int 0) σ6302) (.mk fun v6303 σ6304 =>
 @qb _ _ (eE Bool) (cmpop .LtE v6303 v1 σ6304) (.mk fun v6305 σ6306 =>
 @qb _ _ (eE Bool) (truthO v6305 σ6306) (.mk fun b6307 σ6308 =>
 @bq _ b6307 (.mk (@bq _ true (.mk (.ok true σ6308)) (.mk (.ok false σ6308)))) (.mk (@bq _ false (.mk (.ok true σ6308)) (.mk (.ok false σ6308)))))))))) (.mk (@bq _ false (.mk (.ok true σ6300)) (.mk (.ok false σ6300))))))))))) (.mk fun c6309 σ6310 =>
 @bq _ c6309 (.mk (.ok .none σ6310)) (.mk (@qb _ _ (eE AV) (binop .FloorDiv law_cell_v (.int 3) σ6310) (.mk fun v6311 σ6312 =>
 @qk _ _ (eE AV) (cf "_law_thing" [v6311] σ6312) (.mk fun v6313 σ6314 =>
 @qb _ _ (eE AV) (newL [(.tup [v1, v6313])] σ6314) (.mk fun v6315 σ6316 =>
 @qb _ _ (eE AV) (binop .Add law_one_v v6315 σ6316) (.mk fun v6317 σ6318 =>
 @qb _ _ (eE AV) (binop .Add v6317 law_other_v σ6318) (.mk fun v6319 σ6320 =>
 .ok v6319 σ6320)))))))))) (.mk (@qk _ _ (eE AV) (@qb _ _ (eE Bool) (cmpop .Eq law_kind_v (.int 9) σ5266) (.mk fun v7321 σ7322 =>
 @qb _ _ (eE Bool) (truthO v7321 σ7322) (.mk fun b7323 σ7324 =>
 .ok b7323 σ7324))) (.mk fun c7325 σ7326 =>
 @bq _ c7325 (.mk (@qk _ _ (eE AV) (@qb _ _ (eE Bool) (truthO law_one_v σ7326) (.mk fun b8327 σ8328 =>
 @bq _ b8327 (.mk (@qb _ _ (eE Bool) (truthO law_other_v σ8328) (.mk fun b8329 σ8330 =>
 @bq _ b8329 (.mk (@qb _ _ (eE Bool) (unop .USub (.int 1) σ8330) (.mk fun v8331 σ8332 =>
 @qb _ _ (eE Bool) (item law_one_v v8331 σ8332) (.mk fun v8333 σ8334 =>
 @qb _ _ (eE Bool) (item v8333 (.int 0) σ8334) (.mk fun v8335 σ8336 =>
 @qb _ _ (eE Bool) (item law_other_v (.int 0) σ8336) (.mk fun v8337 σ8338 =>
 @qb _ _ (eE Bool) (item v8337 (.int 0) σ8338) (.mk fun v8339 σ8340 =>
 @qb _ _ (eE Bool) (cmpop .GtE v8335 v8339 σ8340) (.mk fun v8341 σ8342 =>
 @qb _ _ (eE Bool) (truthO v8341 σ8342) (.mk fun b8343 σ8344 =>
 @bq _ b8343 (.mk (.ok true σ8344)) (.mk (.ok false σ8344))))))))))) (.mk (.ok false σ8330))))) (.mk (.ok false σ8328)))) (.mk fun c8345 σ8346 =>
 @bq _ c8345 (.mk (.ok .none σ8346)) (.mk (@qb _ _ (eE AV) (binop .Add law_one_v law_other_v σ8346) (.mk fun v8347 σ8348 =>
 .ok v8347 σ8348)))))) (.mk (@qk _ _ (eE AV) (cf "_law_two" [law_kind_v, law_one_v, law_other_v] σ7326) (.mk fun v8349 σ8350 =>
 .ok v8349 σ8350))))))))))))))))) : Out AV) := by
  kernel_rfl

theorem law_done_K (cf : Calls) (law_kind_v law_one_v law_other_v law_cell_v : AV) (σ : Sto) : callBody PP cf "_law_done" [law_kind_v, law_one_v, law_other_v, law_cell_v] σ =
 (@qk _ _ (eE AV) (cf "_law_key_by" [law_cell_v] σ) (.mk fun v1 σ2 =>
 @qb _ _ (eE AV) (binop .FloorDiv law_cell_v (.int 3) σ2) (.mk fun v3 σ4 =>
 @qk _ _ (eE AV) (cf "_law_thing" [v3] σ4) (.mk fun v5 σ6 =>
 @qk _ _ (eE AV) (@qb _ _ (eE Bool) (cmpop .Lt law_kind_v (.int 4) σ6) (.mk fun v1007 σ1008 =>
 @qb _ _ (eE Bool) (truthO v1007 σ1008) (.mk fun b1009 σ1010 =>
 .ok b1009 σ1010))) (.mk fun c1011 σ1012 =>
 @bq _ c1011 (.mk (@qk _ _ (eE AV) (cf "put" [law_one_v, v1, v5] σ1012) (.mk fun v1013 σ1014 =>
 .ok v1013 σ1014))) (.mk (@qk _ _ (eE AV) (@qb _ _ (eE Bool) (cmpop .Lt law_kind_v (.int 7) σ1012) (.mk fun v2015 σ2016 =>
 @qb _ _ (eE Bool) (truthO v2015 σ2016) (.mk fun b2017 σ2018 =>
 .ok b2017 σ2018))) (.mk fun c2019 σ2020 =>
 @bq _ c2019 (.mk (@qk _ _ (eE AV) (cf "taken" [law_one_v, v1] σ2020) (.mk fun v2021 σ2022 =>
 .ok v2021 σ2022))) (.mk (@qk _ _ (eE AV) (@qb _ _ (eE Bool) (cmpop .Eq law_kind_v (.int 7) σ2020) (.mk fun v3023 σ3024 =>
 @qb _ _ (eE Bool) (truthO v3023 σ3024) (.mk fun b3025 σ3026 =>
 .ok b3025 σ3026))) (.mk fun c3027 σ3028 =>
 @bq _ c3027 (.mk (@qk _ _ (eE AV) (cf "_law_row_of" [law_cell_v] σ3028) (.mk fun v3029 σ3030 =>
 @qk _ _ (eE AV) (cf "raised" [v3029] σ3030) (.mk fun v3031 σ3032 =>
 .ok v3031 σ3032)))) (.mk (@qk _ _ (eE AV) (@qb _ _ (eE Bool) (cmpop .Eq law_kind_v (.int 8) σ3028) (.mk fun v4033 σ4034 =>
 @qb _ _ (eE Bool) (truthO v4033 σ4034) (.mk fun b4035 σ4036 =>
 .ok b4035 σ4036))) (.mk fun c4037 σ4038 =>
 @bq _ c4037 (.mk (@qk _ _ (eE AV) (cf "joined" [law_one_v, v1, v5, law_other_v] σ4038) (.mk fun v4039 σ4040 =>
 .ok v4039 σ4040))) (.mk (@qk _ _ (eE AV) (@qb _ _ (eE Bool) (cmpop .Eq law_kind_v (.int 9) σ4038) (.mk fun v5041 σ5042 =>
 @qb _ _ (eE Bool) (truthO v5041 σ5042) (.mk fun b5043 σ5044 =>
 .ok b5043 σ5044))) (.mk fun c5045 σ5046 =>
 @bq _ c5045 (.mk (@qk _ _ (eE AV) (cf "laid" [law_one_v, law_other_v] σ5046) (.mk fun v5047 σ5048 =>
 .ok v5047 σ5048))) (.mk (@qk _ _ (eE AV) (@qb _ _ (eE Bool) (cmpop .Eq law_kind_v (.int 10) σ5046) (.mk fun v6049 σ6050 =>
 @qb _ _ (eE Bool) (truthO v6049 σ6050) (.mk fun b6051 σ6052 =>
 .ok b6051 σ6052))) (.mk fun c6053 σ6054 =>
 @bq _ c6053 (.mk (@qk _ _ (eE AV) (cf "common" [law_one_v, law_other_v] σ6054) (.mk fun v6055 σ6056 =>
 .ok v6055 σ6056))) (.mk (@qk _ _ (eE AV) (@qb _ _ (eE Bool) (cmpop .Eq law_kind_v (.int 11) σ6054) (.mk fun v7057 σ7058 =>
 @qb _ _ (eE Bool) (truthO v7057 σ7058) (.mk fun b7059 σ7060 =>
 .ok b7059 σ7060))) (.mk fun c7061 σ7062 =>
 @bq _ c7061 (.mk (@qk _ _ (eE AV) (cf "without" [law_one_v, law_other_v] σ7062) (.mk fun v7063 σ7064 =>
 .ok v7063 σ7064))) (.mk (@qk _ _ (eE AV) (cf "united" [law_one_v, law_other_v] σ7062) (.mk fun v7065 σ7066 =>
 .ok v7065 σ7066))))))))))))))))))))))))) : Out AV) := by
  kernel_rfl

theorem law_cut_K (cf : Calls) (law_trees_v law_rows_v law_which_v law_other_v law_cell_v : AV) (σ : Sto) : callBody PP cf "_law_cut" [law_trees_v, law_rows_v, law_which_v, law_other_v, law_cell_v] σ =
 (@qk _ _ (eE AV) (cf "_law_key_by" [law_cell_v] σ) (.mk fun v1 σ2 =>
 @qb _ _ (eE AV) (item law_trees_v law_which_v σ2) (.mk fun v3 σ4 =>
 @qk _ _ (eE AV) (cf "cut_at" [v3, v1] σ4) (.mk fun v5 σ6 =>
 @qk _ _ (eE AV) (@qb _ _ (eE Bool) (isiA [v5, (.typ "tuple")] σ6) (.mk fun v1007 σ1008 =>
 @qb _ _ (eE Bool) (truthO v1007 σ1008) (.mk fun b1009 σ1010 =>
 @bq _ (!b1009) (.mk (.ok true σ1010)) (.mk (@qb _ _ (eE Bool) (lenA [v5] σ1010) (.mk fun v1011 σ1012 =>
 @qb _ _ (eE Bool) (cmpop .NotEq v1011 (.int 3) σ1012) (.mk fun v1013 σ1014 =>
 @qb _ _ (eE Bool) (truthO v1013 σ1014) (.mk fun b1015 σ1016 =>
 @bq _ b1015 (.mk (.ok true σ1016)) (.mk (.ok false σ1016)))))))))) (.mk fun c1017 σ1018 =>
 @bq _ c1017 (.mk (.ok (.bool false) σ1018)) (.mk (@qb _ _ (eE AV) (item law_rows_v law_which_v σ1018) (.mk fun v1019 σ1020 =>
 @qb _ _ (eE AV) (srcOf v1019 σ1020) (.mk fun s1021 σ1022 =>
 @qb _ _ (eE AV) (cpS (fun x1023 σ1024 =>
 @qb _ _ (eE (Option AV)) (item x1023 (.int 0) σ1024) (.mk fun v1125 σ1126 =>
 @qb _ _ (eE (Option AV)) (cmpop .Eq v1125 v1 σ1126) (.mk fun v1127 σ1128 =>
 @qb _ _ (eE (Option AV)) (truthO v1127 σ1128) (.mk fun b1129 σ1130 =>
 @bq _ b1129 (.mk (.ok (some x1023) σ1130)) (.mk (.ok Option.none σ1130)))))) s1021 bigN 0 [] σ1022) (.mk fun xs1131 σ1132 =>
 @qb _ _ (eE AV) (newL xs1131 σ1132) (.mk fun v1133 σ1134 =>
 @qk _ _ (eE AV) (@qb _ _ (eE Bool) (item v5 (.int 1) σ1134) (.mk fun v2135 σ2136 =>
 @qb _ _ (eE Bool) (cmpop .Is v2135 .none σ2136) (.mk fun v2137 σ2138 =>
 @qb _ _ (eE Bool) (truthO v2137 σ2138) (.mk fun b2139 σ2140 =>
 @bq _ b2139 (.mk (@qb _ _ (eE Bool) (newL [] σ2140) (.mk fun v2141 σ2142 =>
 @qb _ _ (eE Bool) (cmpop .NotEq v1133 v2141 σ2142) (.mk fun v2143 σ2144 =>
 @qb _ _ (eE Bool) (truthO v2143 σ2144) (.mk fun b2145 σ2146 =>
 @bq _ b2145 (.mk (@bq _ true (.mk (.ok true σ2146)) (.mk (@qb _ _ (eE Bool) (item v5 (.int 1) σ2146) (.mk fun v2147 σ2148 =>
 @qb _ _ (eE Bool) (cmpop .IsNot v2147 .none σ2148) (.mk fun v2149 σ2150 =>
 @qb _ _ (eE Bool) (truthO v2149 σ2150) (.mk fun b2151 σ2152 =>
 @bq _ b2151 (.mk (@qb _ _ (eE Bool) (item v5 (.int 1) σ2152) (.mk fun v2153 σ2154 =>
 @qb _ _ (eE Bool) (newL [v2153] σ2154) (.mk fun v2155 σ2156 =>
 @qb _ _ (eE Bool) (cmpop .NotEq v1133 v2155 σ2156) (.mk fun v2157 σ2158 =>
 @qb _ _ (eE Bool) (truthO v2157 σ2158) (.mk fun b2159 σ2160 =>
 @bq _ b2159 (.mk (@bq _ true (.mk (.ok true σ2160)) (.mk (.ok false σ2160)))) (.mk (@bq _ false (.mk (.ok true σ2160)) (.mk (.ok false σ2160)))))))))) (.mk (@bq _ false (.mk (.ok true σ2152)) (.mk (.ok false σ2152))))))))))) (.mk (@bq _ false (.mk (.ok true σ2146)) (.mk (@qb _ _ (eE Bool) (item v5 (.int 1) σ2146) (.mk fun v2161 σ2162 =>
 @qb _ _ (eE Bool) (cmpop .IsNot v2161 .none σ2162) (.mk fun v2163 σ2164 =>
 @qb _ _ (eE Bool) (truthO v2163 σ2164) (.mk fun b2165 σ2166 =>
 @bq _ b2165 (.mk (@qb _ _ (eE Bool) (item v5 (.int 1) σ2166) (.mk fun v2167 σ2168 =>
 @qb _ _ (eE Bool) (newL [v2167] σ2168) (.mk fun v2169 σ2170 =>
 @qb _ _ (eE Bool) (cmpop .NotEq v1133 v2169 σ2170) (.mk fun v2171 σ2172 =>
 @qb _ _ (eE Bool) (truthO v2171 σ2172) (.mk fun b2173 σ2174 =>
 @bq _ b2173 (.mk (@bq _ true (.mk (.ok true σ2174)) (.mk (.ok false σ2174)))) (.mk (@bq _ false (.mk (.ok true σ2174)) (.mk (.ok false σ2174)))))))))) (.mk (@bq _ false (.mk (.ok true σ2166)) (.mk (.ok false σ2166)))))))))))))))) (.mk (@bq _ false (.mk (.ok true σ2140)) (.mk (@qb _ _ (eE Bool) (item v5 (.int 1) σ2140) (.mk fun v2175 σ2176 =>
 @qb _ _ (eE Bool) (cmpop .IsNot v2175 .none σ2176) (.mk fun v2177 σ2178 =>
 @qb _ _ (eE Bool) (truthO v2177 σ2178) (.mk fun b2179 σ2180 =>
 @bq _ b2179 (.mk (@qb _ _ (eE Bool) (item v5 (.int 1) σ2180) (.mk fun v2181 σ2182 =>
 @qb _ _ (eE Bool) (newL [v2181] σ2182) (.mk fun v2183 σ2184 =>
 @qb _ _ (eE Bool) (cmpop .NotEq v1133 v2183 σ2184) (.mk fun v2185 σ2186 =>
 @qb _ _ (eE Bool) (truthO v2185 σ2186) (.mk fun b2187 σ2188 =>
 @bq _ b2187 (.mk (@bq _ true (.mk (.ok true σ2188)) (.mk (.ok false σ2188)))) (.mk (@bq _ false (.mk (.ok true σ2188)) (.mk (.ok false σ2188)))))))))) (.mk (@bq _ false (.mk (.ok true σ2180)) (.mk (.ok false σ2180))))))))))))))) (.mk fun c2189 σ2190 =>
 @bq _ c2189 (.mk (.ok (.bool false) σ2190)) (.mk (@qb _ _ (eE AV) (item law_rows_v law_which_v σ2190) (.mk fun v2191 σ2192 =>
 @qb _ _ (eE AV) (srcOf v2191 σ2192) (.mk fun s2193 σ2194 =>
 @qb _ _ (eE AV) (cpS (fun x2195 σ2196 =>
 @qb _ _ (eE (Option AV)) (item x2195 (.int 0) σ2196) (.mk fun v2297 σ2298 =>
 @qb _ _ (eE (Option AV)) (cmpop .Lt v2297 v1 σ2298) (.mk fun v2299 σ2300 =>
 @qb _ _ (eE (Option AV)) (truthO v2299 σ2300) (.mk fun b2301 σ2302 =>
 @bq _ b2301 (.mk (.ok (some x2195) σ2302)) (.mk (.ok Option.none σ2302)))))) s2193 bigN 0 [] σ2194) (.mk fun xs2303 σ2304 =>
 @qb _ _ (eE AV) (newL xs2303 σ2304) (.mk fun v2305 σ2306 =>
 @qb _ _ (eE AV) (setItem law_rows_v law_which_v v2305 σ2306) (.mk fun _ σ2307 =>
 @qb _ _ (eE AV) (srcOf v2191 σ2307) (.mk fun s2308 σ2309 =>
 @qb _ _ (eE AV) (cpS (fun x2310 σ2311 =>
 @qb _ _ (eE (Option AV)) (item x2310 (.int 0) σ2311) (.mk fun v2412 σ2413 =>
 @qb _ _ (eE (Option AV)) (cmpop .Gt v2412 v1 σ2413) (.mk fun v2414 σ2415 =>
 @qb _ _ (eE (Option AV)) (truthO v2414 σ2415) (.mk fun b2416 σ2417 =>
 @bq _ b2416 (.mk (.ok (some x2310) σ2417)) (.mk (.ok Option.none σ2417)))))) s2308 bigN 0 [] σ2309) (.mk fun xs2418 σ2419 =>
 @qb _ _ (eE AV) (newL xs2418 σ2419) (.mk fun v2420 σ2421 =>
 @qb _ _ (eE AV) (setItem law_rows_v law_other_v v2420 σ2421) (.mk fun _ σ2422 =>
 @qb _ _ (eE AV) (item v5 (.int 0) σ2422) (.mk fun v2423 σ2424 =>
 @qb _ _ (eE AV) (setItem law_trees_v law_which_v v2423 σ2424) (.mk fun _ σ2425 =>
 @qb _ _ (eE AV) (item v5 (.int 2) σ2425) (.mk fun v2426 σ2427 =>
 @qb _ _ (eE AV) (setItem law_trees_v law_other_v v2426 σ2427) (.mk fun _ σ2428 =>
 @qb _ _ (eE AV) (item v5 (.int 0) σ2428) (.mk fun v2429 σ2430 =>
 @qb _ _ (eE AV) (item law_rows_v law_which_v σ2430) (.mk fun v2431 σ2432 =>
 @qk _ _ (eE AV) (cf "_law_sound" [v2429, v2431] σ2432) (.mk fun v2433 σ2434 =>
 @qb _ _ (eE AV) (truthO v2433 σ2434) (.mk fun b2435 σ2436 =>
 @bq _ b2435 (.mk (@qb _ _ (eE AV) (item v5 (.int 2) σ2436) (.mk fun v2437 σ2438 =>
 @qb _ _ (eE AV) (item law_rows_v law_other_v σ2438) (.mk fun v2439 σ2440 =>
 @qk _ _ (eE AV) (cf "_law_sound" [v2437, v2439] σ2440) (.mk fun v2441 σ2442 =>
 .ok v2441 σ2442))))) (.mk (.ok v2433 σ2436)))))))))))))))))))))))))))))))) : Out AV) := by
  kernel_rfl

end Mine

/- M1 -/
set_option tactic.hygienic false
/-! Mine: plain trees and what the program's functions do with them. -/
namespace Mine.L
open PySem
set_option linter.unusedVariables false
set_option maxRecDepth 100000
set_option linter.unusedSimpArgs false

inductive Tr where
  | leaf
  | node (p : Bool) (l : Tr) (k : Int) (v : AV) (r : Tr)

namespace Tr
noncomputable def io : Tr → List (Int × AV)
  | leaf => []
  | node _ l k v r => io l ++ (k, v) :: io r
noncomputable def size (t : Tr) : Nat := t.io.length
noncomputable def red : Tr → Bool
  | leaf => false
  | node p _ _ _ _ => p
noncomputable def blk : Tr → Tr
  | leaf => leaf
  | node _ l k v r => node false l k v r
noncomputable def dep : Tr → Nat
  | leaf => 0
  | node _ l _ _ r => max (dep l) (dep r) + 1
noncomputable def BH : Tr → Nat → Prop
  | leaf, h => h = 0
  | node true l _ _ r, h => BH l h ∧ BH r h
  | node false l _ _ r, 0 => False
  | node false l _ _ r, h + 1 => BH l h ∧ BH r h
noncomputable def NR : Tr → Prop
  | leaf => True
  | node p l _ _ r => NR l ∧ NR r ∧ (p = true → red l = false ∧ red r = false)
end Tr
open Tr

noncomputable def enc : Tr → AV
  | .leaf => .none
  | .node p l k v r => .tup [.bool p, enc l, .int k, v, enc r, .int ((Tr.node p l k v r).size : Int)]

@[simp] theorem bq_true {R : Type} (a : R) (b : Th R) : @bq R true (.mk a) b = a := rfl
@[simp] theorem bq_false {R : Type} (a : Th R) (b : R) : @bq R false a (.mk b) = b := rfl
@[simp] theorem qbE_ok {α β : Type} (a : α) (σ : Sto) (f : α → Sto → Out β) : @qb _ _ (eE β) (.ok a σ) (.mk f) = f a σ := rfl
theorem qbE_okc {α β : Type} (a : α) (σ : Sto) (f : α → Sto → Out β) : @qb _ _ (eE β) (.ok a σ) (.mk f) = f a σ := congrArg (fun x => x) rfl
@[simp] theorem pkE_ok {α β : Type} (a : α) (σ : Sto) (f : α → Sto → Out β) : @qk _ _ (eE β) (.ok a σ) (.mk f) = f a σ := rfl
/-- the same, with a step that simp keeps -/
theorem bq_truec {R : Type} (a : R) (b : Th R) : @bq R true (.mk a) b = a := congrArg (fun x => x) rfl
theorem bq_falsec {R : Type} (a : Th R) (b : R) : @bq R false a (.mk b) = b := congrArg (fun x => x) rfl
theorem pkE_okc {α β : Type} (a : α) (σ : Sto) (f : α → Sto → Out β) : @qk _ _ (eE β) (.ok a σ) (.mk f) = f a σ := congrArg (fun x => x) rfl
@[simp] theorem pkE_exc {α β : Type} (c : Str) (σ : Sto) (f : α → Sto → Out β) : @qk _ _ (eE β) (.exc c σ) (.mk f) = .exc c σ := rfl
@[simp] theorem cmp_is (a : AV) (σ : Sto) : cmpop .Is a .none σ = .ok (.bool (isNone a)) σ := rfl
@[simp] theorem cmp_isnot (a : AV) (σ : Sto) : cmpop .IsNot a .none σ = .ok (.bool (!isNone a)) σ := rfl
theorem cmpEq (a b : AV) (σ : Sto) : cmpop .Eq a b σ = optR (eqv σ a b) fun r => .ok (.bool r) σ := rfl
theorem cmpNe (a b : AV) (σ : Sto) : cmpop .NotEq a b σ = optR (eqv σ a b) fun r => .ok (.bool (!r)) σ := rfl
theorem eqv_int (a b : Int) (σ : Sto) : eqv σ (.int a) (.int b) = some (a == b) := by
  show some (PyData.eqv (.int a) (.int b)) = _
  simp only [PyData.eqv]
@[simp] theorem cmp_eq (a b : Int) (σ : Sto) : cmpop .Eq (.int a) (.int b) σ = .ok (.bool (decide (a = b))) σ := by rw [cmpEq, eqv_int]; rfl
@[simp] theorem cmp_ne (a b : Int) (σ : Sto) : cmpop .NotEq (.int a) (.int b) σ = .ok (.bool (!decide (a = b))) σ := by rw [cmpNe, eqv_int]; rfl
@[simp] theorem cmp_lt (a b : Int) (σ : Sto) : cmpop .Lt (.int a) (.int b) σ = .ok (.bool (decide (a < b))) σ := rfl
@[simp] theorem cmp_le (a b : Int) (σ : Sto) : cmpop .LtE (.int a) (.int b) σ = .ok (.bool (decide (a ≤ b))) σ := rfl
@[simp] theorem cmp_gt (a b : Int) (σ : Sto) : cmpop .Gt (.int a) (.int b) σ = .ok (.bool (decide (a > b))) σ := rfl
@[simp] theorem cmp_ge (a b : Int) (σ : Sto) : cmpop .GtE (.int a) (.int b) σ = .ok (.bool (decide (a ≥ b))) σ := rfl
@[simp] theorem tr_bool (b : Bool) (σ : Sto) : truthO (.bool b) σ = .ok b σ := rfl
@[simp] theorem b_add (a b : Int) (σ : Sto) : binop .Add (.int a) (.int b) σ = .ok (.int (a + b)) σ := rfl
@[simp] theorem b_sub (a b : Int) (σ : Sto) : binop .Sub (.int a) (.int b) σ = .ok (.int (a - b)) σ := rfl
@[simp] theorem it6_0 (a b c d e f : AV) (σ : Sto) : item (.tup [a, b, c, d, e, f]) (.int 0) σ = .ok a σ := rfl
@[simp] theorem it6_1 (a b c d e f : AV) (σ : Sto) : item (.tup [a, b, c, d, e, f]) (.int 1) σ = .ok b σ := rfl
@[simp] theorem it6_2 (a b c d e f : AV) (σ : Sto) : item (.tup [a, b, c, d, e, f]) (.int 2) σ = .ok c σ := rfl
@[simp] theorem it6_3 (a b c d e f : AV) (σ : Sto) : item (.tup [a, b, c, d, e, f]) (.int 3) σ = .ok d σ := rfl
@[simp] theorem it6_4 (a b c d e f : AV) (σ : Sto) : item (.tup [a, b, c, d, e, f]) (.int 4) σ = .ok e σ := rfl
@[simp] theorem it6_5 (a b c d e f : AV) (σ : Sto) : item (.tup [a, b, c, d, e, f]) (.int 5) σ = .ok f σ := rfl
@[simp] theorem it2_0 (a b : AV) (σ : Sto) : item (.tup [a, b]) (.int 0) σ = .ok a σ := rfl
@[simp] theorem it2_1 (a b : AV) (σ : Sto) : item (.tup [a, b]) (.int 1) σ = .ok b σ := rfl
@[simp] theorem it3_0 (a b c : AV) (σ : Sto) : item (.tup [a, b, c]) (.int 0) σ = .ok a σ := rfl
@[simp] theorem it3_1 (a b c : AV) (σ : Sto) : item (.tup [a, b, c]) (.int 1) σ = .ok b σ := rfl
@[simp] theorem it3_2 (a b c : AV) (σ : Sto) : item (.tup [a, b, c]) (.int 2) σ = .ok c σ := rfl
@[simp] theorem isNone_leaf : isNone (enc .leaf) = true := rfl
@[simp] theorem isNone_node (p l k v r) : isNone (enc (.node p l k v r)) = false := rfl
@[simp] theorem isNone_none : isNone .none = true := rfl
@[simp] theorem isNone_tup (xs) : isNone (.tup xs) = false := rfl

/-- room that is known leaves room for less -/
theorem fu {k m : Nat} (h : k ≤ m) {j : Nat} (hj : Nat.ble j k = true := by rfl) : j ≤ m := Nat.le_trans (Nat.le_of_ble_eq_true hj) h
theorem un {n : Nat} {k : Nat} (h : k + 1 ≤ n) : ∃ m, n = m + 1 ∧ k ≤ m := ⟨n - 1, by omega, by omega⟩
theorem cN (n : Nat) (f : Str) (xs : List AV) (σ : Sto) : callN PP (n + 1) f xs σ = callBody PP (callN PP n) f xs σ := rfl

theorem size_of_ok {n : Nat} (h : 1 ≤ n) (t : Tr) (σ : Sto) : callN PP n "size_of" [enc t] σ = .ok (.int (t.size : Int)) σ := by
  obtain ⟨m, rfl, _⟩ := un h
  rw [cN, size_of_K]
  cases t <;> simp [enc, size, io]
theorem knot_ok {n : Nat} (h : 2 ≤ n) (p : Bool) (l : Tr) (k : Int) (v : AV) (r : Tr) (σ : Sto) : callN PP n "knot" [.bool p, enc l, .int k, v, enc r] σ = .ok (enc (.node p l k v r)) σ := by
  obtain ⟨m, rfl, h'⟩ := un h
  rw [cN, knot_K]
  simp only [size_of_ok h', pkE_ok, b_add, qbE_ok, enc, show ((l.size : Int) + 1 + r.size) = ((Tr.node p l k v r).size : Int) by simp [size, io]; omega]
theorem is_painted_ok {n : Nat} (h : 1 ≤ n) (t : Tr) (σ : Sto) : callN PP n "is_painted" [enc t] σ = .ok (.bool t.red) σ := by
  obtain ⟨m, rfl, _⟩ := un h
  rw [cN, is_painted_K]
  cases t <;> simp [enc, red]
theorem unpainted_ok {n : Nat} (h : 3 ≤ n) (t : Tr) (σ : Sto) : callN PP n "unpainted" [enc t] σ = .ok (enc t.blk) σ := by
  obtain ⟨m, rfl, h'⟩ := un h
  rw [cN, unpainted_K]
  rw [is_painted_ok (by omega)]
  cases t with
  | leaf => simp [enc, red, blk]
  | node p l k v r =>
    cases p
    · simp [enc, red, blk]
    · simp [red, blk, knot_ok h']
      simp [enc, knot_ok h']

/-- a block below a statement -/
noncomputable def subS (s : Stmt) : List Stmt := match s with
  | .If _ b _ _ => b
  | .While _ b _ _ => b
  | .For _ _ b _ _ => b
  | .Try b _ _ _ _ => b
  | _ => []
noncomputable def orS (s : Stmt) : List Stmt := match s with
  | .If _ _ o _ => o
  | _ => []
noncomputable def tstS (s : Stmt) : Option Expr := match s with
  | .While t _ _ _ => some t
  | _ => Option.none
/-- statements from a place on: i, or the i-th one's body, or (behind a hundred) its else -/
noncomputable def getB : List Nat → List Stmt → List Stmt
  | [], ss => ss
  | i :: p, ss => (match p with
    | [] => ss.drop i
    | _ :: _ => (match ss.drop (i % 100) with
      | s :: _ => getB p (bif Nat.ble 100 i then orS s else subS s)
      | [] => []))
noncomputable def restW (f : Str) (p : List Nat) (cf : Calls) (l : Loc) (σ : Sto) : WS := optS (PP.fn f) fun t => exsW (lex PP cf (13 - p.length)) t.2.2 (getB p t.2.1) l σ
/-- what follows a place, as a call's end and as a block's -/
noncomputable def restK (f : Str) (p : List Nat) (cf : Calls) (l : Loc) (σ : Sto) : Out AV := (restW f p cf l σ).f (Out AV) ktO fun _ σ => .ok .none σ
noncomputable def restS (f : Str) (p : List Nat) (cf : Calls) (l : Loc) (σ : Sto) : OutS := (restW f p cf l σ).run
/-- the test of a while -/
noncomputable def whT (f : Str) (i : Nat) (cf : Calls) (l : Loc) (σ : Sto) : Out Bool := (optW (PP.fn f) fun t => (optW (t.2.1[i]?.bind tstS) fun e => (lev PP cf 24).t t.2.2 e l σ)).run
noncomputable def whB (f : Str) (i : Nat) (cf : Calls) (l : Loc) (σ : Sto) : OutS := restS f [i, 0] cf l σ

theorem whileG_stop {T : Loc → Sto → Out Bool} {B : Loc → Sto → OutS} {f : Nat} {l : Loc} {σ : Sto} (h : T l σ = .ok false σ) : whileG T B (f + 1) l σ = .ok .next l σ := by
  simp [whileG, h]
theorem whileG_go {T : Loc → Sto → Out Bool} {B : Loc → Sto → OutS} {f : Nat} {l l' : Loc} {σ : Sto} (h : T l σ = .ok true σ) (hb : B l σ = .ok .next l' σ) : whileG T B (f + 1) l σ = whileG T B f l' σ := by
  simp [whileG, h, hb]

theorem height_of_K (cf : Calls) (t : AV) (σ : Sto) : callBody PP cf "height_of" [t] σ =
    sk ktO (whileG (whT "height_of" 1 cf) (whB "height_of" 1 cf) 1000 [("tree", t), ("found", .int 0)] σ) (fun l σ => restK "height_of" [2] cf l σ) := by
  kernel_rfl
theorem height_of_R (cf : Calls) (t f : AV) (σ : Sto) : restK "height_of" [2] cf [("tree", t), ("found", f)] σ = .ok f σ := by kernel_rfl
theorem height_of_T (cf : Calls) (t f : AV) (σ : Sto) : whT "height_of" 1 cf [("tree", t), ("found", f)] σ = @qb _ _ (eE Bool) (cmpop .IsNot t .none σ) (.mk fun v σ => @qb _ _ (eE Bool) (truthO v σ) (.mk fun b σ => .ok b σ)) := by
  kernel_rfl
theorem height_of_B (cf : Calls) (t f : AV) (σ : Sto) : whB "height_of" 1 cf [("tree", t), ("found", f)] σ =
    @qk _ _ (ktS.e [("tree", t), ("found", f)]) (@qb _ _ (eE Bool) (item t (.int 0) σ) (.mk fun v σ => @qb _ _ (eE Bool) (truthO v σ) (.mk fun b σ => .ok (!b) σ))) (.mk fun c σ =>
      @bq _ (c) (.mk (@qb _ _ (ktS.e [("tree", t), ("found", f)]) (binop .Add f (.int 1) σ) (.mk fun v σ => @qb _ _ (ktS.e [("tree", t), ("found", v)]) (item t (.int 1) σ) (.mk fun u σ => .ok .next [("tree", u), ("found", v)] σ)))) (.mk (@qb _ _ (ktS.e [("tree", t), ("found", f)]) (item t (.int 1) σ) (.mk fun u σ => .ok .next [("tree", u), ("found", f)] σ)))) := by
  kernel_rfl

end Mine.L

/- M2 -/
set_option tactic.hygienic false
/-! Mine: plain trees, the walks. -/
namespace Mine.L
open PySem Tr
set_option linter.unusedVariables false
set_option maxRecDepth 100000
set_option linter.unusedSimpArgs false

@[simp] theorem qbS_ok {α : Type} (l : Loc) (a : α) (σ : Sto) (f : α → Sto → OutS) : @qb _ _ (ktS.e l) (.ok a σ) (.mk f) = f a σ := rfl
@[simp] theorem pkS_ok {α : Type} (l : Loc) (a : α) (σ : Sto) (f : α → Sto → OutS) : @qk _ _ (ktS.e l) (.ok a σ) (.mk f) = f a σ := rfl
@[simp] theorem skO_next (l : Loc) (σ : Sto) (k : Loc → Sto → Out AV) : sk ktO (.ok .next l σ) k = k l σ := rfl
@[simp] theorem skO_ret (v : AV) (l : Loc) (σ : Sto) (k : Loc → Sto → Out AV) : sk ktO (.ok (.ret v) l σ) k = .ok v σ := rfl
@[simp] theorem skO_exc (c : Str) (l : Loc) (σ : Sto) (k : Loc → Sto → Out AV) : sk ktO (.exc c l σ) k = .exc c σ := rfl

theorem height_loop (cf : Calls) (σ : Sto) : ∀ (t : Tr) (h f : Nat) (found : Int), BH t h → dep t < f →
    whileG (whT "height_of" 1 cf) (whB "height_of" 1 cf) f [("tree", enc t), ("found", .int found)] σ = .ok .next [("tree", .none), ("found", .int (found + h))] σ
  | .leaf, h, f + 1, found, hb, _ => by
    simp only [BH] at hb; subst hb
    rw [whileG_stop]
    · simp [enc]
    · rw [height_of_T]; simp
  | .node p l k v r, h, f + 1, found, hb, hf => by
    simp only [dep] at hf
    rw [whileG_go (l' := [("tree", enc l), ("found", .int (found + bif p then 0 else 1))])]
    · cases p with
      | true =>
        simp only [BH] at hb
        rw [height_loop cf σ l h f _ hb.1 (by omega)]; simp
      | false =>
        cases h with
        | zero => exact hb.elim
        | succ h =>
          simp only [BH] at hb
          rw [height_loop cf σ l h f _ hb.1 (by omega)]
          simp; omega
    · rw [height_of_T]; simp
    · rw [height_of_B]
      cases p <;> simp [enc]
theorem height_of_ok {n : Nat} (hn : 1 ≤ n) {t : Tr} {h : Nat} (hb : BH t h) (hd : dep t < 1000) (σ : Sto) : callN PP n "height_of" [enc t] σ = .ok (.int h) σ := by
  obtain ⟨m, rfl, _⟩ := un hn
  rw [cN, height_of_K, height_loop _ _ t h 1000 0 hb hd]
  rw [skO_next, height_of_R]; simp

theorem greatest_K (cf : Calls) (t : AV) (σ : Sto) : callBody PP cf "greatest" [t] σ =
    sk ktO (whileG (whT "greatest" 0 cf) (whB "greatest" 0 cf) 1000 [("tree", t)] σ) (fun l σ => restK "greatest" [1] cf l σ) := by
  kernel_rfl
theorem greatest_R (cf : Calls) (t : AV) (σ : Sto) : restK "greatest" [1] cf [("tree", t)] σ = .ok t σ := by kernel_rfl
theorem greatest_T (cf : Calls) (t : AV) (σ : Sto) : whT "greatest" 0 cf [("tree", t)] σ = @qb _ _ (eE Bool) (item t (.int 4) σ) (.mk fun v σ => @qb _ _ (eE Bool) (cmpop .IsNot v .none σ) (.mk fun v σ => @qb _ _ (eE Bool) (truthO v σ) (.mk fun b σ => .ok b σ))) := by
  kernel_rfl
theorem greatest_B (cf : Calls) (t : AV) (σ : Sto) : whB "greatest" 0 cf [("tree", t)] σ = @qb _ _ (ktS.e [("tree", t)]) (item t (.int 4) σ) (.mk fun u σ => .ok .next [("tree", u)] σ) := by
  kernel_rfl
theorem least_K (cf : Calls) (t : AV) (σ : Sto) : callBody PP cf "least" [t] σ =
    sk ktO (whileG (whT "least" 0 cf) (whB "least" 0 cf) 1000 [("tree", t)] σ) (fun l σ => restK "least" [1] cf l σ) := by
  kernel_rfl
theorem least_R (cf : Calls) (t : AV) (σ : Sto) : restK "least" [1] cf [("tree", t)] σ = .ok t σ := by kernel_rfl
theorem least_T (cf : Calls) (t : AV) (σ : Sto) : whT "least" 0 cf [("tree", t)] σ = @qb _ _ (eE Bool) (item t (.int 1) σ) (.mk fun v σ => @qb _ _ (eE Bool) (cmpop .IsNot v .none σ) (.mk fun v σ => @qb _ _ (eE Bool) (truthO v σ) (.mk fun b σ => .ok b σ))) := by
  kernel_rfl
theorem least_B (cf : Calls) (t : AV) (σ : Sto) : whB "least" 0 cf [("tree", t)] σ = @qb _ _ (ktS.e [("tree", t)]) (item t (.int 1) σ) (.mk fun u σ => .ok .next [("tree", u)] σ) := by
  kernel_rfl

theorem greatest_loop : ∀ (t : Tr) (f : Nat) (p : Bool) (l : Tr) (k : Int) (v : AV), dep t < f →
    ∃ p' l' k' v' pre, (∀ cf σ, whileG (whT "greatest" 0 cf) (whB "greatest" 0 cf) f [("tree", enc (.node p l k v t))] σ = .ok .next [("tree", enc (.node p' l' k' v' .leaf))] σ) ∧ io (.node p l k v t) = pre ++ [(k', v')]
  | .leaf, f + 1, p, l, k, v, _ => by
    refine ⟨p, l, k, v, io l, fun cf σ => ?_, by simp [io]⟩
    rw [whileG_stop]
    rw [greatest_T]; simp [enc]
  | .node p₁ l₁ k₁ v₁ r₁, f + 1, p, l, k, v, hf => by
    simp only [dep] at hf
    obtain ⟨p', l', k', v', pre, h1, h2⟩ := greatest_loop r₁ f p₁ l₁ k₁ v₁ (by omega)
    refine ⟨p', l', k', v', io l ++ (k, v) :: pre, fun cf σ => ?_, ?_⟩
    · rw [whileG_go (l' := [("tree", enc (.node p₁ l₁ k₁ v₁ r₁))])]
      · exact h1 cf σ
      · rw [greatest_T]; simp [enc]
      · rw [greatest_B]; simp [enc]
    · rw [io, h2]; simp
theorem greatest_ok {t : Tr} (ht : t ≠ .leaf) (hd : dep t < 1000) : ∃ p' l' k' v' pre, (∀ n σ, 1 ≤ n → callN PP n "greatest" [enc t] σ = .ok (enc (.node p' l' k' v' .leaf)) σ) ∧ io t = pre ++ [(k', v')] := by
  cases t with
  | leaf => exact absurd rfl ht
  | node p l k v r =>
    simp only [dep] at hd
    obtain ⟨p', l', k', v', pre, h1, h2⟩ := greatest_loop r 1000 p l k v (by omega)
    refine ⟨p', l', k', v', pre, fun n σ hn => ?_, h2⟩
    obtain ⟨m, rfl, _⟩ := un hn
    rw [cN, greatest_K, h1, skO_next, greatest_R]

theorem least_loop : ∀ (t : Tr) (f : Nat) (p : Bool) (r : Tr) (k : Int) (v : AV), dep t < f →
    ∃ p' r' k' v' post, (∀ cf σ, whileG (whT "least" 0 cf) (whB "least" 0 cf) f [("tree", enc (.node p t k v r))] σ = .ok .next [("tree", enc (.node p' .leaf k' v' r'))] σ) ∧ io (.node p t k v r) = (k', v') :: post
  | .leaf, f + 1, p, r, k, v, _ => by
    refine ⟨p, r, k, v, io r, fun cf σ => ?_, by simp [io]⟩
    rw [whileG_stop]
    rw [least_T]; simp [enc]
  | .node p₁ l₁ k₁ v₁ r₁, f + 1, p, r, k, v, hf => by
    simp only [dep] at hf
    obtain ⟨p', l', k', v', post, h1, h2⟩ := least_loop l₁ f p₁ r₁ k₁ v₁ (by omega)
    refine ⟨p', l', k', v', post ++ (k, v) :: io r, fun cf σ => ?_, ?_⟩
    · rw [whileG_go (l' := [("tree", enc (.node p₁ l₁ k₁ v₁ r₁))])]
      · exact h1 cf σ
      · rw [least_T]; simp [enc]
      · rw [least_B]; simp [enc]
    · rw [io, h2]; simp
theorem least_ok {t : Tr} (ht : t ≠ .leaf) (hd : dep t < 1000) : ∃ p' r' k' v' post, (∀ n σ, 1 ≤ n → callN PP n "least" [enc t] σ = .ok (enc (.node p' .leaf k' v' r')) σ) ∧ io t = (k', v') :: post := by
  cases t with
  | leaf => exact absurd rfl ht
  | node p l k v r =>
    simp only [dep] at hd
    obtain ⟨p', l', k', v', pre, h1, h2⟩ := least_loop l 1000 p r k v (by omega)
    refine ⟨p', l', k', v', pre, fun n σ hn => ?_, h2⟩
    obtain ⟨m, rfl, _⟩ := un hn
    rw [cN, least_K, h1, skO_next, least_R]
end Mine.L

/- M3 -/
set_option tactic.hygienic false
/-! Mine: plain trees, joining. -/
namespace Mine.L
open PySem Tr
set_option linter.unusedVariables false
set_option maxRecDepth 100000
set_option linter.unusedSimpArgs false

@[simp] theorem ei0 (p l k v r) (σ : Sto) : item (enc (.node p l k v r)) (.int 0) σ = .ok (.bool p) σ := rfl
@[simp] theorem ei1 (p l k v r) (σ : Sto) : item (enc (.node p l k v r)) (.int 1) σ = .ok (enc l) σ := rfl
@[simp] theorem ei2 (p l k v r) (σ : Sto) : item (enc (.node p l k v r)) (.int 2) σ = .ok (.int k) σ := rfl
@[simp] theorem ei3 (p l k v r) (σ : Sto) : item (enc (.node p l k v r)) (.int 3) σ = .ok v σ := rfl
@[simp] theorem ei4 (p l k v r) (σ : Sto) : item (enc (.node p l k v r)) (.int 4) σ = .ok (enc r) σ := rfl
@[simp] theorem ei5 (p l k v r) (σ : Sto) : item (enc (.node p l k v r)) (.int 5) σ = .ok (.int (size (.node p l k v r) : Int)) σ := rfl

theorem red_node (p l k v r) : red (.node p l k v r) = p := rfl
theorem red_leaf : red .leaf = false := rfl
theorem io_blk (t : Tr) : io (blk t) = io t := by cases t <;> rfl
theorem NR_blk {t : Tr} (h : NR t) : NR (blk t) := by
  cases t with
  | leaf => trivial
  | node p l k v r => exact ⟨h.1, h.2.1, fun z => by cases z⟩
theorem red_blk (t : Tr) : red (blk t) = false := by cases t <;> rfl
theorem BH_blk {t : Tr} {h : Nat} (x : BH t h) : ∃ h', BH (blk t) h' := by
  cases t with
  | leaf => exact ⟨0, rfl⟩
  | node p l k v r => cases p with
    | true => exact ⟨h + 1, x⟩
    | false => exact ⟨h, x⟩
theorem BH_blk_red {t : Tr} {h : Nat} (x : BH t h) (r : red t = true) : BH (blk t) (h + 1) := by
  cases t with
  | leaf => cases r
  | node p l k v r' => cases p with
    | true => exact x
    | false => cases r
theorem dep_blk (t : Tr) : dep (blk t) = dep t := by cases t <;> rfl

noncomputable def AR : Tr → Prop
  | .leaf => False
  | .node p l _ _ r => NR l ∧ NR r ∧ (p = true → red l = false)
noncomputable def AL : Tr → Prop
  | .leaf => False
  | .node p l _ _ r => NR l ∧ NR r ∧ (p = true → red r = false)
theorem AR.blk {t : Tr} (h : AR t) : NR (Tr.blk t) := by
  cases t with
  | leaf => exact h.elim
  | node p l k v r => exact ⟨h.1, h.2.1, fun z => by cases z⟩
theorem AL.blk {t : Tr} (h : AL t) : NR (Tr.blk t) := by
  cases t with
  | leaf => exact h.elim
  | node p l k v r => exact ⟨h.1, h.2.1, fun z => by cases z⟩

theorem hung_right_ok (k : Int) (v : AV) (o : Tr) (w : Nat) (hob : BH o w) (hon : NR o) (hor : red o = false) : ∀ (one : Tr) (h : Nat), BH one h → NR one → w ≤ h →
    ∃ t, (∀ n σ, dep one + 5 ≤ n → callN PP n "hung_right" [enc one, .int h, .int k, v, enc o, .int w] σ = .ok (enc t) σ) ∧ io t = io one ++ (k, v) :: io o ∧ BH t h ∧ AR t ∧ (red one = false → NR t) := by
  intro one
  induction one with
  | leaf =>
    intro h hb _ hw
    simp only [BH] at hb; subst hb
    have : w = 0 := by omega
    subst this
    refine ⟨.node true .leaf k v o, fun n σ hn => ?_, rfl, ⟨rfl, hob⟩, ⟨trivial, hon, fun _ => rfl⟩, fun _ => ⟨trivial, hon, fun _ => ⟨rfl, hor⟩⟩⟩
    obtain ⟨m, rfl, hm⟩ := un (show 4 + 1 ≤ n by simp [dep] at hn; omega)
    rw [cN, hung_right_K]
    simp (disch := first | exact fu hm | omega) [is_painted_ok, knot_ok, red_node, red_leaf]
  | node p l k₁ v₁ r _ ihr =>
    intro h hb hn hw
    by_cases hst : h = w ∧ p = false
    · obtain ⟨rfl, rfl⟩ := hst
      refine ⟨.node true (.node false l k₁ v₁ r) k v o, fun n σ hn => ?_, rfl, ⟨hb, hob⟩, ⟨hn, hon, fun _ => rfl⟩, fun _ => ⟨hn, hon, fun _ => ⟨rfl, hor⟩⟩⟩
      obtain ⟨m, rfl, hm⟩ := un (show 4 + 1 ≤ n by simp [dep] at hn; omega)
      rw [cN, hung_right_K]
      simp (disch := first | exact fu hm | omega) [is_painted_ok, knot_ok, red_node, red_leaf]
    · cases p with
      | false =>
        have hne : h ≠ w := fun q => hst ⟨q, rfl⟩
        cases h with
        | zero => exact hb.elim
        | succ h =>
        simp only [BH] at hb
        obtain ⟨t', c1, c2, c3, c4, c5⟩ := ihr h hb.2 hn.2.1 (by first | exact fu hm | omega)
        have hne' : ¬ ((h : Int) + 1 = (w : Int)) := by omega
        have e1 : ((h : Int) + 1 - 1) = (h : Int) := by omega
        cases t' with
        | leaf => exact c4.elim
        | node q a k₂ v₂ b =>
          by_cases hr : q = true ∧ red b = true
          · obtain ⟨rfl, hrb⟩ := hr
            refine ⟨.node true (.node false l k₁ v₁ a) k₂ v₂ (blk b), fun n σ hn => ?_, ?_, ⟨⟨hb.1, c3.1⟩, BH_blk_red c3.2 hrb⟩, ⟨⟨hn.1, c4.1, fun z => by cases z⟩, NR_blk c4.2.1, fun _ => rfl⟩, fun _ => ⟨⟨hn.1, c4.1, fun z => by cases z⟩, NR_blk c4.2.1, fun _ => ⟨rfl, red_blk _⟩⟩⟩
            · simp only [dep] at hn
              obtain ⟨m, rfl, hm⟩ := un (show max (dep l) (dep r) + 5 + 1 ≤ n by omega)
              rw [cN, hung_right_K]
              have := c1 m σ (by first | exact fu hm | omega)
              simp (disch := first | exact fu hm | omega) [is_painted_ok, knot_ok, unpainted_ok, red_node, red_leaf, hne', e1, this, hrb]
            · simp only [io] at c2 ⊢
              rw [io_blk]
              simp only [List.append_assoc, List.cons_append] at c2 ⊢
              rw [c2]
          · refine ⟨.node false l k₁ v₁ (.node q a k₂ v₂ b), fun n σ hn => ?_, ?_, ⟨hb.1, c3⟩, ?_⟩
            · simp only [dep] at hn
              obtain ⟨m, rfl, hm⟩ := un (show max (dep l) (dep r) + 5 + 1 ≤ n by omega)
              rw [cN, hung_right_K]
              have := c1 m σ (by first | exact fu hm | omega)
              cases q with
              | false => simp (disch := first | exact fu hm | omega) [is_painted_ok, knot_ok, unpainted_ok, red_node, red_leaf, hne', e1, this]
              | true =>
                have hrb : red b = false := by simpa using hr
                simp (disch := first | exact fu hm | omega) [is_painted_ok, knot_ok, unpainted_ok, red_node, red_leaf, hne', e1, this, hrb]
            · simp only [io] at c2 ⊢
              rw [c2]; simp
            · have : NR (.node q a k₂ v₂ b) := ⟨c4.1, c4.2.1, fun z => ⟨c4.2.2 z, by subst z; simpa using hr⟩⟩
              exact ⟨⟨hn.1, this, fun z => by cases z⟩, fun _ => ⟨hn.1, this, fun z => by cases z⟩⟩
      | true =>
        simp only [BH] at hb
        obtain ⟨t', c1, c2, c3, c4, c5⟩ := ihr h hb.2 hn.2.1 (by first | exact fu hm | omega)
        have hlr := hn.2.2 rfl
        refine ⟨.node true l k₁ v₁ t', fun n σ hn => ?_, ?_, ⟨hb.1, c3⟩, ⟨hn.1, c5 hlr.2, fun _ => hlr.1⟩, fun z => by cases z⟩
        · simp only [dep] at hn
          obtain ⟨m, rfl, hm⟩ := un (show max (dep l) (dep r) + 5 + 1 ≤ n by omega)
          rw [cN, hung_right_K]
          have := c1 m σ (by first | exact fu hm | omega)
          cases hd : decide ((h : Int) = (w : Int)) <;> simp (disch := first | exact fu hm | omega) [is_painted_ok, knot_ok, unpainted_ok, red_node, red_leaf, this, hd]
        · simp only [io] at c2 ⊢
          rw [c2]; simp

theorem hung_left_ok (k : Int) (v : AV) (one : Tr) (w : Nat) (hob : BH one w) (hon : NR one) (hor : red one = false) : ∀ (o : Tr) (h : Nat), BH o h → NR o → w ≤ h →
    ∃ t, (∀ n σ, dep o + 5 ≤ n → callN PP n "hung_left" [enc one, .int w, .int k, v, enc o, .int h] σ = .ok (enc t) σ) ∧ io t = io one ++ (k, v) :: io o ∧ BH t h ∧ AL t ∧ (red o = false → NR t) := by
  intro o
  induction o with
  | leaf =>
    intro h hb _ hw
    simp only [BH] at hb; subst hb
    have : w = 0 := by omega
    subst this
    refine ⟨.node true one k v .leaf, fun n σ hn => ?_, rfl, ⟨hob, rfl⟩, ⟨hon, trivial, fun _ => rfl⟩, fun _ => ⟨hon, trivial, fun _ => ⟨hor, rfl⟩⟩⟩
    obtain ⟨m, rfl, hm⟩ := un (show 4 + 1 ≤ n by simp [dep] at hn; omega)
    rw [cN, hung_left_K]
    simp (disch := first | exact fu hm | omega) [is_painted_ok, knot_ok, red_node, red_leaf]
  | node p l k₁ v₁ r ihl _ =>
    intro h hb hn hw
    by_cases hst : h = w ∧ p = false
    · obtain ⟨rfl, rfl⟩ := hst
      refine ⟨.node true one k v (.node false l k₁ v₁ r), fun n σ hn => ?_, rfl, ⟨hob, hb⟩, ⟨hon, hn, fun _ => rfl⟩, fun _ => ⟨hon, hn, fun _ => ⟨hor, rfl⟩⟩⟩
      obtain ⟨m, rfl, hm⟩ := un (show 4 + 1 ≤ n by simp [dep] at hn; omega)
      rw [cN, hung_left_K]
      simp (disch := first | exact fu hm | omega) [is_painted_ok, knot_ok, red_node, red_leaf]
    · cases p with
      | false =>
        have hne : h ≠ w := fun q => hst ⟨q, rfl⟩
        cases h with
        | zero => exact hb.elim
        | succ h =>
        simp only [BH] at hb
        obtain ⟨t', c1, c2, c3, c4, c5⟩ := ihl h hb.1 hn.1 (by first | exact fu hm | omega)
        have hne' : ¬ ((h : Int) + 1 = (w : Int)) := by omega
        have e1 : ((h : Int) + 1 - 1) = (h : Int) := by omega
        cases t' with
        | leaf => exact c4.elim
        | node q a k₂ v₂ b =>
          by_cases hr : q = true ∧ red a = true
          · obtain ⟨rfl, hrb⟩ := hr
            refine ⟨.node true (blk a) k₂ v₂ (.node false b k₁ v₁ r), fun n σ hn => ?_, ?_, ⟨BH_blk_red c3.1 hrb, c3.2, hb.2⟩, ⟨NR_blk c4.1, ⟨c4.2.1, hn.2.1, fun z => by cases z⟩, fun _ => rfl⟩, fun _ => ⟨NR_blk c4.1, ⟨c4.2.1, hn.2.1, fun z => by cases z⟩, fun _ => ⟨red_blk _, rfl⟩⟩⟩
            · simp only [dep] at hn
              obtain ⟨m, rfl, hm⟩ := un (show max (dep l) (dep r) + 5 + 1 ≤ n by omega)
              rw [cN, hung_left_K]
              have := c1 m σ (by first | exact fu hm | omega)
              simp (disch := first | exact fu hm | omega) [is_painted_ok, knot_ok, unpainted_ok, red_node, red_leaf, hne', e1, this, hrb]
            · simp only [io] at c2 ⊢
              rw [io_blk]
              rw [show io a ++ (k₂, v₂) :: (io b ++ (k₁, v₁) :: io r) = (io a ++ (k₂, v₂) :: io b) ++ (k₁, v₁) :: io r by simp, c2]
              simp
          · refine ⟨.node false (.node q a k₂ v₂ b) k₁ v₁ r, fun n σ hn => ?_, ?_, ⟨c3, hb.2⟩, ?_⟩
            · simp only [dep] at hn
              obtain ⟨m, rfl, hm⟩ := un (show max (dep l) (dep r) + 5 + 1 ≤ n by omega)
              rw [cN, hung_left_K]
              have := c1 m σ (by first | exact fu hm | omega)
              cases q with
              | false => simp (disch := first | exact fu hm | omega) [is_painted_ok, knot_ok, unpainted_ok, red_node, red_leaf, hne', e1, this]
              | true =>
                have hrb : red a = false := by simpa using hr
                simp (disch := first | exact fu hm | omega) [is_painted_ok, knot_ok, unpainted_ok, red_node, red_leaf, hne', e1, this, hrb]
            · rw [io, c2]; simp [io]
            · have : NR (.node q a k₂ v₂ b) := ⟨c4.1, c4.2.1, fun z => ⟨by subst z; simpa using hr, c4.2.2 z⟩⟩
              exact ⟨⟨this, hn.2.1, fun z => by cases z⟩, fun _ => ⟨this, hn.2.1, fun z => by cases z⟩⟩
      | true =>
        simp only [BH] at hb
        obtain ⟨t', c1, c2, c3, c4, c5⟩ := ihl h hb.1 hn.1 (by first | exact fu hm | omega)
        have hlr := hn.2.2 rfl
        refine ⟨.node true t' k₁ v₁ r, fun n σ hn => ?_, ?_, ⟨c3, hb.2⟩, ⟨c5 hlr.1, hn.2.1, fun _ => hlr.2⟩, fun z => by cases z⟩
        · simp only [dep] at hn
          obtain ⟨m, rfl, hm⟩ := un (show max (dep l) (dep r) + 5 + 1 ≤ n by omega)
          rw [cN, hung_left_K]
          have := c1 m σ (by first | exact fu hm | omega)
          cases hd : decide ((h : Int) = (w : Int)) <;> simp (disch := first | exact fu hm | omega) [is_painted_ok, knot_ok, unpainted_ok, red_node, red_leaf, this, hd]
        · rw [io, c2]; simp [io]

/-- a tree without two reds in a row, as many blacks on each way -/
noncomputable def Good (t : Tr) : Prop := NR t ∧ ∃ h, BH t h

theorem BH_size : ∀ (t : Tr) (h : Nat), BH t h → 2 ^ h ≤ size t + 1
  | .leaf, h, b => by simp only [BH] at b; subst b; simp [size, io]
  | .node true l k v r, h, b => by
    have := BH_size l h b.1
    simp only [size, io, List.length_append, List.length_cons] at this ⊢; omega
  | .node false l k v r, 0, b => b.elim
  | .node false l k v r, h + 1, b => by
    have h1 := BH_size l h b.1
    have h2 := BH_size r h b.2
    simp only [size, io, List.length_append, List.length_cons] at h1 h2 ⊢
    rw [Nat.pow_succ]; omega
theorem dep_le : ∀ (t : Tr) (h : Nat), BH t h → NR t → dep t ≤ 2 * h + bif red t then 1 else 0
  | .leaf, h, b, _ => by simp [dep]
  | .node true l k v r, h, b, n => by
    have h1 := dep_le l h b.1 n.1
    have h2 := dep_le r h b.2 n.2.1
    have := n.2.2 rfl
    rw [this.1] at h1; rw [this.2] at h2
    simp only [dep, red_node, cond_true, bq_true, cond_false, bq_false] at h1 h2 ⊢; omega
  | .node false l k v r, 0, b, _ => b.elim
  | .node false l k v r, h + 1, b, n => by
    have h1 := dep_le l h b.1 n.1
    have h2 := dep_le r h b.2 n.2.1
    have e1 : (bif red l then 1 else 0) ≤ 1 := by cases red l <;> simp
    have e2 : (bif red r then 1 else 0) ≤ 1 := by cases red r <;> simp
    simp only [dep, red_node, cond_true, bq_true, cond_false, bq_false] at h1 h2 ⊢; omega
theorem Good.dep {t : Tr} (g : Good t) (hs : size t ≤ 8000) : Tr.dep t ≤ 25 := by
  obtain ⟨n, h, b⟩ := g
  have h1 := BH_size t h b
  have h2 := dep_le t h b n
  have e1 : (bif red t then 1 else 0) ≤ 1 := by cases red t <;> simp
  have : h < 13 := by
    rcases Nat.lt_or_ge h 13 with q | q
    · exact q
    · have := Nat.pow_le_pow_right (n := 2) (by first | exact fu hm | omega) q
      omega
  omega
theorem size_blk (t : Tr) : size (blk t) = size t := by simp [size, io_blk]
theorem Good.blk {t : Tr} (g : Good t) : Good (Tr.blk t) := ⟨NR_blk g.1, let ⟨_, b⟩ := g.2; BH_blk b⟩

theorem bound_ok (one other : Tr) (k : Int) (v : AV) (g1 : Good one) (g2 : Good other) (s1 : size one ≤ 8000) (s2 : size other ≤ 8000) :
    ∃ t, (∀ n σ, 32 ≤ n → callN PP n "bound" [enc one, .int k, v, enc other] σ = .ok (enc t) σ) ∧ io t = io one ++ (k, v) :: io other ∧ Good t ∧ red t = false := by
  have d1 := g1.blk.dep (by rw [size_blk]; exact s1)
  have d2 := g2.blk.dep (by rw [size_blk]; exact s2)
  obtain ⟨n1, a, b1⟩ := g1.blk
  obtain ⟨n2, b, b2⟩ := g2.blk
  by_cases hab : a = b
  · subst hab
    refine ⟨.node false (blk one) k v (blk other), fun n σ hn => ?_, by simp [io, io_blk], ⟨⟨n1, n2, fun z => by cases z⟩, a + 1, b1, b2⟩, rfl⟩
    obtain ⟨m, rfl, hm⟩ := un (show 31 + 1 ≤ n by first | exact hn | omega)
    rw [cN, bound_K]
    simp (disch := first | exact fu hm | omega) [unpainted_ok, height_of_ok (t := blk one) (h := a) _ b1, height_of_ok (t := blk other) (h := a) _ b2, knot_ok]
  · have hab' : ¬ ((a : Int) = (b : Int)) := by omega
    by_cases hlt : b < a
    · obtain ⟨t, c1, c2, c3, c4, c5⟩ := hung_right_ok k v (blk other) b b2 n2 (red_blk _) (blk one) a b1 n1 (by first | exact fu hm | omega)
      refine ⟨blk t, fun n σ hn => ?_, by rw [io_blk, c2, io_blk, io_blk], ⟨c4.blk, BH_blk c3⟩, red_blk _⟩
      obtain ⟨m, rfl, hm⟩ := un (show 31 + 1 ≤ n by first | exact hn | omega)
      rw [cN, bound_K]
      have := c1 m σ (by first | exact fu hm | omega)
      have hlt' : (b : Int) < (a : Int) := by omega
      simp (disch := first | exact fu hm | omega) [unpainted_ok, height_of_ok (t := blk one) (h := a) _ b1, height_of_ok (t := blk other) (h := b) _ b2, knot_ok, hab', hlt', this]
    · obtain ⟨t, c1, c2, c3, c4, c5⟩ := hung_left_ok k v (blk one) a b1 n1 (red_blk _) (blk other) b b2 n2 (by first | exact fu hm | omega)
      refine ⟨blk t, fun n σ hn => ?_, by rw [io_blk, c2, io_blk, io_blk], ⟨c4.blk, BH_blk c3⟩, red_blk _⟩
      obtain ⟨m, rfl, hm⟩ := un (show 31 + 1 ≤ n by first | exact hn | omega)
      rw [cN, bound_K]
      have := c1 m σ (by first | exact fu hm | omega)
      have hlt' : ¬ ((b : Int) < (a : Int)) := by omega
      simp (disch := first | exact fu hm | omega) [unpainted_ok, height_of_ok (t := blk one) (h := a) _ b1, height_of_ok (t := blk other) (h := b) _ b2, knot_ok, hab', hlt', this]
end Mine.L

/- M4 -/
set_option tactic.hygienic false
/-! Mine: plain trees, cutting and laying. -/
namespace Mine.L
open PySem Tr
set_option linter.unusedVariables false
set_option maxRecDepth 100000
set_option linter.unusedSimpArgs false

noncomputable def Srt (l : List (Int × AV)) : Prop := l.Pairwise fun a b => a.1 < b.1
theorem Good.left {p l k v r} (g : Good (.node p l k v r)) : Good l := by
  obtain ⟨n, h, b⟩ := g
  refine ⟨n.1, ?_⟩
  cases p with
  | true => exact ⟨h, b.1⟩
  | false => cases h with
    | zero => exact b.elim
    | succ h => exact ⟨h, b.1⟩
theorem Good.right {p l k v r} (g : Good (.node p l k v r)) : Good r := by
  obtain ⟨n, h, b⟩ := g
  refine ⟨n.2.1, ?_⟩
  cases p with
  | true => exact ⟨h, b.2⟩
  | false => cases h with
    | zero => exact b.elim
    | succ h => exact ⟨h, b.2⟩
theorem Good.leaf : Good .leaf := ⟨trivial, 0, rfl⟩
theorem size_node (p l k v r) : size (.node p l k v r) = size l + 1 + size r := by simp [size, io]; omega
theorem Srt.node {l r : List (Int × AV)} {k : Int} {v : AV} (h : Srt (l ++ (k, v) :: r)) : Srt l ∧ Srt r ∧ (∀ x ∈ l, x.1 < k) ∧ (∀ x ∈ r, k < x.1) ∧ (∀ x ∈ l, ∀ y ∈ r, x.1 < y.1) := by
  unfold Srt at h
  rw [List.pairwise_append, List.pairwise_cons] at h
  exact ⟨h.1, h.2.1.2, fun x hx => h.2.2 x hx (k, v) (.head _), fun x hx => h.2.1.1 x hx, fun x hx y hy => h.2.2 x hx y (.tail _ hy)⟩

theorem fl_all {l : List (Int × AV)} {p : Int × AV → Bool} (h : ∀ x ∈ l, p x = true) : l.filter p = l := List.filter_eq_self.mpr h
theorem fl_none {l : List (Int × AV)} {p : Int × AV → Bool} (h : ∀ x ∈ l, p x = false) : l.filter p = [] := List.filter_eq_nil_iff.mpr fun x hx => by rw [h x hx]; decide

noncomputable def midOf : Option (Int × AV) → AV
  | some (k, v) => .tup [.int k, v]
  | none => .none

theorem cut_at_ok (key : Int) : ∀ (t : Tr), Good t → Srt (io t) → size t ≤ 8000 →
    ∃ lo hi, (∀ n σ, dep t + 34 ≤ n → callN PP n "cut_at" [enc t, .int key] σ = .ok (.tup [enc lo, midOf ((io t).find? fun x => decide (x.1 = key)), enc hi]) σ) ∧ Good lo ∧ Good hi ∧ red lo = false ∧ red hi = false ∧
      io lo = (io t).filter (fun x => decide (x.1 < key)) ∧ io hi = (io t).filter (fun x => decide (key < x.1)) := by
  intro t
  induction t with
  | leaf =>
    intro _ _ _
    refine ⟨.leaf, .leaf, fun n σ hn => ?_, .leaf, .leaf, rfl, rfl, rfl, rfl⟩
    obtain ⟨m, rfl, hm⟩ := un (show 29 + 1 ≤ n by simp only [dep] at hn; omega)
    rw [cN, cut_at_K]
    simp [enc, io, midOf]
  | node p l k v r ihl ihr =>
    intro g hs hz
    have hz' := hz
    rw [size_node] at hz
    obtain ⟨sl, sr, hl, hr, hlr⟩ := Srt.node (show Srt (io l ++ (k, v) :: io r) from hs)
    by_cases hk : key = k
    · subst hk
      refine ⟨blk l, blk r, fun n σ hn => ?_, g.left.blk, g.right.blk, red_blk _, red_blk _, ?_, ?_⟩
      · obtain ⟨m, rfl, hm⟩ := un (show 29 + 1 ≤ n by simp only [dep] at hn; omega)
        rw [cN, cut_at_K]
        have hf : (io (.node p l key v r)).find? (fun x => decide (x.1 = key)) = some (key, v) := by
          rw [io, List.find?_append, List.find?_eq_none.mpr]
          · simp
          · intro x hx; have := hl x hx; simp; omega
        rw [hf]
        simp (disch := first | exact fu hm | omega) [unpainted_ok, midOf]
      · rw [io_blk, io, List.filter_append, fl_all (fun x hx => by simpa using hl x hx), List.filter_cons, fl_none (fun x hx => by have := hr x hx; simp; omega)]
        simp
      · rw [io_blk, io, List.filter_append, fl_none (fun x hx => by have := hl x hx; simp; omega), List.filter_cons, fl_all (fun x hx => by simpa using hr x hx)]
        simp
    · by_cases hlt : key < k
      · obtain ⟨lo, hi, c1, g1, g2, r1, r2, i1, i2⟩ := ihl g.left sl (by first | exact fu hm | omega)
        have zh : size hi ≤ 8000 := by
          have : size hi ≤ size l := by simp only [size, i2]; exact List.length_filter_le _ _
          omega
        obtain ⟨b, c2, i3, g3, r3⟩ := bound_ok hi r k v g2 g.right zh (by first | exact fu hm | omega)
        refine ⟨lo, b, fun n σ hn => ?_, g1, g3, r1, r3, ?_, ?_⟩
        · simp only [dep] at hn
          obtain ⟨m, rfl, hm⟩ := un (show max (dep l) (dep r) + 34 + 1 ≤ n by omega)
          rw [cN, cut_at_K]
          have hf : (io (.node p l k v r)).find? (fun x => decide (x.1 = key)) = (io l).find? (fun x => decide (x.1 = key)) := by
            rw [io, List.find?_append, List.find?_cons]
            have : decide (k = key) = false := by simp; omega
            simp only [this]
            rw [show (io r).find? (fun x => decide (x.1 = key)) = none from List.find?_eq_none.mpr fun x hx => by have := hr x hx; simp; omega, Option.or_none]
          rw [hf]
          have q1 := c1 m σ (by first | exact fu hm | omega)
          have q2 := c2 m σ (by first | exact fu hm | omega)
          simp (disch := first | exact fu hm | omega) [unpainted_ok, q1, q2, hk, hlt]
        · rw [i1, io, List.filter_append, List.filter_cons, fl_none (l := io r) (fun x hx => by have := hr x hx; simp; omega)]
          have : decide (k < key) = false := by simp; omega
          simp [this]
        · rw [i3, i2, io, List.filter_append, List.filter_cons, fl_all (l := io r) (fun x hx => by have := hr x hx; simp; omega)]
          simp [hlt]
      · obtain ⟨lo, hi, c1, g1, g2, r1, r2, i1, i2⟩ := ihr g.right sr (by first | exact fu hm | omega)
        have zh : size lo ≤ 8000 := by
          have : size lo ≤ size r := by simp only [size, i1]; exact List.length_filter_le _ _
          omega
        obtain ⟨b, c2, i3, g3, r3⟩ := bound_ok l lo k v g.left g1 (by first | exact fu hm | omega) zh
        refine ⟨b, hi, fun n σ hn => ?_, g3, g2, r3, r2, ?_, ?_⟩
        · simp only [dep] at hn
          obtain ⟨m, rfl, hm⟩ := un (show max (dep l) (dep r) + 34 + 1 ≤ n by omega)
          rw [cN, cut_at_K]
          have hf : (io (.node p l k v r)).find? (fun x => decide (x.1 = key)) = (io r).find? (fun x => decide (x.1 = key)) := by
            rw [io, List.find?_append, show (io l).find? (fun x => decide (x.1 = key)) = none from List.find?_eq_none.mpr fun x hx => by have := hl x hx; simp; omega, List.find?_cons]
            have : decide (k = key) = false := by simp; omega
            simp [this]
          rw [hf]
          have q1 := c1 m σ (by first | exact fu hm | omega)
          have q2 := c2 m σ (by first | exact fu hm | omega)
          simp (disch := first | exact fu hm | omega) [unpainted_ok, q1, q2, hk, hlt]
        · have h1 : decide (k < key) = true := by simp; omega
          rw [i3, i1, io, List.filter_append, List.filter_cons, fl_all (l := io l) (fun x hx => by have := hl x hx; simp; omega)]
          simp [h1]
        · rw [i2, io, List.filter_append, List.filter_cons, fl_none (l := io l) (fun x hx => by have := hl x hx; simp; omega)]
          simp [hlt]

theorem bound_alone_ok (one other : Tr) (g1 : Good one) (g2 : Good other) (hs : Srt (io one)) (z1 : size one ≤ 8000) (z2 : size other ≤ 8000) :
    ∃ t, (∀ n σ, 62 ≤ n → callN PP n "bound_alone" [enc one, enc other] σ = .ok (enc t) σ) ∧ io t = io one ++ io other ∧ Good t ∧ red t = false := by
  cases one with
  | leaf =>
    refine ⟨blk other, fun n σ hn => ?_, by simp [io, io_blk], g2.blk, red_blk _⟩
    obtain ⟨m, rfl, hm⟩ := un (show 61 + 1 ≤ n by first | exact hn | omega)
    rw [cN, bound_alone_K]
    simp (disch := first | exact fu hm | omega) [unpainted_ok]
  | node p l k v r =>
    generalize hone : Tr.node p l k v r = one at *
    have hnl : one ≠ .leaf := by rw [← hone]; exact fun h => by cases h
    have hin : isNone (enc one) = false := by rw [← hone]; rfl
    cases other with
    | leaf =>
      refine ⟨blk one, fun n σ hn => ?_, by simp [io, io_blk], g1.blk, red_blk _⟩
      obtain ⟨m, rfl, hm⟩ := un (show 61 + 1 ≤ n by first | exact hn | omega)
      rw [cN, bound_alone_K]
      simp (disch := first | exact fu hm | omega) [unpainted_ok, hin]
    | node p₂ l₂ k₂ v₂ r₂ =>
      have hin2 : isNone (enc (.node p₂ l₂ k₂ v₂ r₂)) = false := rfl
      generalize Tr.node p₂ l₂ k₂ v₂ r₂ = other at *
      have d1 := g1.dep z1
      obtain ⟨p', l', k', v', pre, c1, e1⟩ := greatest_ok hnl (by first | exact fu hm | omega)
      obtain ⟨lo, hi, c2, g3, _, _, _, i1, _⟩ := cut_at_ok k' one g1 hs z1
      have hpre : io lo = pre := by
        rw [i1, e1, List.filter_append]
        rw [e1] at hs
        obtain ⟨_, _, h3, _⟩ := Srt.node hs
        rw [fl_all (fun x hx => by simpa using h3 x hx)]
        simp
      have zl : size lo ≤ 8000 := by
        have h1 : size one = pre.length + 1 := by simp [size, e1]
        simp only [size, hpre]; omega
      obtain ⟨t, c3, i3, g4, r4⟩ := bound_ok lo other k' v' g3 g2 zl z2
      refine ⟨t, fun n σ hn => ?_, by rw [i3, hpre, e1]; simp, g4, r4⟩
      obtain ⟨m, rfl, hm⟩ := un (show 61 + 1 ≤ n by first | exact hn | omega)
      rw [cN, bound_alone_K]
      have q1 := c1 m σ (by first | exact fu hm | omega)
      have q2 := c2 m σ (by first | exact fu hm | omega)
      have q3 := c3 m σ (by first | exact fu hm | omega)
      simp (disch := first | exact fu hm | omega) [q1, q2, q3, hin, hin2]

/-- all keys ahead are less than those behind -/
noncomputable def Apart (l₁ l₂ : List (Int × AV)) : Prop := ∀ a ∈ l₁.getLast?, ∀ b ∈ l₂.head?, a.1 < b.1

theorem laid_ok (one other : Tr) (g1 : Good one) (g2 : Good other) (hs : Srt (io one)) (z1 : size one ≤ 8000) (z2 : size other ≤ 8000) (ha : Apart (io one) (io other)) :
    ∃ t, (∀ n σ, 63 ≤ n → callN PP n "laid" [enc one, enc other] σ = .ok (enc t) σ) ∧ io t = io one ++ io other ∧ Good t ∧ red t = false := by
  obtain ⟨t, c, i, g, r⟩ := bound_alone_ok one other g1 g2 hs z1 z2
  refine ⟨t, fun n σ hn => ?_, i, g, r⟩
  obtain ⟨m, rfl, hm⟩ := un (show 62 + 1 ≤ n by first | exact hn | omega)
  rw [cN, laid_K]
  have q := c m σ (by first | exact fu hm | omega)
  cases ho : isNone (enc one) with
  | true => simp [ho, q]
  | false =>
    cases ht : isNone (enc other) with
    | true => simp [ho, ht, q]
    | false =>
      have n1 : one ≠ .leaf := fun e => by rw [e] at ho; cases ho
      have n2 : other ≠ .leaf := fun e => by rw [e] at ht; cases ht
      obtain ⟨p', l', k', v', pre, c1, e1⟩ := greatest_ok n1 (by have := g1.dep z1; omega)
      obtain ⟨p₂, r₂, k₂, v₂, post, c2, e2⟩ := least_ok n2 (by have := g2.dep z2; omega)
      have := ha (k', v') (by rw [e1]; simp) (k₂, v₂) (by rw [e2]; simp)
      have h1 : ¬ (k₂ ≤ k') := by simp only at this; omega
      simp (disch := first | exact fu hm | omega) [ho, ht, q, c1, c2, h1]
theorem laid_exc (one other : Tr) (g1 : Good one) (g2 : Good other) (z1 : size one ≤ 8000) (z2 : size other ≤ 8000) (ha : ¬ Apart (io one) (io other)) {n : Nat} (hn : 2 ≤ n) (σ : Sto) :
    callN PP n "laid" [enc one, enc other] σ = .exc "NotApart" σ := by
  obtain ⟨m, rfl, hm⟩ := un (show 1 + 1 ≤ n by first | exact hn | omega)
  rw [cN, laid_K]
  have n1 : one ≠ .leaf := fun e => ha (by rw [e]; intro a h; simp [io] at h)
  have n2 : other ≠ .leaf := fun e => ha (by rw [e]; intro a _ b h; simp [io] at h)
  obtain ⟨p', l', k', v', pre, c1, e1⟩ := greatest_ok n1 (by have := g1.dep z1; omega)
  obtain ⟨p₂, r₂, k₂, v₂, post, c2, e2⟩ := least_ok n2 (by have := g2.dep z2; omega)
  have h1 : k₂ ≤ k' := by
    apply Int.not_lt.mp
    intro q
    apply ha
    intro a h b h'
    rw [e1] at h; rw [e2] at h'
    simp at h h'
    subst h; subst h'
    exact q
  have i1 : isNone (enc one) = false := by cases one <;> first | exact absurd rfl n1 | rfl
  have i2 : isNone (enc other) = false := by cases other <;> first | exact absurd rfl n2 | rfl
  simp (disch := first | exact fu hm | omega) [i1, i2, c1, c2, h1]
end Mine.L

/- M5 -/
set_option tactic.hygienic false
/-! Mine: plain trees, built and raised. -/
namespace Mine.L
open PySem Tr
set_option linter.unusedVariables false
set_option maxRecDepth 100000
set_option linter.unusedSimpArgs false
set_option exponentiation.threshold 1100

noncomputable def encP (x : Int × AV) : AV := .tup [.int x.1, x.2]
theorem small_of {x : Int} (h1 : -2 ^ 999 ≤ x) (h2 : x ≤ 2 ^ 999) : small x = true := by
  unfold small
  have : (2 : Nat) ^ 1000 = 2 * 2 ^ 999 := by decide +kernel
  simp only [decide_eq_true_eq]
  have e : ((2 : Nat) ^ 999 : Nat) = ((2 : Int) ^ 999) := by simp
  have p : (0 : Int) < 2 ^ 999 := Int.pow_pos (by decide)
  rw [this]
  generalize (2 : Nat) ^ 999 = q at *
  generalize (2 : Int) ^ 999 = z at *
  omega
theorem small_lit {x : Int} (h1 : -1000000 ≤ x) (h2 : x ≤ 1000000) : small x = true := by
  have p : (1000000 : Int) ≤ 2 ^ 999 := by decide +kernel
  exact small_of (by first | exact fu hm | omega) (by first | exact fu hm | omega)
theorem b_mul (a b : Int) (σ : Sto) (h1 : small a = true) (h2 : small b = true) : binop .Mult (.int a) (.int b) σ = .ok (.int (a * b)) σ := by
  show (bif small a && small b then _ else _) = _
  rw [h1, h2]; rfl
theorem b_fdiv (a b : Int) (σ : Sto) (h1 : 0 < b) (h2 : small b = true) : binop .FloorDiv (.int a) (.int b) σ = .ok (.int (a.fdiv b)) σ := by
  show (bif decide (0 < b) && small b then _ else _) = _
  rw [h2, decide_eq_true h1]; rfl
theorem b_mod (a b : Int) (σ : Sto) (h1 : 0 < b) : binop .Mod (.int a) (.int b) σ = .ok (.int (a.fmod b)) σ := by
  show (bif decide (0 < b) then _ else _) = _
  rw [decide_eq_true h1]; rfl
theorem item_lst {q : Nat} {σ : Sto} {xs : List AV} {k : Int} {v : AV} (h : σ[q]? = some (.list xs)) (h0 : 0 ≤ k) (hv : xs[k.toNat]? = some v) : item (.ref q) (.int k) σ = .ok v σ := by
  show optR (σ[q]?) _ = _
  rw [h]
  simp [optR, at?, decide_eq_true h0, hv, optA]
theorem item_L {q : Nat} {σ : Sto} {L : List (Int × AV)} (k : Nat) (h : σ[q]? = some (.list (L.map encP))) (hk : k < L.length) : item (.ref q) (.int (k : Int)) σ = .ok (encP L[k]) σ :=
  item_lst h (by first | exact fu hm | omega) (by simp [hk])
theorem it_encP0 (x : Int × AV) (σ : Sto) : item (encP x) (.int 0) σ = .ok (.int x.1) σ := rfl
theorem it_encP1 (x : Int × AV) (σ : Sto) : item (encP x) (.int 1) σ = .ok x.2 σ := rfl
theorem listOf_ok {q : Nat} {σ : Sto} {xs : List AV} (h : σ[q]? = some (.list xs)) : listOf? σ q = some xs := by unfold listOf?; rw [h]
theorem lstR_ok {α : Type} {q : Nat} {σ : Sto} {xs : List AV} (h : σ[q]? = some (.list xs)) (f : List AV → Out α) : lstR σ (.ref q) f = f xs := by
  show optR (listOf? σ q) f = _
  rw [listOf_ok h]; rfl
theorem len_lst {q : Nat} {σ : Sto} {xs : List AV} (h : σ[q]? = some (.list xs)) : lenA [.ref q] σ = .ok (.int xs.length) σ := lstR_ok h _

theorem seg_split {α : Type} (L : List α) (lo mid hi : Nat) (h1 : lo ≤ mid) (h2 : mid < hi) (h3 : hi ≤ L.length) (hm : mid < L.length) :
    (L.drop lo).take (hi - lo) = (L.drop lo).take (mid - lo) ++ L[mid] :: (L.drop (mid + 1)).take (hi - (mid + 1)) := by
  have e : hi - lo = (mid - lo) + ((hi - (mid + 1)) + 1) := by omega
  rw [e, List.take_add, List.drop_drop, show lo + (mid - lo) = mid by omega, List.drop_eq_getElem_cons hm, List.take_succ_cons]

theorem half (lo hi : Nat) : ((lo : Int) + (hi : Int)).fdiv 2 = (((lo + hi) / 2 : Nat) : Int) := by
  rw [Int.fdiv_eq_ediv_of_nonneg _ (by decide)]; omega

theorem built_ok (L : List (Int × AV)) : ∀ (lev lo hi : Nat), lo ≤ hi → hi ≤ L.length → 2 ^ lev ≤ hi - lo + 1 → hi - lo + 1 ≤ 2 ^ (lev + 1) →
    ∃ t, (∀ n σ q, σ[q]? = some (.list (L.map encP)) → lev + 4 ≤ n → callN PP n "built" [.ref q, .int lo, .int hi, .int lev] σ = .ok (enc t) σ) ∧ io t = (L.drop lo).take (hi - lo) ∧ BH t lev ∧ NR t ∧ (red t = true → lev = 0 ∧ hi = lo + 1)
  | lev, lo, hi, h1, h2, h3, h4 => by
    by_cases he : lo = hi
    · subst he
      have hl : lev = 0 := by
        cases lev with
        | zero => rfl
        | succ l => rw [Nat.pow_succ] at h3; have := Nat.two_pow_pos l; omega
      subst hl
      refine ⟨.leaf, fun n σ q hq hn => ?_, by simp [io], rfl, trivial, fun z => by cases z⟩
      obtain ⟨m, rfl, hm⟩ := un (show 3 + 1 ≤ n by first | exact hn | omega)
      rw [cN, built_K]
      simp [enc]
    · have hm1 : (lo + hi) / 2 < hi := by omega
      have hm2 : lo ≤ (lo + hi) / 2 := by omega
      have hml : (lo + hi) / 2 < L.length := by omega
      have he' : ¬ ((lo : Int) = (hi : Int)) := by omega
      cases lev with
      | zero =>
        have : hi = lo + 1 := by simp at h4; omega
        subst this
        have hmid : (lo + (lo + 1)) / 2 = lo := by omega
        refine ⟨.node true .leaf L[lo].1 L[lo].2 .leaf, fun n σ q hq hn => ?_, ?_, ⟨rfl, rfl⟩, ⟨trivial, trivial, fun _ => ⟨rfl, rfl⟩⟩, fun _ => ⟨rfl, rfl⟩⟩
        · obtain ⟨m, rfl, hm⟩ := un (show 3 + 1 ≤ n by first | exact hn | omega)
          rw [cN, built_K]
          have hi' := item_L lo hq (by first | exact fu hm | omega)
          have hh : ((lo : Int) + ((lo : Int) + 1)).fdiv 2 = lo := by have := half lo (lo + 1); rw [hmid] at this; simpa using this
          have he2 : ¬ ((lo : Int) = (lo : Int) + 1) := by omega
          have kk := knot_ok (n := m) (by first | exact fu hm | omega) true .leaf L[lo].1 L[lo].2 .leaf σ
          simp only [enc] at kk
          simp (disch := first | omega | decide) [-pkE_ok, pkE_okc, -qbE_ok, qbE_okc, -bq_true, -bq_false, bq_truec, bq_falsec, he2, b_fdiv, small_lit, hh, hi', it_encP0, it_encP1, kk]
          simp only [enc]
        · have hlt : lo < L.length := by omega
          rw [io, show lo + 1 - lo = 0 + 1 by omega, List.drop_eq_getElem_cons hlt, List.take_succ_cons, List.take_zero]; rfl
      | succ l =>
        have p1 : 2 ^ (l + 1) = 2 * 2 ^ l := by rw [Nat.pow_succ]; omega
        have p2 : 2 ^ (l + 1 + 1) = 2 * (2 * 2 ^ l) := by rw [Nat.pow_succ, p1]; omega
        rw [p1] at h3
        rw [p2] at h4
        obtain ⟨a, c1, i1, b1, n1, _⟩ := built_ok L l lo ((lo + hi) / 2) (by first | exact fu hm | omega) (by first | exact fu hm | omega) (by first | exact fu hm | omega) (by rw [p1]; omega)
        obtain ⟨b, c2, i2, b2, n2, _⟩ := built_ok L l ((lo + hi) / 2 + 1) hi (by first | exact fu hm | omega) (by first | exact fu hm | omega) (by first | exact fu hm | omega) (by rw [p1]; omega)
        refine ⟨.node false a L[(lo + hi) / 2].1 L[(lo + hi) / 2].2 b, fun n σ q hq hn => ?_, ?_, ⟨b1, b2⟩, ⟨n1, n2, fun z => by cases z⟩, fun z => by cases z⟩
        · obtain ⟨m, rfl, hm⟩ := un (show l + 4 + 1 ≤ n by omega)
          rw [cN, built_K]
          have q1 := c1 m σ q hq (by first | exact fu hm | omega)
          have q2 := c2 m σ q hq (by first | exact fu hm | omega)
          have hi' := item_L ((lo + hi) / 2) hq hml
          have hl' : ¬ ((l : Int) + 1 = 0) := by omega
          have hl2 : ((l : Int) + 1 - 1) = l := by omega
          have hh := half lo hi
          generalize (lo + hi) / 2 = mid at *
          simp only [Int.natCast_add, Int.natCast_succ, Int.cast_ofNat_Int] at q2 ⊢
          simp (disch := first | omega | decide) [-pkE_ok, pkE_okc, -qbE_ok, qbE_okc, -bq_true, -bq_false, bq_truec, bq_falsec, he', b_fdiv, small_lit, hh, hi', it_encP0, it_encP1, hl', hl2, q1, q2, knot_ok]
        · rw [io, i1, i2, seg_split L lo ((lo + hi) / 2) hi (by first | exact fu hm | omega) (by first | exact fu hm | omega) h2 hml]
  termination_by lev => lev
end Mine.L

/- M6 -/
set_option tactic.hygienic false
/-! Mine: raised. -/
namespace Mine.L
open PySem Tr
set_option linter.unusedVariables false
set_option maxRecDepth 100000
set_option linter.unusedSimpArgs false
set_option exponentiation.threshold 1100

/-- turns of a for over plain items -/
noncomputable def forItems (body : AV → Loc → Sto → OutS) : List AV → Loc → Sto → OutS
  | [], l, σ => .ok .next l σ
  | v :: r, l, σ => andThen (body v l σ) (forItems body r)
theorem forS_end {body : AV → Loc → Sto → OutS} {src : Src} {f i : Nat} {l : Loc} {σ : Sto} (h : srcAt σ i src = some Option.none) : forS body src (f + 1) i l σ = .ok .next l σ := by
  unfold forS; rw [h]
theorem forS_turn {body : AV → Loc → Sto → OutS} {src : Src} {f i : Nat} {l : Loc} {σ : Sto} {v : AV} (h : srcAt σ i src = some (some v)) : forS body src (f + 1) i l σ = andThen (body v l σ) (forS body src f (i + 1)) := by
  conv => lhs; unfold forS
  rw [h]
theorem forS_items (body : AV → Loc → Sto → OutS) (xs : List AV) : ∀ (f i : Nat) (l : Loc) (σ : Sto), i ≤ xs.length → xs.length < f + i → forS body (.items xs) f i l σ = forItems body (xs.drop i) l σ
  | 0, i, l, σ, h1, h2 => by omega
  | f + 1, i, l, σ, h1, h2 => by
    by_cases hi : i < xs.length
    · rw [forS_turn (v := xs[i]) (by show some xs[i]? = _; rw [List.getElem?_eq_getElem hi]), List.drop_eq_getElem_cons hi]
      show _ = andThen _ _
      congr 1
      funext l σ
      exact forS_items body xs f (i + 1) l σ hi (by omega)
    · rw [forS_end (by show some xs[i]? = _; rw [List.getElem?_eq_none (by omega)]), List.drop_eq_nil_of_le (by omega)]
      rfl
theorem forS_all (body : AV → Loc → Sto → OutS) {xs : List AV} (l : Loc) (σ : Sto) (h : xs.length < bigN) : forS body (.items xs) bigN 0 l σ = forItems body xs l σ := forS_items body xs bigN 0 l σ (Nat.zero_le _) h

theorem rangeL_cons {a b : Int} (h : a < b) : rangeL a b = .int a :: rangeL (a + 1) b := by
  unfold rangeL
  have : (b - a).toNat = (b - (a + 1)).toNat + 1 := by omega
  rw [this, List.range_succ_eq_map]
  simp only [List.map_cons, List.map_map]
  congr 1
  · simp
  · apply List.map_congr_left
    intro i _
    simp only [Function.comp]
    congr 1
    rw [show ((i.succ : Nat) : Int) = (i : Int) + 1 from by simp]
    omega
theorem rangeL_nil {a b : Int} (h : b ≤ a) : rangeL a b = [] := by
  unfold rangeL
  rw [show (b - a).toNat = 0 by omega]; rfl
theorem range_of2 {b : Int} {σ : Sto} (a : Int) (h0 : 0 ≤ a) (h1 : a ≤ 2 ^ 40) (h2 : -(2 ^ 40) ≤ b) (h3 : b ≤ 2 ^ 40) : rangeOf [.int a, .int b] σ = .ok (.items (rangeL a b)) σ := by
  show rangeOf2 a b σ = _
  unfold rangeOf2
  rw [decide_eq_true h0, decide_eq_true h1, decide_eq_true h2, decide_eq_true h3]; rfl
theorem range_of1 {b : Int} {σ : Sto} (h2 : -(2 ^ 40) ≤ b) (h3 : b ≤ 2 ^ 40) : rangeOf [.int b] σ = .ok (.items (rangeL 0 b)) σ := by
  show rangeOf2 0 b σ = _
  unfold rangeOf2
  rw [decide_eq_true h2, decide_eq_true h3]; rfl

theorem raised_K (cf : Calls) (p : AV) (σ : Sto) : callBody PP cf "raised" [p] σ =
    @qb _ _ (eE AV) (lenA [p] σ) (.mk fun v σ => @qb _ _ (eE AV) (rangeOf [.int 1, v] σ) (.mk fun s σ =>
      sk ktO (forS (fun v l σ => whB "raised" 0 cf (setL "place" v l) σ) s bigN 0 [("pairs", p)] σ) fun l σ => restK "raised" [1] cf l σ)) := by
  kernel_rfl
noncomputable def pl1 (x : AV) : Loc := [("place", x)]
noncomputable def lr2 (a b : AV) : Loc := [("levels", a), ("room", b)]
noncomputable def pp2 (p i : AV) : Loc := [("pairs", p), ("place", i)]
noncomputable def PlaceL (pl : Loc) : Prop := pl = [] ∨ ∃ x, pl = pl1 x
noncomputable def rl (p : AV) (pl : Loc) (a b : AV) : Loc := ("pairs", p) :: (pl ++ lr2 a b)

theorem raised_B (cf : Calls) (p i : AV) (σ : Sto) : whB "raised" 0 cf (pp2 p i) σ =
    @qk _ _ (ktS.e (pp2 p i)) (@qb _ _ (eE Bool) (item p i σ) (.mk fun v σ => @qb _ _ (eE Bool) (item v (.int 0) σ) (.mk fun v σ => @qb _ _ (eE Bool) (binop .Sub i (.int 1) σ) (.mk fun j σ => @qb _ _ (eE Bool) (item p j σ) (.mk fun u σ => @qb _ _ (eE Bool) (item u (.int 0) σ) (.mk fun u σ =>
      @qb _ _ (eE Bool) (cmpop .LtE v u σ) (.mk fun v σ => @qb _ _ (eE Bool) (truthO v σ) (.mk fun b σ => .ok b σ)))))))) (.mk fun c σ =>
      @bq _ (c) (.mk (.exc "NotRising" (pp2 p i) σ)) (.mk (.ok .next (pp2 p i) σ))) := by
  kernel_rfl

/-- adjacent keys rise from place i on -/
noncomputable def RiseFrom (L : List (Int × AV)) (i : Nat) : Prop := ∀ j, i ≤ j → (h : j + 1 < L.length) → (L[j]'(by first | exact fu hm | omega)).1 < L[j + 1].1

theorem raised_for (cf : Calls) (L : List (Int × AV)) (q : Nat) (σ : Sto) (hq : σ[q]? = some (.list (L.map encP))) : ∀ (m i : Nat) (pl : Loc), i + 1 + m = L.length → PlaceL pl →
    (RiseFrom L i ∧ ∃ pl', PlaceL pl' ∧ forItems (fun v l σ => whB "raised" 0 cf (setL "place" v l) σ) (rangeL ((i : Int) + 1) L.length) (("pairs", .ref q) :: pl) σ = .ok .next (("pairs", .ref q) :: pl') σ) ∨
    (¬ RiseFrom L i ∧ ∃ l', forItems (fun v l σ => whB "raised" 0 cf (setL "place" v l) σ) (rangeL ((i : Int) + 1) L.length) (("pairs", .ref q) :: pl) σ = .exc "NotRising" l' σ)
  | 0, i, pl, hi, hp => by
    rw [rangeL_nil (by first | exact fu hm | omega)]
    exact .inl ⟨fun j h1 h2 => by omega, pl, hp, rfl⟩
  | m + 1, i, pl, hi, hp => by
    rw [rangeL_cons (by first | exact fu hm | omega)]
    have hset : setL "place" (.int ((i : Int) + 1)) (("pairs", .ref q) :: pl) = pp2 (.ref q) (.int ((i : Int) + 1)) := by
      rcases hp with rfl | ⟨x, rfl⟩ <;> rfl
    have h1 := item_L i hq (by first | exact fu hm | omega)
    have h2 := item_L (i + 1) hq (by first | exact fu hm | omega)
    have e1 : ((i : Int) + 1 - 1) = i := by omega
    rw [show (((i + 1 : Nat)) : Int) = (i : Int) + 1 by simp] at h2
    by_cases hr : L[i + 1].1 ≤ L[i].1
    · refine .inr ⟨fun z => ?_, ?_⟩
      · have := z i (Nat.le_refl _) (by first | exact fu hm | omega); omega
      · refine ⟨pp2 (.ref q) (.int ((i : Int) + 1)), ?_⟩
        unfold forItems
        simp only [hset]
        rw [raised_B]
        simp [h2, e1, h1, it_encP0, hr, andThen]
    · have hstep : forItems (fun v l σ => whB "raised" 0 cf (setL "place" v l) σ) (.int ((i : Int) + 1) :: rangeL ((i : Int) + 1 + 1) L.length) (("pairs", .ref q) :: pl) σ =
          forItems (fun v l σ => whB "raised" 0 cf (setL "place" v l) σ) (rangeL ((i : Int) + 1 + 1) L.length) (pp2 (.ref q) (.int ((i : Int) + 1))) σ := by
        conv => lhs; unfold forItems
        simp only [hset]
        rw [raised_B]
        simp [h2, e1, h1, it_encP0, hr, andThen]
      rw [hstep]
      have IH := raised_for cf L q σ hq m (i + 1) (pl1 (.int ((i : Int) + 1))) (by first | exact fu hm | omega) (.inr ⟨_, rfl⟩)
      rw [show (((i + 1 : Nat)) : Int) = (i : Int) + 1 by simp] at IH
      rcases IH with ⟨a, b⟩ | ⟨a, b⟩
      · refine .inl ⟨fun j h1 h2 => ?_, b⟩
        rcases Nat.lt_or_ge i j with z | z
        · exact a j z h2
        · have : j = i := by omega
          subst this; omega
      · exact .inr ⟨fun z => a fun j h1 h2 => z j (by first | exact fu hm | omega) h2, b⟩

theorem raised_R (cf : Calls) (p : AV) (pl : Loc) (hp : PlaceL pl) (σ : Sto) : restK "raised" [1] cf (("pairs", p) :: pl) σ =
    sk ktO (whileG (whT "raised" 3 cf) (whB "raised" 3 cf) 1000 (rl (p) pl (.int 0) (.int 1)) σ) fun l σ => restK "raised" [4] cf l σ := by
  rcases hp with rfl | ⟨x, rfl⟩ <;> kernel_rfl
theorem raised_T (cf : Calls) (p a b : AV) (pl : Loc) (hp : PlaceL pl) (σ : Sto) : whT "raised" 3 cf (rl (p) pl (a) (b)) σ =
    @qb _ _ (eE Bool) (lenA [p] σ) (.mk fun v σ => @qb _ _ (eE Bool) (cmpop .LtE b v σ) (.mk fun v σ => @qb _ _ (eE Bool) (truthO v σ) (.mk fun b σ => .ok b σ))) := by
  rcases hp with rfl | ⟨x, rfl⟩ <;> kernel_rfl
theorem raised_B3 (cf : Calls) (p a b : AV) (pl : Loc) (hp : PlaceL pl) (σ : Sto) : whB "raised" 3 cf (rl (p) pl (a) (b)) σ =
    @qb _ _ (ktS.e (rl (p) pl (a) (b))) (binop .Add a (.int 1) σ) (.mk fun v σ => @qb _ _ (ktS.e (rl (p) pl (v) (b))) (binop .Mult (.int 2) b σ) (.mk fun u σ =>
      @qb _ _ (ktS.e (rl (p) pl (v) (b))) (binop .Add u (.int 1) σ) (.mk fun u σ => .ok .next (rl (p) pl (v) (u)) σ))) := by
  rcases hp with rfl | ⟨x, rfl⟩ <;> kernel_rfl
theorem raised_R4 (cf : Calls) (p a b : AV) (pl : Loc) (hp : PlaceL pl) (σ : Sto) : restK "raised" [4] cf (rl (p) pl (a) (b)) σ =
    @qb _ _ (eE AV) (lenA [p] σ) (.mk fun v σ => @qk _ _ (eE AV) (cf "built" [p, .int 0, v, a] σ) (.mk fun v σ => .ok v σ)) := by
  rcases hp with rfl | ⟨x, rfl⟩ <;> kernel_rfl

theorem raised_while (cf : Calls) (N : Nat) (xs : List AV) (hN : xs.length = N) (hN2 : N ≤ 1000) (q : Nat) (σ : Sto) (hq : σ[q]? = some (.list xs)) (pl : Loc) (hp : PlaceL pl) : ∀ (f lev : Nat), 2 ^ lev ≤ N + 1 → lev + f ≥ 12 → 
    ∃ lev' : Nat, whileG (whT "raised" 3 cf) (whB "raised" 3 cf) (f + 1) (rl (.ref q) pl (.int lev) (.int (2 ^ (lev + 1) - 1 : Nat))) σ = .ok .next (rl (.ref q) pl (.int lev') (.int (2 ^ (lev' + 1) - 1 : Nat))) σ ∧ 2 ^ lev' ≤ N + 1 ∧ N + 1 < 2 ^ (lev' + 1)
  | f, lev, h1, h2 => by
    by_cases hle : 2 ^ (lev + 1) - 1 ≤ N
    · have hlev : lev + 1 < 10 := by
        rcases Nat.lt_or_ge (lev + 1) 10 with z | z
        · exact z
        · have := Nat.pow_le_pow_right (n := 2) (by first | exact fu hm | omega) z
          omega
      cases f with
      | zero => omega
      | succ f =>
        have hpos := Nat.two_pow_pos (lev + 1)
        obtain ⟨lev', h3, h4, h5⟩ := raised_while cf N xs hN hN2 q σ hq pl hp f (lev + 1) (by first | exact fu hm | omega) (by first | exact fu hm | omega)
        refine ⟨lev', ?_, h4, h5⟩
        rw [whileG_go (l' := (rl (.ref q) pl (.int ((lev + 1 : Nat) : Int)) (.int (2 ^ (lev + 1 + 1) - 1 : Nat))))]
        · exact h3
        · rw [raised_T _ _ _ _ _ hp, len_lst hq, hN]
          have : ((2 ^ (lev + 1) - 1 : Nat) : Int) ≤ N := by omega
          simp [this]
        · rw [raised_B3 _ _ _ _ _ hp]
          have e1 : (((lev + 1 : Nat)) : Int) = (lev : Int) + 1 := by simp
          have e2 : ((2 ^ (lev + 1 + 1) - 1 : Nat) : Int) = 2 * ((2 ^ (lev + 1) - 1 : Nat) : Int) + 1 := by
            have : 2 ^ (lev + 1 + 1) = 2 * 2 ^ (lev + 1) := by rw [Nat.pow_succ]; omega
            omega
          rw [e2, e1]
          rw [b_add, qbS_ok, b_mul _ _ _ (small_lit (by first | exact fu hm | omega) (by first | exact fu hm | omega)) (small_lit (by first | exact fu hm | omega) (by first | exact fu hm | omega)), qbS_ok, b_add, qbS_ok]
    · refine ⟨lev, ?_, h1, by omega⟩
      rw [whileG_stop]
      rw [raised_T _ _ _ _ _ hp, len_lst hq, hN]
      have : ¬ (((2 ^ (lev + 1) - 1 : Nat) : Int) ≤ N) := by omega
      simp [this]

theorem rise_srt : ∀ {L : List (Int × AV)}, RiseFrom L 0 → Srt L
  | [], _ => .nil
  | [x], _ => List.pairwise_singleton _ _
  | x :: y :: r, h => by
    have t : Srt (y :: r) := rise_srt fun j _ hj => h (j + 1) (by first | exact fu hm | omega) (by simpa using hj)
    have h0 := h 0 (by first | exact fu hm | omega) (by simp)
    simp only [List.getElem_cons_zero, List.getElem_cons_succ] at h0
    refine List.pairwise_cons.mpr ⟨fun z hz => ?_, t⟩
    rcases List.mem_cons.mp hz with rfl | hz
    · exact h0
    · exact Int.lt_trans h0 ((List.pairwise_cons.mp t).1 z hz)
theorem srt_rise {L : List (Int × AV)} (h : Srt L) : RiseFrom L 0 := fun j _ hj => List.pairwise_iff_getElem.mp h j (j + 1) (by first | exact fu hm | omega) hj (by first | exact fu hm | omega)

theorem raised_ok (L : List (Int × AV)) (hz : L.length ≤ 1000) (hs : Srt L) :
    ∃ t, (∀ n σ q, σ[q]? = some (.list (L.map encP)) → 20 ≤ n → callN PP n "raised" [.ref q] σ = .ok (enc t) σ) ∧ io t = L ∧ Good t ∧ red t = false := by
  have hlev : ∃ lev, 2 ^ lev ≤ L.length + 1 ∧ L.length + 1 < 2 ^ (lev + 1) := by
    refine ⟨Nat.log2 (L.length + 1), Nat.log2_self_le (by first | exact fu hm | omega), Nat.lt_log2_self⟩
  obtain ⟨lev, e1, e2⟩ := hlev
  obtain ⟨t, c, i, b, n, r⟩ := built_ok L lev 0 L.length (by first | exact fu hm | omega) (by first | exact fu hm | omega) (by first | exact fu hm | omega) (by first | exact fu hm | omega)
  refine ⟨t, fun n σ q hq hn => ?_, by rw [i]; simp, ⟨n, _, b⟩, ?_⟩
  · obtain ⟨m, rfl, hm⟩ := un (show 19 + 1 ≤ n by first | exact hn | omega)
    rw [cN, raised_K, len_lst hq]
    rw [qbE_ok, List.length_map, range_of2 1 (by first | exact fu hm | omega) (by first | exact fu hm | omega) (by first | exact fu hm | omega) (by first | exact fu hm | omega), qbE_ok]
    have hfor : ∃ pl', PlaceL pl' ∧ forItems (fun v l σ => whB "raised" 0 (callN PP m) (setL "place" v l) σ) (rangeL 1 L.length) [("pairs", .ref q)] σ = .ok .next (("pairs", .ref q) :: pl') σ := by
      rcases Nat.eq_zero_or_pos L.length with z | z
      · rw [rangeL_nil (by first | exact fu hm | omega)]; exact ⟨[], .inl rfl, rfl⟩
      · rcases raised_for (callN PP m)  L q σ hq (L.length - 1) 0 [] (by first | exact fu hm | omega) (.inl rfl) with ⟨_, h⟩ | ⟨h, _⟩
        · simpa using h
        · exact absurd (srt_rise hs) h
    obtain ⟨pl', hp, hfor⟩ := hfor
    rw [forS_all _ _ _ (by simp [rangeL, bigN]; omega), hfor, skO_next, raised_R _ _ _ hp]
    obtain ⟨lev', w1, w2, w3⟩ := raised_while (callN PP m) L.length _ (by simp) hz q σ hq pl' hp 999 0 (by first | exact fu hm | omega) (by first | exact fu hm | omega)
    have el : lev' = lev := by
      rcases Nat.lt_trichotomy lev' lev with z | z | z
      · have := Nat.pow_le_pow_right (n := 2) (by first | exact fu hm | omega) z; simp only [Nat.succ_eq_add_one] at this; omega
      · exact z
      · have := Nat.pow_le_pow_right (n := 2) (by first | exact fu hm | omega) z; simp only [Nat.succ_eq_add_one] at this; omega
    subst el
    have w1' : whileG (whT "raised" 3 (callN PP m)) (whB "raised" 3 (callN PP m)) 1000 (rl (.ref q) pl' (.int 0) (.int 1)) σ = _ := w1
    rw [w1', skO_next, raised_R4 _ _ _ _ _ hp, len_lst hq, qbE_ok, List.length_map]
    have hlt : lev' < 10 := by
      rcases Nat.lt_or_ge lev' 10 with z | z
      · exact z
      · have := Nat.pow_le_pow_right (n := 2) (by first | exact fu hm | omega) z; omega
    have := c m σ q hq (by first | exact fu hm | omega)
    simp only [Int.cast_ofNat_Int] at this
    rw [this, pkE_ok]
  · cases hr : red t with
    | false => rfl
    | true =>
      obtain ⟨h1, h2⟩ := r hr
      subst h1
      simp at e2; omega
end Mine.L

/- M7 -/
set_option tactic.hygienic false
/-! Mine: the law's helpers over a store that grows. -/
namespace Mine.L
open PySem Tr
set_option linter.unusedVariables false
set_option maxRecDepth 100000
set_option linter.unusedSimpArgs false
set_option exponentiation.threshold 1100

noncomputable def Grow (σ σ' : Sto) : Prop := ∃ g, σ' = σ ++ g
theorem Grow.refl (σ : Sto) : Grow σ σ := ⟨[], by simp⟩
theorem Grow.trans {a b c : Sto} (x : Grow a b) (y : Grow b c) : Grow a c := by
  obtain ⟨g, rfl⟩ := x; obtain ⟨g', rfl⟩ := y; exact ⟨g ++ g', by simp⟩
theorem Grow.app (σ g : Sto) : Grow σ (σ ++ g) := ⟨g, rfl⟩
theorem Grow.get {σ σ' : Sto} (x : Grow σ σ') {q : Nat} {o : AO} (h : σ[q]? = some o) : σ'[q]? = some o := by
  obtain ⟨g, rfl⟩ := x
  rw [List.getElem?_append_left]
  · exact h
  · exact (List.getElem?_eq_some_iff.mp h).1
theorem Grow.le {σ σ' : Sto} (x : Grow σ σ') : σ.length ≤ σ'.length := by
  obtain ⟨g, rfl⟩ := x; simp
theorem get_new (σ : Sto) (o : AO) : (σ ++ [o])[σ.length]? = some o := by simp

theorem newL_ok' {xs : List AV} (h : xs.length ≤ bigN) (σ : Sto) : newL xs σ = .ok (.ref σ.length) (σ ++ [.list xs]) := by
  unfold newL; rw [Nat.ble_eq_true_of_le h]; rfl
theorem newL_nil (σ : Sto) : newL [] σ = .ok (.ref σ.length) (σ ++ [.list []]) := newL_ok' (by simp) σ

theorem cpS_end {elt : AV → Sto → Out (Option AV)} {src : Src} {f i : Nat} {acc : List AV} {σ : Sto} (h : srcAt σ i src = some Option.none) : cpS elt src (f + 1) i acc σ = .ok acc σ := by
  unfold cpS; rw [h]
/-- a comprehension over what stays as it is, while the store grows -/
theorem cp_grow {R : Sto → Sto → Prop} (rr : ∀ σ, R σ σ) (rt : ∀ a b c, R a b → R b c → R a c) {elt : AV → Sto → Out (Option AV)} (fn : AV → Option AV) {src : Src} (xs : List AV) : ∀ (f i : Nat) (acc : List AV) (σ : Sto), (∀ σ', R σ σ' → ∀ j, srcAt σ' j src = some xs[j]?) → (∀ v ∈ xs, ∀ σ', R σ σ' → ∃ σ'', R σ' σ'' ∧ elt v σ' = .ok (fn v) σ'') →
    i ≤ xs.length → xs.length < f + i → acc.length + xs.length ≤ bigN + i → ∃ σ', R σ σ' ∧ cpS elt src f i acc σ = .ok (acc ++ (xs.drop i).filterMap fn) σ'
  | 0, i, acc, σ, _, _, h1, h2, _ => by omega
  | f + 1, i, acc, σ, hs, h, h1, h2, hz => by
    have ha := hs σ (rr _) i
    by_cases hi : i < xs.length
    · rw [List.getElem?_eq_getElem hi] at ha
      obtain ⟨σ₁, g₁, e₁⟩ := h xs[i] (List.getElem_mem _) σ (rr _)
      have hs' := fun σ' (g : R σ₁ σ') => hs σ' (rt _ _ _ g₁ g)
      have h' := fun v hv σ' (g : R σ₁ σ') => h v hv σ' (rt _ _ _ g₁ g)
      rw [List.drop_eq_getElem_cons hi]
      unfold cpS
      rw [ha]
      simp only [e₁]
      cases hf : fn xs[i] with
      | none =>
        obtain ⟨σ', g', e'⟩ := cp_grow rr rt fn xs f (i + 1) acc σ₁ hs' h' hi (by omega) (by omega)
        exact ⟨σ', rt _ _ _ g₁ g', by simp only [e', List.filterMap_cons, hf]⟩
      | some y =>
        obtain ⟨σ', g', e'⟩ := cp_grow rr rt fn xs f (i + 1) (acc ++ [y]) σ₁ hs' h' hi (by omega) (by rw [List.length_append]; simp only [List.length_cons, List.length_nil]; omega)
        exact ⟨σ', rt _ _ _ g₁ g', by simp only [Nat.ble_eq_true_of_le (show acc.length ≤ bigN by omega), cond_true, e', List.filterMap_cons, hf, List.append_assoc, List.singleton_append]⟩
    · rw [List.getElem?_eq_none (by omega)] at ha
      exact ⟨σ, rr _, by rw [cpS_end ha, List.drop_eq_nil_of_le (by omega)]; simp⟩
theorem cp_items {elt : AV → Sto → Out (Option AV)} (fn : AV → Option AV) {xs : List AV} {σ : Sto} (h : ∀ v ∈ xs, ∀ σ', Grow σ σ' → ∃ σ'', Grow σ' σ'' ∧ elt v σ' = .ok (fn v) σ'') (hz : xs.length < bigN) : ∃ σ', Grow σ σ' ∧ cpS elt (.items xs) bigN 0 [] σ = .ok (xs.filterMap fn) σ' :=
  cp_grow Grow.refl (fun _ _ _ => Grow.trans) fn xs bigN 0 [] σ (fun _ _ _ => rfl) h (Nat.zero_le _) hz (by simp; omega)
theorem cp_lst {elt : AV → Sto → Out (Option AV)} (fn : AV → Option AV) {xs : List AV} {σ : Sto} {q : Nat} (hq : σ[q]? = some (.list xs)) (h : ∀ v ∈ xs, ∀ σ', Grow σ σ' → ∃ σ'', Grow σ' σ'' ∧ elt v σ' = .ok (fn v) σ'') (hz : xs.length < bigN) : ∃ σ', Grow σ σ' ∧ cpS elt (.lst q) bigN 0 [] σ = .ok (xs.filterMap fn) σ' :=
  cp_grow Grow.refl (fun _ _ _ => Grow.trans) fn xs bigN 0 [] σ (fun σ' g j => by show (listOf? σ' q).map _ = _; rw [listOf_ok (g.get hq)]; rfl) h (Nat.zero_le _) hz (by simp; omega)
theorem rangeL_len (a b : Int) : (rangeL a b).length = (b - a).toNat := by simp [rangeL]
theorem mem_rangeL {a b : Int} {v : AV} (h : v ∈ rangeL a b) : ∃ i : Int, v = .int i ∧ a ≤ i ∧ i < b := by
  unfold rangeL at h
  obtain ⟨i, hi, rfl⟩ := List.mem_map.mp h
  rw [List.mem_range] at hi
  exact ⟨_, rfl, by omega, by omega⟩

/-- plain data of depth d: what == and isinstance answer -/
inductive Plain : Nat → AV → Prop
  | none (d) : Plain d .none
  | bool (d b) : Plain d (.bool b)
  | int (d i) : Plain d (.int i)
  | str (d s) : PyData.strOk s = true → Plain d (.str s)
  | tup (d xs) : xs.length < 1000 → (∀ x ∈ xs, Plain d x) → Plain (d + 1) (.tup xs)
theorem Plain.up : ∀ {d : Nat} {v : AV}, Plain d v → ∀ {e : Nat}, d ≤ e → Plain e v
  | _, _, .none _, _, _ => .none _
  | _, _, .bool _ b, _, _ => .bool _ b
  | _, _, .int _ i, _, _ => .int _ i
  | _, _, .str _ s h, _, _ => .str _ s h
  | _, _, .tup d xs h hx, e, he => by
    obtain ⟨e', rfl⟩ : ∃ e', e = e' + 1 := ⟨e - 1, by omega⟩
    exact .tup _ xs h fun x hm => (hx x hm).up (by first | exact fu hm | omega)

theorem isi_t (v : AV) (σ : Sto) : isiA [v, .typ "tuple"] σ = optR (typeNo v) fun k => .ok (.bool (k == 4)) σ := by kernel_rfl
theorem isi_b (v : AV) (σ : Sto) : isiA [v, .typ "bool"] σ = optR (typeNo v) fun k => .ok (.bool (k == 1)) σ := by kernel_rfl
theorem isi_i (v : AV) (σ : Sto) : isiA [v, .typ "int"] σ = optR (typeNo v) fun k => .ok (.bool (k == 1 || k == 2)) σ := by kernel_rfl
@[simp] theorem isi_tt (xs : List AV) (σ : Sto) : isiA [.tup xs, .typ "tuple"] σ = .ok (.bool true) σ := isi_t _ _
@[simp] theorem isi_bb (b : Bool) (σ : Sto) : isiA [.bool b, .typ "bool"] σ = .ok (.bool true) σ := isi_b _ _
@[simp] theorem isi_bi (b : Int) (σ : Sto) : isiA [.int b, .typ "bool"] σ = .ok (.bool false) σ := isi_b _ _
@[simp] theorem isi_ii (b : Int) (σ : Sto) : isiA [.int b, .typ "int"] σ = .ok (.bool true) σ := isi_i _ _
theorem len_tup (xs : List AV) (σ : Sto) : lenA [.tup xs] σ = .ok (.int xs.length) σ := rfl
theorem item_tup {xs : List AV} {k : Int} {v : AV} (h0 : 0 ≤ k) (hv : xs[k.toNat]? = some v) (σ : Sto) : item (.tup xs) (.int k) σ = .ok v σ := by
  show (bif decide (0 ≤ k) then optA (xs[k.toNat]?) σ else .bad) = _
  rw [decide_eq_true h0, hv]; rfl
theorem eqB (a b : Bool) (σ : Sto) : cmpop .Eq (.bool a) (.bool b) σ = .ok (.bool (a == b)) σ := by
  show Out.ok (AV.bool (PyData.eqv (.bool a) (.bool b))) σ = _
  simp only [PyData.eqv]

theorem plain_lst {σ : Sto} {q d : Nat} {xs : List AV} (h : σ[q]? = some (.list xs)) : plainD σ (d + 1) (.ref q) = (allP (plainD σ d) xs).map .list := by
  show (listOf? σ q).bind _ = _
  rw [listOf_ok h]; rfl
/-- an empty list and another -/
theorem eq_nil_nil {a b : Nat} {σ : Sto} (ha : σ[a]? = some (.list [])) (hb : σ[b]? = some (.list [])) : cmpop .Eq (.ref a) (.ref b) σ = .ok (.bool true) σ := by
  rw [cmpEq]
  unfold eqv
  rw [plain_lst ha, plain_lst hb]
  show Out.ok (AV.bool (PyData.eqv (.list []) (.list []))) σ = _
  simp [PyData.eqv, PyData.eqvAll]
theorem alike_plain (v : AV) (hp : ∃ p, (∀ σ, plainD σ 16 v = some p) ∧ PyData.eqv p p = true) (ht : ∃ k, typeNo v = some k ∧ (k == 4) = false) (m : Nat) (σ : Sto) : callN PP (m + 1) "_law_alike" [v, v] σ = .ok (.bool true) σ := by
  obtain ⟨p, h1, h2⟩ := hp
  obtain ⟨k, h3, h4⟩ := ht
  have e : cmpop .Eq v v σ = .ok (.bool true) σ := by
    rw [cmpEq]; unfold eqv; rw [h1, ← h2]; rfl
  rw [cN, law_alike_K]
  simp [isi_t, isi_b, h3, h4, optR, eqB, e]
theorem alike_ok : ∀ (d : Nat) (v : AV), Plain d v → ∀ (n : Nat) (σ : Sto), d + 2 ≤ n → ∃ σ', Grow σ σ' ∧ callN PP n "_law_alike" [v, v] σ = .ok (.bool true) σ' := by
  intro d v hp
  induction hp with
  | none d =>
    intro n σ hn
    obtain ⟨m, rfl, hm⟩ := un hn
    exact ⟨σ, .refl _, alike_plain _ ⟨.none, fun _ => rfl, by simp [PyData.eqv]⟩ ⟨0, rfl, rfl⟩ m σ⟩
  | bool d b =>
    intro n σ hn
    obtain ⟨m, rfl, hm⟩ := un hn
    exact ⟨σ, .refl _, alike_plain _ ⟨.bool b, fun _ => rfl, by simp [PyData.eqv]⟩ ⟨1, rfl, rfl⟩ m σ⟩
  | int d i =>
    intro n σ hn
    obtain ⟨m, rfl, hm⟩ := un hn
    exact ⟨σ, .refl _, alike_plain _ ⟨.int i, fun _ => rfl, by simp [PyData.eqv]⟩ ⟨2, rfl, rfl⟩ m σ⟩
  | str d s hs =>
    intro n σ hn
    obtain ⟨m, rfl, hm⟩ := un hn
    exact ⟨σ, .refl _, alike_plain _ ⟨.str s, fun _ => by show (bif PyData.strOk s then _ else _) = _; rw [hs]; rfl, by simp [PyData.eqv]⟩ ⟨3, rfl, rfl⟩ m σ⟩
  | tup d xs hz hx ih =>
    intro n σ hn
    obtain ⟨m, rfl, hm⟩ := un (k := d + 2) (show d + 2 + 1 ≤ n by omega)
    rw [cN, law_alike_K]
    have hb : (xs.length : Int) ≤ 2 ^ 40 := by omega
    simp only [isi_tt, pkE_ok, qbE_ok, tr_bool, cond_true, bq_true, Bool.not_true, cond_false, bq_false, len_tup, cmp_ne, decide_true, range_of1 (show -(2 ^ 40) ≤ (xs.length : Int) by omega) hb]
    obtain ⟨σ₁, g₁, e₁⟩ := cp_items (fun _ => Option.none) (elt := fun x2025 σ2026 =>
      @qb _ _ (eE (Option AV)) (item (.tup xs) x2025 σ2026) (.mk fun v2127 σ2128 =>
      @qb _ _ (eE (Option AV)) (item (.tup xs) x2025 σ2128) (.mk fun v2129 σ2130 =>
      @qk _ _ (eE (Option AV)) (callN PP m "_law_alike" [v2127, v2129] σ2130) (.mk fun v2131 σ2132 =>
      @qb _ _ (eE (Option AV)) (truthO v2131 σ2132) (.mk fun b2133 σ2134 =>
      @bq _ ((!b2133)) (.mk (.ok (some x2025) σ2134)) (.mk (.ok Option.none σ2134))))))) (xs := rangeL 0 xs.length) (σ := σ) (fun v hv σ' g => by
        obtain ⟨i, rfl, h0, h1⟩ := mem_rangeL hv
        have hlt : i.toNat < xs.length := by omega
        have hg := List.getElem?_eq_getElem hlt
        obtain ⟨σ'', g'', e''⟩ := ih xs[i.toNat] (List.getElem_mem _) m σ' (by omega)
        exact ⟨σ'', g'', by simp [item_tup h0 hg, e'']⟩) (by rw [rangeL_len]; unfold bigN; omega)
    rw [e₁]
    have hfm : (rangeL 0 (xs.length : Int)).filterMap (fun _ => (Option.none : Option AV)) = [] := by simp
    rw [hfm, qbE_ok, newL_nil, qbE_ok, newL_nil, qbE_ok, eq_nil_nil (Grow.get (.app _ _) (get_new σ₁ _)) (get_new _ _)]
    exact ⟨_, (g₁.trans (.app _ _)).trans (.app _ _), rfl⟩
end Mine.L

/- M8 -/
set_option tactic.hygienic false
/-! Mine: the law's helpers: same, seen, sound, rise, alone, refused, laid. -/
namespace Mine.L
open PySem Tr
set_option linter.unusedVariables false
set_option maxRecDepth 100000
set_option linter.unusedSimpArgs false
set_option exponentiation.threshold 1100

noncomputable def AllPlain (L : List (Int × AV)) : Prop := ∀ x ∈ L, Plain 13 x.2
theorem AllPlain.encP {L : List (Int × AV)} (h : AllPlain L) {x : Int × AV} (hx : x ∈ L) : Plain 14 (Mine.L.encP x) :=
  .tup _ _ (by simp) fun y hy => by
    simp only [List.mem_cons, List.not_mem_nil, or_false] at hy
    rcases hy with rfl | rfl
    · exact .int _ _
    · exact h x hx

@[simp] theorem not_bool (b : Bool) (σ : Sto) : unop .Not (.bool b) σ = .ok (.bool (!b)) σ := rfl
@[simp] theorem neg_int (i : Int) (σ : Sto) : unop .USub (.int i) σ = .ok (.int (-i)) σ := rfl

theorem same_ok (L : List (Int × AV)) (hz : L.length ≤ 8000) (hp : AllPlain L) {a b n : Nat} {σ : Sto} (ha : σ[a]? = some (.list (L.map encP))) (hb : σ[b]? = some (.list (L.map encP))) (hn : 30 ≤ n) :
    ∃ σ', Grow σ σ' ∧ callN PP n "_law_same" [.ref a, .ref b] σ = .ok (.bool true) σ' := by
  obtain ⟨m, rfl, hm⟩ := un (show 29 + 1 ≤ n by first | exact hn | omega)
  rw [cN, law_same_K]
  have hc : (L.length : Int) ≤ 2 ^ 40 := by omega
  simp only [len_lst ha, len_lst hb, List.length_map, pkE_ok, qbE_ok, cmp_ne, decide_true, Bool.not_true, tr_bool, cond_false, bq_false, range_of1 (show -(2 ^ 40) ≤ (L.length : Int) by omega) hc]
  obtain ⟨σ₁, g₁, e₁⟩ := cp_items (fun _ => Option.none) (elt := fun x1015 σ1016 =>
    @qb _ _ (eE (Option AV)) (item (.ref a) x1015 σ1016) (.mk fun v1117 σ1118 =>
    @qb _ _ (eE (Option AV)) (item (.ref b) x1015 σ1118) (.mk fun v1119 σ1120 =>
    @qk _ _ (eE (Option AV)) (callN PP m "_law_alike" [v1117, v1119] σ1120) (.mk fun v1121 σ1122 =>
    @qb _ _ (eE (Option AV)) (truthO v1121 σ1122) (.mk fun b1123 σ1124 =>
    @bq _ ((!b1123)) (.mk (.ok (some x1015) σ1124)) (.mk (.ok Option.none σ1124))))))) (xs := rangeL 0 L.length) (σ := σ) (fun v hv σ' g => by
      obtain ⟨i, rfl, h0, h1⟩ := mem_rangeL hv
      obtain ⟨k, rfl⟩ : ∃ k : Nat, i = k := ⟨i.toNat, by omega⟩
      have hlt' : k < L.length := by omega
      obtain ⟨σ'', g'', e''⟩ := alike_ok 14 (encP L[k]) (hp.encP (List.getElem_mem _)) m σ' (by omega)
      exact ⟨σ'', g'', by simp [item_L k (g.get ha) hlt', item_L k (g.get hb) hlt', e'']⟩) (by rw [rangeL_len]; unfold bigN; omega)
  rw [e₁]
  have hfm : (rangeL 0 (L.length : Int)).filterMap (fun _ => (Option.none : Option AV)) = [] := by simp
  rw [hfm, qbE_ok, newL_nil, qbE_ok, newL_nil, qbE_ok, eq_nil_nil (Grow.get (.app _ _) (get_new σ₁ _)) (get_new _ _)]
  exact ⟨_, (g₁.trans (.app _ _)).trans (.app _ _), rfl⟩

theorem whole_int {n : Nat} (h : 1 ≤ n) (i : Int) (σ : Sto) : callN PP n "_law_whole" [.int i] σ = .ok (.bool true) σ := by
  obtain ⟨m, rfl, _⟩ := un h
  rw [cN, law_whole_K]
  simp
theorem set_self {σ : Sto} {q : Nat} {o : AO} (h : σ[q]? = some o) : σ.set q o = σ := by
  apply List.ext_getElem?
  intro i
  rw [List.getElem?_set]
  split
  · rename_i e; subst e
    rw [h]; simp [(List.getElem?_eq_some_iff.mp h).1]
  · rfl
theorem get_set {σ : Sto} {q : Nat} {o o' : AO} (h : σ[q]? = some o) : (σ.set q o')[q]? = some o' := by
  rw [List.getElem?_set_self (List.getElem?_eq_some_iff.mp h).1]
theorem int_bool (b : Bool) (σ : Sto) : intA [.bool b] σ = .ok (.int (bif b then 1 else 0)) σ := rfl

theorem append_ok {σ : Sto} {q : Nat} {xs : List AV} (v : AV) (h : σ[q]? = some (.list xs)) (hz : xs.length ≤ bigN) : append (.ref q) v σ = .ok .none (σ.set q (.list (xs ++ [v]))) := by
  show optR (listOf? σ q) _ = _
  rw [listOf_ok h]
  simp [optR, Nat.ble_eq_true_of_le hz]

theorem seen_ok : ∀ (t : Tr) (h : Nat), BH t h → NR t → ∀ (u : Bool), (red t = true → u = false) → ∀ (n : Nat) (σ : Sto) (q : Nat) (xs : List AV), dep t + 2 ≤ n → σ[q]? = some (.list xs) → xs.length + size t ≤ bigN →
    callN PP n "_law_seen" [enc t, .bool u, .ref q] σ = .ok (.int h) (σ.set q (.list (xs ++ (io t).map encP))) := by
  intro t
  induction t with
  | leaf =>
    intro h hb _ u _ n σ q xs hn hq _
    simp only [BH] at hb; subst hb
    obtain ⟨m, rfl, hm⟩ := un (show 0 + 1 ≤ n by first | exact hn | omega)
    rw [cN, law_seen_K]
    simp [io, set_self hq]
  | node p l k v r ihl ihr =>
    intro h hb hnr u hu n σ q xs hn hq hz
    simp only [dep] at hn
    obtain ⟨m, rfl, hm⟩ := un (show max (dep l) (dep r) + 2 + 1 - 1 + 1 ≤ n by omega)
    rw [size_node] at hz
    have hh : ∃ h', BH l h' ∧ BH r h' ∧ h = h' + (bif p then 0 else 1) := by
      cases p with
      | true => exact ⟨h, hb.1, hb.2, rfl⟩
      | false => cases h with
        | zero => exact hb.elim
        | succ h => exact ⟨h, hb.1, hb.2, rfl⟩
    obtain ⟨h', hbl, hbr, rfl⟩ := hh
    have ul : red l = true → p = false := fun z => by
      cases p with
      | false => rfl
      | true => rw [(hnr.2.2 rfl).1] at z; cases z
    have ur : red r = true → p = false := fun z => by
      cases p with
      | false => rfl
      | true => rw [(hnr.2.2 rfl).2] at z; cases z
    have s1 := ihl h' hbl hnr.1 p ul m σ q xs (by first | exact fu hm | omega) hq (by first | exact fu hm | omega)
    have q1 := get_set (o' := .list (xs ++ (io l).map encP)) hq
    have s2 := append_ok (.tup [.int k, v]) q1 (by simp only [size, List.length_append, List.length_map] at hz ⊢; omega)
    have q2 := get_set (o' := .list (xs ++ (io l).map encP ++ [.tup [.int k, v]])) q1
    have s3 := ihr h' hbr hnr.2.1 p ur m _ q _ (by first | exact fu hm | omega) q2 (by simp only [size, List.length_append, List.length_map, List.length_cons, List.length_nil] at hz ⊢; omega)
    have q3 := get_set (o' := .list (xs ++ (io l).map encP ++ [.tup [.int k, v]] ++ (io r).map encP)) q2
    have hlist := lstR_ok (α := Unit) q1 fun _ => .ok () (σ.set q (.list (xs ++ (io l).map encP)))
    rw [cN, law_seen_K]
    have hlen := len_lst hq
    have hlen3 := len_lst q3
    have hbad : (p && u) = false := by
      cases p with
      | false => rfl
      | true => simp [hu rfl]
    have e6 : lenA [enc (.node p l k v r)] σ = .ok (.int 6) σ := by kernel_rfl
    have et : ∀ σ, isiA [enc (.node p l k v r), .typ "tuple"] σ = .ok (.bool true) σ := fun σ => by kernel_rfl
    have hne : ¬ ((h' : Int) < 0) := by omega
    have hsz : ((size (.node p l k v r) : Nat) : Int) = (((xs ++ (io l).map encP ++ [AV.tup [.int k, v]] ++ (io r).map encP).length : Nat) : Int) - (xs.length : Int) := by
      rw [size_node]; simp only [size, List.length_append, List.length_map, List.length_cons, List.length_nil]; omega
    have hres : (xs ++ (io (.node p l k v r)).map encP) = (xs ++ (io l).map encP ++ [AV.tup [.int k, v]] ++ (io r).map encP) := by
      simp [io, encP]
    have hfin : (h' : Int) + (bif (!p) then 1 else 0) = (((h' + (bif p then 0 else 1) : Nat)) : Int) := by cases p <;> simp
    simp only [List.set_set] at s2 s3 hlen3
    rw [hres]
    cases p with
    | false =>
      simp (disch := first | exact fu hm | omega) only [isNone_node, cmp_is, pkE_ok, qbE_ok, tr_bool, cond_false, bq_false, et, Bool.not_true, e6, cmp_ne, decide_true, ei0, ei1, ei2, ei3, ei4, ei5, isi_bb, whole_int, cond_true, bq_true, hlen, s1, hlist, s2, s3, cmp_lt, decide_eq_false hne, hlen3, b_sub, hsz, not_bool, int_bool, b_add]
      simp
    | true =>
      have hu' : u = false := hu rfl
      subst hu'
      simp (disch := first | exact fu hm | omega) only [isNone_node, cmp_is, pkE_ok, qbE_ok, tr_bool, cond_false, bq_false, et, Bool.not_true, e6, cmp_ne, decide_true, ei0, ei1, ei2, ei3, ei4, ei5, isi_bb, whole_int, cond_true, bq_true, hlen, s1, hlist, s2, s3, cmp_lt, decide_eq_false hne, hlen3, b_sub, hsz, not_bool, int_bool, b_add]
      simp
theorem sound_ok (t : Tr) (L : List (Int × AV)) (g : Good t) (hr : red t = false) (hi : io t = L) (hz : L.length ≤ 8000) (hp : AllPlain L) {b n : Nat} {σ : Sto} (hb : σ[b]? = some (.list (L.map encP))) (hn : 40 ≤ n) :
    ∃ σ', Grow σ σ' ∧ callN PP n "_law_sound" [enc t, .ref b] σ = .ok (.bool true) σ' := by
  obtain ⟨m, rfl, hm⟩ := un (show 39 + 1 ≤ n by first | exact hn | omega)
  rw [cN, law_sound_K]
  have hs : size t ≤ 8000 := by simp only [size, hi]; exact hz
  have hd := g.dep hs
  obtain ⟨hn', h, hbh⟩ := g
  have s1 := seen_ok t h hbh hn' true (fun z => by rw [hr] at z; cases z) m (σ ++ [.list []]) σ.length [] (by first | exact fu hm | omega) (get_new σ _) (by simp [bigN]; omega)
  have e1 : (σ ++ [AO.list []]).set σ.length (.list ([] ++ (io t).map encP)) = σ ++ [.list (L.map encP)] := by
    rw [hi]; simp
  rw [e1] at s1
  have h0 : (0 : Int) ≤ h := by omega
  obtain ⟨σ', g', s2⟩ := same_ok L hz hp (n := m) (get_new σ (.list (L.map encP))) (Grow.get (.app _ _) hb) (by first | exact fu hm | omega)
  refine ⟨σ', (Grow.app _ _).trans g', ?_⟩
  rw [newL_nil]
  simp [s1, h0, s2]

end Mine.L

/- M9 -/
set_option tactic.hygienic false
/-! Mine: what the law builds: texts and things. -/
namespace Mine.L
open PySem Tr
set_option linter.unusedVariables false
set_option maxRecDepth 100000
set_option linter.unusedSimpArgs false
set_option exponentiation.threshold 1100

noncomputable def scr (ns : List Int) : AV := .frozen ns
theorem strOk_iff (x : Str) : PyData.strOk x = true ↔ ∀ c ∈ x.cps, c < 0x110000 := by
  unfold PyData.strOk
  rw [Array.all_eq_true_iff_forall_mem]
  simp
theorem strOk_slice {x : Str} (h : PyData.strOk x = true) (l u : Option Int) : PyData.strOk (Txt.slice x l u) = true := by
  rw [strOk_iff] at h ⊢
  unfold Txt.slice
  split
  · exact h
  · intro c hc
    rw [List.mem_toArray, List.mem_filterMap] at hc
    obtain ⟨i, _, hi⟩ := hc
    exact h c (Array.mem_of_getElem? hi)
theorem strOk_app {x y : Str} (h : PyData.strOk x = true) (h' : PyData.strOk y = true) : PyData.strOk (x ++ y) = true := by
  rw [strOk_iff] at h h' ⊢
  intro c hc
  have hc' : c ∈ x.cps ++ y.cps := hc
  rcases Array.mem_append.mp hc' with z | z
  · exact h c z
  · exact h' c z
theorem len_app (x y : Str) : (x ++ y).length = x.length + y.length := by
  show (x.cps ++ y.cps).size = _
  rw [Array.size_append]; rfl
theorem mul3 (x : Str) : PyData.strOk x = true → PyData.strOk (Txt.mul x 3) = true ∧ (Txt.mul x 3).length ≤ 3 * x.length := by
  intro h
  unfold Txt.mul
  rw [if_neg (by decide)]
  split
  · exact ⟨h, by omega⟩
  · have e : (List.replicate (3 : Int).toNat x.cps).foldl (· ++ ·) #[] = x.cps ++ x.cps ++ x.cps := by
      show #[] ++ x.cps ++ x.cps ++ x.cps = _
      simp
    rw [e]
    constructor
    · rw [strOk_iff] at h ⊢
      intro c hc
      have hc' : c ∈ x.cps ++ x.cps ++ x.cps := hc
      simp only [Array.mem_append, or_self] at hc'
      exact h c hc'
    · show (x.cps ++ x.cps ++ x.cps).size ≤ 3 * x.cps.size
      simp only [Array.size_append]; omega
theorem add_str {x y : Str} {σ : Sto} (h : x.length + y.length ≤ bigN) : binop .Add (.str x) (.str y) σ = .ok (.str (x ++ y)) σ := by
  show (bif Nat.ble (x.length + y.length) bigN then _ else _) = _
  rw [Nat.ble_eq_true_of_le h]; rfl
theorem mul_str {x : Str} {σ : Sto} (h : x.length ≤ bigN) : binop .Mult (.str x) (.int 3) σ = .ok (.str (Txt.mul x 3)) σ := by
  show (bif decide ((3 : Int) = 3) && Nat.ble x.length bigN then _ else _) = _
  rw [Nat.ble_eq_true_of_le h]; rfl
theorem slice_str {x : Str} {σ : Sto} {a b : Option Int} (h : x.length ≤ bigN) : item (.str x) (.sl a b) σ = .ok (.str (Txt.slice x a b)) σ := by
  show (bif Nat.ble x.length bigN then _ else _) = _
  rw [Nat.ble_eq_true_of_le h]; rfl
@[simp] theorem slA_ii (a b : Int) (σ : Sto) : slA (.int a) (.int b) σ = .ok (.sl (some a) (some b)) σ := rfl
@[simp] theorem slA_in (a : Int) (σ : Sto) : slA (.int a) .none σ = .ok (.sl (some a) Option.none) σ := rfl
@[simp] theorem slA_ni (b : Int) (σ : Sto) : slA .none (.int b) σ = .ok (.sl Option.none (some b)) σ := rfl

noncomputable def signs1 : Str := " !\"#$&'()*+,-./0123456789:;<=>?@ABCDEFGHIJKLMNOPQRSTUVWXYZ[\\]^_`"
noncomputable def signs2 : Str := "abcdefghijklmnopqrstuvwxyz{|}~\n\t"
theorem signs1_len : signs1.length ≤ 100 := by decide +kernel
theorem signs2_len : signs2.length ≤ 100 := by decide +kernel
theorem signs1_ok : PyData.strOk signs1 = true := by decide +kernel
theorem signs2_ok : PyData.strOk signs2 = true := by decide +kernel

theorem text_ok (c z : Int) : ∃ s, PyData.strOk s = true ∧ ∀ n σ, 1 ≤ n → callN PP n "_law_text" [.int c, .int z] σ = .ok (.str s) σ := by
  have l1 := signs1_len
  have l2 := signs2_len
  have hB : (signs1 ++ signs2 ++ (signs1 ++ signs2)).length ≤ 400 := by simp only [len_app]; omega
  have oB : PyData.strOk (signs1 ++ signs2 ++ (signs1 ++ signs2)) = true := strOk_app (strOk_app signs1_ok signs2_ok) (strOk_app signs1_ok signs2_ok)
  generalize hBe : signs1 ++ signs2 ++ (signs1 ++ signs2) = B at *
  generalize ht : Txt.slice B (some (c.fmod 96)) (some (c.fmod 96 + z)) = t
  have lt : t.length ≤ 400 := by rw [← ht]; exact Nat.le_trans (Txt.slice_le _ _ _) hB
  have ot : PyData.strOk t = true := by rw [← ht]; exact strOk_slice oB _ _
  have lu : (Txt.slice t (some (-1)) Option.none).length ≤ 400 := Nat.le_trans (Txt.slice_le _ _ _) lt
  have ou := strOk_slice ot (some (-1)) Option.none
  obtain ⟨om, lm⟩ := mul3 _ ou
  have lw : (Txt.slice t Option.none (some 9)).length ≤ 400 := Nat.le_trans (Txt.slice_le _ _ _) lt
  have ow := strOk_slice ot Option.none (some 9)
  have big : bigN = 1048576 := by decide
  have hK : ∀ m σ, callN PP (m + 1) "_law_text" [.int c, .int z] σ = bif decide ((c.fdiv 96).fmod 3 = 1) then .ok (.str (t ++ Txt.mul (Txt.slice t (some (-1)) Option.none) 3 ++ Txt.slice t Option.none (some 9))) σ else .ok (.str t) σ := fun m σ => by
    rw [cN, law_text_K]
    have a1 : binop .Add (.str signs1) (.str signs2) σ = _ := add_str (by first | exact fu hm | omega)
    have a2 : binop .Add (.str (signs1 ++ signs2)) (.str (signs1 ++ signs2)) σ = _ := add_str (by simp only [len_app]; omega)
    rw [hBe] at a2
    unfold signs1 signs2 at a1 a2
    rw [a1, qbE_ok, a2]
    cases hd : decide ((c.fdiv 96).fmod 3 = 1) <;>
    simp only [pkE_ok, qbE_ok, hd, cond_true, cond_false, bq_true, bq_false, b_mod c 96 σ (by decide), b_add, slA_ii, slice_str (show B.length ≤ bigN by omega), ht, b_fdiv c 96 σ (by decide) (small_lit (by decide) (by decide)), b_mod _ 3 σ (by decide), cmp_eq, tr_bool, neg_int, slA_in, slice_str (show t.length ≤ bigN by omega), mul_str (show (Txt.slice t (some (-1)) Option.none).length ≤ bigN by omega), slA_ni,
      add_str (show t.length + (Txt.mul (Txt.slice t (some (-1)) Option.none) 3).length ≤ bigN by omega), add_str (show (t ++ Txt.mul (Txt.slice t (some (-1)) Option.none) 3).length + (Txt.slice t Option.none (some 9)).length ≤ bigN by rw [len_app]; omega)]
  cases hc : decide ((c.fdiv 96).fmod 3 = 1) with
  | true =>
    refine ⟨_, strOk_app (strOk_app ot om) ow, fun n σ hn => ?_⟩
    obtain ⟨m, rfl, _⟩ := un hn
    rw [hK, hc]; rfl
  | false =>
    refine ⟨_, ot, fun n σ hn => ?_⟩
    obtain ⟨m, rfl, _⟩ := un hn
    rw [hK, hc]; rfl

/-- an int of at most so many bits -/
noncomputable def Sm (c : Int) : Prop := Builtin.Int.intBits c ≤ 2 ^ 21
theorem bits_lt {x : Int} {k : Nat} (h : x.natAbs < 2 ^ k) : Builtin.Int.intBits x ≤ k := by
  unfold Builtin.Int.intBits
  split
  · omega
  · rename_i hx
    have hx' : x.natAbs ≠ 0 := by
      intro z
      have : x = 0 := by omega
      subst this; simp at hx
    have := (Nat.log2_lt hx').mpr h
    omega
theorem lt_bits (x : Int) : x.natAbs < 2 ^ Builtin.Int.intBits x := by
  unfold Builtin.Int.intBits
  split
  · rename_i hx
    have : x = 0 := by simpa using hx
    subst this; decide
  · exact Nat.lt_log2_self
theorem Sm.add {c : Int} (h : Builtin.Int.intBits c ≤ 2 ^ 20) {k : Int} (h0 : 0 ≤ k) (h1 : k ≤ 1000) : Sm (c + k) := by
  have h2 := lt_bits c
  have h3 : c.natAbs < 2 ^ (2 ^ 20) := Nat.lt_of_lt_of_le h2 (Nat.pow_le_pow_right (by decide) h)
  refine Nat.le_trans (bits_lt (k := 2 ^ 20 + 1) ?_) (show 2 ^ 20 + 1 ≤ 2 ^ 21 by decide)
  rw [Nat.pow_succ]
  have h4 : 1000 ≤ 2 ^ (2 ^ 20) := Nat.le_trans (show 1000 ≤ 2 ^ 10 by decide) (Nat.pow_le_pow_right (by decide) (by decide))
  generalize 2 ^ (2 ^ 20) = q at *
  omega
theorem b_pow {a : Int} (b : Nat) {σ : Sto} (hb : 0 < b) (h : Builtin.Int.intBits a * b ≤ 2 ^ 27) : binop .Pow (.int a) (.int (b : Int)) σ = .ok (.int (a ^ b)) σ := by
  have h1 : decide ((0 : Int) < (b : Int)) = true := decide_eq_true (by first | exact fu hm | omega)
  have h2 : decide (((Builtin.Int.intBits a : Nat) : Int) * (b : Int) ≤ 2 ^ 27) = true := decide_eq_true (by
    have : ((Builtin.Int.intBits a * b : Nat) : Int) ≤ ((2 ^ 27 : Nat) : Int) := by omega
    rw [Int.natCast_mul] at this
    simpa using this)
  show (bif decide ((0 : Int) < (b : Int)) && decide (((Builtin.Int.intBits a : Nat) : Int) * (b : Int) ≤ 2 ^ 27) then _ else _) = _
  rw [h1, h2]; rfl

noncomputable def restC (f : Str) (p : List Nat) (cf : Calls) (l : Loc) (σ : Sto) (k : Loc → Sto → Out AV) : Out AV := (restW f p cf l σ).f (Out AV) ktO k
noncomputable def th4 (c k z x : AV) (kl : Loc) : Loc := ("_law_cell", c) :: ("_law_kind", k) :: ("_law_size", z) :: ("_law_nested", x) :: kl
noncomputable def kl1 (v : AV) : Loc := [("_law_k", v)]

theorem law_thing_S0 (cf : Calls) (law_cell_v : AV) (σ : Sto) : restK "_law_thing" [0] cf [("_law_cell", law_cell_v)] σ =
 (@qb _ _ (eE AV) (binop .Mod law_cell_v (.int 12) σ) (.mk fun v1 σ2 =>
 restK "_law_thing" [1] cf [("_law_cell", law_cell_v), ("_law_kind", v1)] σ2)) := by
  kernel_rfl

theorem law_thing_S1 (cf : Calls) (law_cell_v law_kind_v : AV) (σ : Sto) : restK "_law_thing" [1] cf [("_law_cell", law_cell_v), ("_law_kind", law_kind_v)] σ =
 (@qb _ _ (eE AV) (binop .FloorDiv law_cell_v (.int 12) σ) (.mk fun v1 σ2 =>
 @qb _ _ (eE AV) (binop .Mod v1 (.int 90) σ2) (.mk fun v3 σ4 =>
 restK "_law_thing" [2] cf [("_law_cell", law_cell_v), ("_law_kind", law_kind_v), ("_law_size", v3)] σ4))) := by
  kernel_rfl

theorem law_thing_S2 (cf : Calls) (law_cell_v law_kind_v law_size_v : AV) (σ : Sto) : restK "_law_thing" [2] cf [("_law_cell", law_cell_v), ("_law_kind", law_kind_v), ("_law_size", law_size_v)] σ =
 (@qk _ _ (eE AV) (@qb _ _ (eE Bool) (cmpop .Eq law_kind_v (.int 0) σ) (.mk fun v1001 σ1002 =>
 @qb _ _ (eE Bool) (truthO v1001 σ1002) (.mk fun b1003 σ1004 =>
 .ok b1003 σ1004))) (.mk fun c1005 σ1006 =>
 @bq _ c1005 (.mk (@qb _ _ (eE AV) (binop .FloorDiv law_cell_v (.int 12) σ1006) (.mk fun v1007 σ1008 =>
 @qk _ _ (eE AV) (cf "_law_text" [v1007, law_size_v] σ1008) (.mk fun v1009 σ1010 =>
 .ok v1009 σ1010)))) (.mk (restK "_law_thing" [3] cf [("_law_cell", law_cell_v), ("_law_kind", law_kind_v), ("_law_size", law_size_v)] σ1006)))) := by
  kernel_rfl

theorem law_thing_S3 (cf : Calls) (law_cell_v law_kind_v law_size_v : AV) (σ : Sto) : restK "_law_thing" [3] cf [("_law_cell", law_cell_v), ("_law_kind", law_kind_v), ("_law_size", law_size_v)] σ =
 (@qk _ _ (eE AV) (@qb _ _ (eE Bool) (cmpop .Eq law_kind_v (.int 1) σ) (.mk fun v1001 σ1002 =>
 @qb _ _ (eE Bool) (truthO v1001 σ1002) (.mk fun b1003 σ1004 =>
 .ok b1003 σ1004))) (.mk fun c1005 σ1006 =>
 @bq _ c1005 (.mk (@qb _ _ (eE AV) (binop .Pow law_cell_v (.int 5) σ1006) (.mk fun v1007 σ1008 =>
 @qb _ _ (eE AV) (binop .Pow (.int 10) (.int 59) σ1008) (.mk fun v1009 σ1010 =>
 @qb _ _ (eE AV) (binop .Mod v1007 v1009 σ1010) (.mk fun v1011 σ1012 =>
 @qb _ _ (eE AV) (binop .Pow (.int 10) (.int 58) σ1012) (.mk fun v1013 σ1014 =>
 @qb _ _ (eE AV) (binop .Sub v1011 v1013 σ1014) (.mk fun v1015 σ1016 =>
 .ok v1015 σ1016))))))) (.mk (restK "_law_thing" [4] cf [("_law_cell", law_cell_v), ("_law_kind", law_kind_v), ("_law_size", law_size_v)] σ1006)))) := by
  kernel_rfl

theorem law_thing_S4 (cf : Calls) (law_cell_v law_kind_v law_size_v : AV) (σ : Sto) : restK "_law_thing" [4] cf [("_law_cell", law_cell_v), ("_law_kind", law_kind_v), ("_law_size", law_size_v)] σ =
 (@qk _ _ (eE AV) (@qb _ _ (eE Bool) (cmpop .Eq law_kind_v (.int 2) σ) (.mk fun v1001 σ1002 =>
 @qb _ _ (eE Bool) (truthO v1001 σ1002) (.mk fun b1003 σ1004 =>
 .ok b1003 σ1004))) (.mk fun c1005 σ1006 =>
 @bq _ c1005 (.mk (@qb _ _ (eE AV) (binop .Mod law_size_v (.int 30) σ1006) (.mk fun v1007 σ1008 =>
 @qb _ _ (eE AV) (rangeOf [v1007] σ1008) (.mk fun s1009 σ1010 =>
 @qb _ _ (eE AV) (cpS (fun x1011 σ1012 =>
 @qb _ _ (eE (Option AV)) (binop .Add x1011 (.int 1) σ1012) (.mk fun v1113 σ1114 =>
 @qb _ _ (eE (Option AV)) (binop .FloorDiv law_cell_v v1113 σ1114) (.mk fun v1115 σ1116 =>
 @qb _ _ (eE (Option AV)) (binop .Mod v1115 (.int 9) σ1116) (.mk fun v1117 σ1118 =>
 .ok (some v1117) σ1118)))) s1009 bigN 0 [] σ1010) (.mk fun xs1119 σ1120 =>
 @qb _ _ (eE AV) (newL xs1119 σ1120) (.mk fun v1121 σ1122 =>
 @qb _ _ (eE AV) (tupleA [v1121] σ1122) (.mk fun v1123 σ1124 =>
 .ok v1123 σ1124))))))) (.mk (restK "_law_thing" [5] cf [("_law_cell", law_cell_v), ("_law_kind", law_kind_v), ("_law_size", law_size_v)] σ1006)))) := by
  kernel_rfl

theorem law_thing_S6 (cf : Calls) (law_cell_v law_kind_v law_size_v : AV) (σ : Sto) : restK "_law_thing" [6] cf [("_law_cell", law_cell_v), ("_law_kind", law_kind_v), ("_law_size", law_size_v)] σ =
 (@qk _ _ (eE AV) (@qb _ _ (eE Bool) (cmpop .Eq law_kind_v (.int 4) σ) (.mk fun v1001 σ1002 =>
 @qb _ _ (eE Bool) (truthO v1001 σ1002) (.mk fun b1003 σ1004 =>
 .ok b1003 σ1004))) (.mk fun c1005 σ1006 =>
 @bq _ c1005 (.mk (@qb _ _ (eE AV) (binop .FloorDiv law_cell_v (.int 12) σ1006) (.mk fun v1007 σ1008 =>
 @qk _ _ (eE AV) (cf "_law_text" [v1007, law_size_v] σ1008) (.mk fun v1009 σ1010 =>
 @qb _ _ (eE AV) (unop .USub law_size_v σ1010) (.mk fun v1011 σ1012 =>
 .ok (.tup [.none, v1009, v1011, (.tup [(.str ""), (.tup [.none])])]) σ1012))))) (.mk (restK "_law_thing" [7] cf [("_law_cell", law_cell_v), ("_law_kind", law_kind_v), ("_law_size", law_size_v)] σ1006)))) := by
  kernel_rfl

theorem law_thing_S7 (cf : Calls) (law_cell_v law_kind_v law_size_v : AV) (σ : Sto) : restK "_law_thing" [7] cf [("_law_cell", law_cell_v), ("_law_kind", law_kind_v), ("_law_size", law_size_v)] σ =
 (@qb _ _ (eE AV) (newL [.none, (.str ""), (.bool true), (.bool false), (.int 0), (.tup [(.bool true), (.tup [(.int 1), (.str "x")])]), (.tup [])] σ) (.mk fun v1 σ2 =>
 @qb _ _ (eE AV) (binop .Sub law_kind_v (.int 5) σ2) (.mk fun v3 σ4 =>
 @qb _ _ (eE AV) (item v1 v3 σ4) (.mk fun v5 σ6 =>
 .ok v5 σ6)))) := by
  kernel_rfl

theorem law_thing_S (cf : Calls) (c : AV) (σ : Sto) : callBody PP cf "_law_thing" [c] σ = restK "_law_thing" [0] cf [("_law_cell", c)] σ := by kernel_rfl
theorem law_thing_S5 (cf : Calls) (law_cell_v law_kind_v law_size_v : AV) (σ : Sto) : restK "_law_thing" [5] cf [("_law_cell", law_cell_v), ("_law_kind", law_kind_v), ("_law_size", law_size_v)] σ =
 (@qk _ _ (eE AV) (@qb _ _ (eE Bool) (cmpop .Eq law_kind_v (.int 3) σ) (.mk fun v1001 σ1002 =>
 @qb _ _ (eE Bool) (truthO v1001 σ1002) (.mk fun b1003 σ1004 =>
 .ok b1003 σ1004))) (.mk fun c1005 σ1006 =>
 @bq _ (c1005) (.mk (@qb _ _ (eE AV) (binop .Mod law_cell_v (.int 2) σ1006) (.mk fun v1 σ => @qb _ _ (eE AV) (cmpop .Eq v1 (.int 1) σ) (.mk fun v2 σ => @qb _ _ (eE AV) (binop .Mod law_cell_v (.int 3) σ) (.mk fun v3 σ =>
  @qb _ _ (eE AV) (binop .Mod law_size_v (.int 9) σ) (.mk fun v4 σ => @qb _ _ (eE AV) (rangeOf [v4] σ) (.mk fun s σ =>
  sk ktO (forS (fun v l σ => restS "_law_thing" [5, 1, 0] cf (setL "_law_k" v l) σ) s bigN 0 (th4 law_cell_v law_kind_v law_size_v (.tup [v2, v3]) []) σ) fun l σ => restC "_law_thing" [5, 2] cf l σ fun l σ => restK "_law_thing" [6] cf l σ))))))) (.mk (restK "_law_thing" [6] cf [("_law_cell", law_cell_v), ("_law_kind", law_kind_v), ("_law_size", law_size_v)] σ1006))) : Out AV) := by
  kernel_rfl
theorem thing_R (cf : Calls) (c k z x : AV) (kl : Loc) (σ : Sto) (K : Loc → Sto → Out AV) : restC "_law_thing" [5, 2] cf (th4 c k z x kl) σ K = .ok x σ := by kernel_rfl
theorem thing_B (cf : Calls) (c k z x v : AV) (σ : Sto) : restS "_law_thing" [5, 1, 0] cf (th4 c k z x (kl1 v)) σ = .ok .next (th4 c k z (.tup [x, v]) (kl1 v)) σ := by kernel_rfl

theorem thing_for (c k z : AV) : ∀ (m : Nat) (i : Int) (d : Nat) (x : AV) (kl : Loc), Plain d x → (kl = [] ∨ ∃ v, kl = kl1 v) → ∃ y, Plain (d + m) y ∧ ∀ cf σ, ∃ kl', forItems (fun v l σ => restS "_law_thing" [5, 1, 0] cf (setL "_law_k" v l) σ) (rangeL i (i + m)) (th4 c k z x kl) σ = .ok .next (th4 c k z y kl') σ
  | 0, i, d, x, kl, hp, hk => ⟨x, hp, fun cf σ => ⟨kl, by rw [rangeL_nil (by first | exact fu hm | omega)]; rfl⟩⟩
  | m + 1, i, d, x, kl, hp, hk => by
    obtain ⟨y, hy, hr⟩ := thing_for c k z m (i + 1) (d + 1) (.tup [x, .int i]) (kl1 (.int i)) (.tup _ _ (by simp) fun u hu => by
      simp only [List.mem_cons, List.not_mem_nil, or_false] at hu
      rcases hu with rfl | rfl
      · exact hp
      · exact .int _ _) (.inr ⟨_, rfl⟩)
    refine ⟨y, hy.up (by first | exact fu hm | omega), fun cf σ => ?_⟩
    obtain ⟨kl', e⟩ := hr cf σ
    refine ⟨kl', ?_⟩
    rw [rangeL_cons (by first | exact fu hm | omega), show i + ((m + 1 : Nat) : Int) = i + 1 + m by omega]
    unfold forItems
    have hset : setL "_law_k" (.int i) (th4 c k z x kl) = th4 c k z x (kl1 (.int i)) := by
      rcases hk with rfl | ⟨v, rfl⟩ <;> rfl
    simp only [hset]
    rw [thing_B]
    exact e

theorem tuple_call {σ : Sto} {q : Nat} {xs : List AV} (h : σ[q]? = some (.list xs)) (hz : xs.length ≤ bigN) : tupleA [.ref q] σ = .ok (.tup xs) σ := by
  show lstR σ (.ref q) _ = _
  rw [lstR_ok h, Nat.ble_eq_true_of_le hz]; rfl

theorem fmod_lo (a : Int) {b : Int} (h : 0 < b) : 0 ≤ a.fmod b := Int.fmod_nonneg_of_pos a h
theorem fmod_hi (a : Int) {b : Int} (h : 0 < b) : a.fmod b < b := Int.fmod_lt_of_pos a h

noncomputable def kind7 : List AV := [.none, .str "", .bool true, .bool false, .int 0, .tup [.bool true, .tup [.int 1, .str "x"]], .tup []]
noncomputable def kind2 (c : Int) (v : AV) : Option AV := match v with
  | .int i => some (.int ((c.fdiv (i + 1)).fmod 9))
  | _ => Option.none
theorem thing_ok (c : Int) (hc : Sm c) : ∃ v, Plain 13 v ∧ ∀ n σ, 5 ≤ n → ∃ σ', Grow σ σ' ∧ callN PP n "_law_thing" [.int c] σ = .ok v σ' := by
  have k0 := fmod_lo c (b := 12) (by decide)
  have k1 := fmod_hi c (b := 12) (by decide)
  have z0 := fmod_lo (c.fdiv 12) (b := 90) (by decide)
  have z1 := fmod_hi (c.fdiv 12) (b := 90) (by decide)
  generalize hk : c.fmod 12 = k at *
  generalize hz : (c.fdiv 12).fmod 90 = z at *
  have start : ∀ m σ, callN PP (m + 1) "_law_thing" [.int c] σ = restK "_law_thing" [2] (callN PP m) [("_law_cell", .int c), ("_law_kind", .int k), ("_law_size", .int z)] σ := fun m σ => by
    rw [cN, law_thing_S, law_thing_S0, b_mod c 12 σ (by decide), qbE_ok, law_thing_S1, b_fdiv c 12 σ (by decide) (small_lit (by decide) (by decide)), qbE_ok, b_mod _ 90 σ (by decide), qbE_ok, hk, hz]
  obtain ⟨s, os, hs⟩ := text_ok (c.fdiv 12) z
  have d12 : ∀ σ, binop .FloorDiv (.int c) (.int 12) σ = .ok (.int (c.fdiv 12)) σ := fun σ => b_fdiv c 12 σ (by decide) (small_lit (by decide) (by decide))
  by_cases h0 : k = 0
  · refine ⟨.str s, .str _ _ os, fun n σ hn => ?_⟩
    obtain ⟨m, rfl, hm⟩ := un (show 4 + 1 ≤ n by first | exact hn | omega)
    refine ⟨σ, .refl _, ?_⟩
    rw [start, law_thing_S2]
    simp only [cmp_eq, pkE_ok, qbE_ok, tr_bool, h0, decide_true, cond_true, bq_true, d12, hs m σ (by first | exact fu hm | omega)]
  have go2 : ∀ m σ, callN PP (m + 1) "_law_thing" [.int c] σ = restK "_law_thing" [3] (callN PP m) [("_law_cell", .int c), ("_law_kind", .int k), ("_law_size", .int z)] σ := fun m σ => by
    rw [start, law_thing_S2]
    simp only [cmp_eq, pkE_ok, qbE_ok, tr_bool, decide_eq_false h0, cond_false, bq_false]
  by_cases h1 : k = 1
  · refine ⟨.int ((c ^ 5).fmod (10 ^ 59) - 10 ^ 58), .int _ _, fun n σ hn => ?_⟩
    obtain ⟨m, rfl, hm⟩ := un (show 4 + 1 ≤ n by first | exact hn | omega)
    refine ⟨σ, .refl _, ?_⟩
    have p1 : binop .Pow (.int c) (.int 5) σ = _ := b_pow 5 (by decide) (by have : Builtin.Int.intBits c ≤ 2 ^ 21 := hc; omega)
    have p2 : binop .Pow (.int 10) (.int 59) σ = _ := b_pow 59 (by decide) (by decide +kernel)
    have p3 : binop .Pow (.int 10) (.int 58) σ = _ := b_pow 58 (by decide) (by decide +kernel)
    rw [go2, law_thing_S3]
    simp only [cmp_eq, pkE_ok, qbE_ok, tr_bool, h1, decide_true, cond_true, bq_true, p1, p2, p3, b_mod (c ^ 5) (10 ^ 59) σ (Int.pow_pos (by decide)), b_sub]
  have go3 : ∀ m σ, callN PP (m + 1) "_law_thing" [.int c] σ = restK "_law_thing" [4] (callN PP m) [("_law_cell", .int c), ("_law_kind", .int k), ("_law_size", .int z)] σ := fun m σ => by
    rw [go2, law_thing_S3]
    simp only [cmp_eq, pkE_ok, qbE_ok, tr_bool, decide_eq_false h1, cond_false, bq_false]
  by_cases h2 : k = 2
  · have r0 := fmod_lo z (b := 30) (by decide)
    have r1 := fmod_hi z (b := 30) (by decide)
    refine ⟨.tup ((rangeL 0 (z.fmod 30)).filterMap (kind2 c)), ?_, fun n σ hn => ?_⟩
    · refine .tup 12 _ ?_ fun x hx => ?_
      · refine Nat.lt_of_le_of_lt (List.length_filterMap_le _ _) ?_
        rw [rangeL_len]; omega
      · obtain ⟨v, hv, e⟩ := List.mem_filterMap.mp hx
        obtain ⟨i, rfl, _⟩ := mem_rangeL hv
        simp only [kind2, Option.some.injEq] at e
        subst e; exact .int _ _
    · obtain ⟨m, rfl, hm⟩ := un (show 4 + 1 ≤ n by first | exact hn | omega)
      obtain ⟨σ₁, g₁, e₁⟩ := cp_items (kind2 c) (elt := fun x1011 σ1012 =>
        (@qb _ _ (eE (Option AV)) (binop .Add x1011 (.int 1) σ1012) (.mk fun v1113 σ1114 =>
        @qb _ _ (eE (Option AV)) (binop .FloorDiv (.int c) v1113 σ1114) (.mk fun v1115 σ1116 =>
        @qb _ _ (eE (Option AV)) (binop .Mod v1115 (.int 9) σ1116) (.mk fun v1117 σ1118 =>
        .ok (some v1117) σ1118))))) (xs := rangeL 0 (z.fmod 30)) (σ := σ) (fun v hv σ' g => by
          obtain ⟨i, rfl, i0, i1⟩ := mem_rangeL hv
          exact ⟨σ', .refl _, by simp only [b_add, qbE_ok, b_fdiv c (i + 1) σ' (by omega) (small_lit (by omega) (by omega)), b_mod _ 9 σ' (by decide), kind2]⟩) (by rw [rangeL_len]; unfold bigN; omega)
      have hlen : ((rangeL 0 (z.fmod 30)).filterMap (kind2 c)).length ≤ bigN := by
        refine Nat.le_trans (List.length_filterMap_le _ _) ?_
        rw [rangeL_len]; simp [bigN]; omega
      refine ⟨σ₁ ++ [.list ((rangeL 0 (z.fmod 30)).filterMap (kind2 c))], g₁.trans (.app _ _), ?_⟩
      rw [go3, law_thing_S4]
      simp only [cmp_eq, pkE_ok, qbE_ok, tr_bool, h2, decide_true, cond_true, bq_true, b_mod z 30 σ (by decide), range_of1 (show -(2 ^ 40) ≤ z.fmod 30 by omega) (show z.fmod 30 ≤ 2 ^ 40 by omega)]
      rw [e₁, qbE_ok, newL_ok' hlen, qbE_ok, tuple_call (get_new _ _) hlen, qbE_ok]
  have go4 : ∀ m σ, callN PP (m + 1) "_law_thing" [.int c] σ = restK "_law_thing" [5] (callN PP m) [("_law_cell", .int c), ("_law_kind", .int k), ("_law_size", .int z)] σ := fun m σ => by
    rw [go3, law_thing_S4]
    simp only [cmp_eq, pkE_ok, qbE_ok, tr_bool, decide_eq_false h2, cond_false, bq_false]
  by_cases h3 : k = 3
  · have r0 := fmod_lo z (b := 9) (by decide)
    have r1 := fmod_hi z (b := 9) (by decide)
    obtain ⟨y, hy, hf⟩ := thing_for (.int c) (.int k) (.int z) (z.fmod 9).toNat 0 1 (.tup [.bool (decide (c.fmod 2 = 1)), .int (c.fmod 3)]) [] (.tup _ _ (by simp) fun u hu => by
      simp only [List.mem_cons, List.not_mem_nil, or_false] at hu
      rcases hu with rfl | rfl
      · exact .bool _ _
      · exact .int _ _) (.inl rfl)
    refine ⟨y, hy.up (by first | exact fu hm | omega), fun n σ hn => ?_⟩
    obtain ⟨m, rfl, hm⟩ := un (show 4 + 1 ≤ n by first | exact hn | omega)
    obtain ⟨kl', e⟩ := hf (callN PP m) σ
    refine ⟨σ, .refl _, ?_⟩
    rw [show (0 : Int) + ((z.fmod 9).toNat : Int) = z.fmod 9 by omega] at e
    rw [go4, law_thing_S5]
    simp only [cmp_eq, pkE_ok, qbE_ok, tr_bool, h3, decide_true, cond_true, bq_true, b_mod c 2 σ (by decide), b_mod c 3 σ (by decide), b_mod z 9 σ (by decide), range_of1 (show -(2 ^ 40) ≤ z.fmod 9 by omega) (show z.fmod 9 ≤ 2 ^ 40 by omega)]
    rw [h3] at e
    rw [forS_all _ _ _ (by rw [rangeL_len]; unfold bigN; omega), e, skO_next, thing_R]
  have go5 : ∀ m σ, callN PP (m + 1) "_law_thing" [.int c] σ = restK "_law_thing" [6] (callN PP m) [("_law_cell", .int c), ("_law_kind", .int k), ("_law_size", .int z)] σ := fun m σ => by
    rw [go4, law_thing_S5]
    simp only [cmp_eq, pkE_ok, qbE_ok, tr_bool, decide_eq_false h3, cond_false, bq_false]
  by_cases h4 : k = 4
  · refine ⟨.tup [.none, .str s, .int (-z), .tup [.str "", .tup [.none]]], ?_, fun n σ hn => ?_⟩
    · refine .tup 12 _ (by simp) fun u hu => ?_
      simp only [List.mem_cons, List.not_mem_nil, or_false] at hu
      rcases hu with rfl | rfl | rfl | rfl
      · exact .none _
      · exact .str _ _ os
      · exact .int _ _
      · refine .tup 11 _ (by simp) fun u hu => ?_
        simp only [List.mem_cons, List.not_mem_nil, or_false] at hu
        rcases hu with rfl | rfl
        · exact .str _ _ (by decide +kernel)
        · refine .tup 10 _ (by simp) fun u hu => ?_
          simp only [List.mem_cons, List.not_mem_nil, or_false] at hu
          subst hu; exact .none _
    · obtain ⟨m, rfl, hm⟩ := un (show 4 + 1 ≤ n by first | exact hn | omega)
      refine ⟨σ, .refl _, ?_⟩
      rw [go5, law_thing_S6]
      simp only [cmp_eq, pkE_ok, qbE_ok, tr_bool, h4, decide_true, cond_true, bq_true, d12, hs m σ (by first | exact fu hm | omega), neg_int]
  have go6 : ∀ m σ, callN PP (m + 1) "_law_thing" [.int c] σ = restK "_law_thing" [7] (callN PP m) [("_law_cell", .int c), ("_law_kind", .int k), ("_law_size", .int z)] σ := fun m σ => by
    rw [go5, law_thing_S6]
    simp only [cmp_eq, pkE_ok, qbE_ok, tr_bool, decide_eq_false h4, cond_false, bq_false]
  have hpl : ∀ v ∈ kind7, Plain 13 v := fun v hv => by
    simp only [kind7, List.mem_cons, List.not_mem_nil, or_false] at hv
    rcases hv with rfl | rfl | rfl | rfl | rfl | rfl | rfl
    · exact .none _
    · exact .str _ _ (by decide +kernel)
    · exact .bool _ _
    · exact .bool _ _
    · exact .int _ _
    · refine .tup 12 _ (by simp) fun u hu => ?_
      simp only [List.mem_cons, List.not_mem_nil, or_false] at hu
      rcases hu with rfl | rfl
      · exact .bool _ _
      · refine .tup 11 _ (by simp) fun u hu => ?_
        simp only [List.mem_cons, List.not_mem_nil, or_false] at hu
        rcases hu with rfl | rfl
        · exact .int _ _
        · exact .str _ _ (by decide +kernel)
    · exact .tup 12 _ (by simp) fun u hu => by simp at hu
  have hlt : (k - 5).toNat < kind7.length := by simp [kind7]; omega
  refine ⟨_, hpl _ (List.getElem_mem hlt), fun n σ hn => ?_⟩
  obtain ⟨m, rfl, hm⟩ := un (show 4 + 1 ≤ n by first | exact hn | omega)
  refine ⟨σ ++ [.list kind7], .app _ _, ?_⟩
  have h7 : restK "_law_thing" [7] (callN PP m) [("_law_cell", .int c), ("_law_kind", .int k), ("_law_size", .int z)] σ = @qb _ _ (eE AV) (newL kind7 σ) (.mk fun v1 σ2 => @qb _ _ (eE AV) (binop .Sub (.int k) (.int 5) σ2) (.mk fun v3 σ4 => @qb _ _ (eE AV) (item v1 v3 σ4) (.mk fun v5 σ6 => .ok v5 σ6))) := law_thing_S7 ..
  rw [go6, h7, newL_ok' (by simp [bigN, kind7]), qbE_ok, b_sub, qbE_ok, item_lst (get_new _ _) (by first | exact fu hm | omega) (List.getElem?_eq_getElem hlt), qbE_ok]
end Mine.L

/- M10 -/
set_option tactic.hygienic false
/-! Mine: what the law builds: rows. -/
namespace Mine.L
open PySem Tr
set_option linter.unusedVariables false
set_option maxRecDepth 100000
set_option linter.unusedSimpArgs false
set_option exponentiation.threshold 1100

open Classical in
noncomputable def thingV (c : Int) : AV := if h : Sm c then Classical.choose (thing_ok c h) else .none
theorem thingV_ok (c : Int) (h : Sm c) : Plain 13 (thingV c) ∧ ∀ n σ, 5 ≤ n → ∃ σ', Grow σ σ' ∧ callN PP n "_law_thing" [.int c] σ = .ok (thingV c) σ' := by
  unfold thingV
  rw [dif_pos h]
  exact Classical.choose_spec (thing_ok c h)

theorem pick {is : List Int} {σ : Sto} {k : Int} (h0 : 0 ≤ k) (h1 : k < is.length) : ∃ x ∈ is, item (.ref σ.length) (.int k) (σ ++ [.list (is.map .int)]) = .ok (.int x) (σ ++ [.list (is.map .int)]) := by
  have hlt : k.toNat < is.length := by omega
  exact ⟨is[k.toNat], List.getElem_mem _, item_lst (get_new _ _) h0 (by simp [hlt])⟩
noncomputable def riseF (c st ba mo : Int) (v : AV) : Option AV := match v with
  | .int k => some (encP (ba + st * k + (k * k * mo).fdiv 7, thingV (c + k)))
  | _ => Option.none

noncomputable def riseP (c st ba mo : Int) (i : Nat) : Int × AV := (ba + st * (i : Int) + ((i : Int) * (i : Int) * mo).fdiv 7, thingV (c + (i : Int)))

theorem rising_ok (c : Int) (hc : Builtin.Int.intBits c ≤ 2 ^ 20) (N : Nat) (hN : N ≤ 250) : ∃ L : List (Int × AV), L.length = N ∧ AllPlain L ∧ Srt L ∧
    ∀ n σ, 6 ≤ n → ∃ σ', Grow σ σ' ∧ callN PP n "_law_rising" [.int c, .int N] σ = .ok (.ref σ'.length) (σ' ++ [.list (L.map encP)]) := by
  have sl := fun (x : Int) (h1 : -1000000 ≤ x) (h2 : x ≤ 1000000) => small_lit h1 h2
  have m90a := fmod_lo (c.fdiv 7) (b := 90) (by decide)
  have m90b := fmod_hi (c.fdiv 7) (b := 90) (by decide)
  have m56a := fmod_lo (c.fdiv 7) (b := 10 ^ 56) (by decide)
  have m56b := fmod_hi (c.fdiv 7) (b := 10 ^ 56) (by decide)
  have m9a := fmod_lo (c.fdiv 11) (b := 9) (by decide)
  have m9b := fmod_hi (c.fdiv 11) (b := 9) (by decide)
  have k4a := fmod_lo c (b := 4) (by decide)
  have k4b := fmod_hi c (b := 4) (by decide)
  have k5a := fmod_lo (c.fdiv 5) (b := 4) (by decide)
  have k5b := fmod_hi (c.fdiv 5) (b := 4) (by decide)
  -- the step and the base do not hang on the store
  have hst : ∃ st ∈ [1, 2, 1 + (c.fdiv 7).fmod 90, 1 + (c.fdiv 7).fmod (10 ^ 56)], ∀ σ : Sto, item (.ref σ.length) (.int (c.fmod 4)) (σ ++ [.list [.int 1, .int 2, .int (1 + (c.fdiv 7).fmod 90), .int (1 + (c.fdiv 7).fmod (10 ^ 56))]]) = .ok (.int st) (σ ++ [.list [.int 1, .int 2, .int (1 + (c.fdiv 7).fmod 90), .int (1 + (c.fdiv 7).fmod (10 ^ 56))]]) := by
    have hlt : (c.fmod 4).toNat < [1, 2, 1 + (c.fdiv 7).fmod 90, 1 + (c.fdiv 7).fmod (10 ^ 56)].length := by simp; omega
    refine ⟨_, List.getElem_mem hlt, fun σ => ?_⟩
    have := item_lst (k := c.fmod 4) (v := .int [1, 2, 1 + (c.fdiv 7).fmod 90, 1 + (c.fdiv 7).fmod (10 ^ 56)][(c.fmod 4).toNat]) (get_new σ (.list ([1, 2, 1 + (c.fdiv 7).fmod 90, 1 + (c.fdiv 7).fmod (10 ^ 56)].map .int))) k4a (by rw [List.getElem?_map, List.getElem?_eq_getElem hlt]; rfl)
    exact this
  obtain ⟨st, hstm, hst⟩ := hst
  have hst1 : small st = true := by
    simp only [List.mem_cons, List.not_mem_nil, or_false] at hstm
    have hb : (1 : Int) + 10 ^ 56 ≤ 2 ^ 999 := by decide +kernel
    have hb' : (0 : Int) ≤ 2 ^ 999 := by decide +kernel
    generalize hg : (2 : Int) ^ 999 = G at hb hb'
    have : -G ≤ st ∧ st ≤ G := by omega
    exact small_of (by rw [hg]; exact this.1) (by rw [hg]; exact this.2)
  have hba : ∃ ba, ∀ σ : Sto, item (.ref σ.length) (.int ((c.fdiv 5).fmod 4)) (σ ++ [.list [.int ((c.fdiv 4).fmod 41 - 20), .int (-7), .int ((c.fdiv 4).fmod (10 ^ 59) - 5 * 10 ^ 58), .int (-(10 ^ 59))]]) = .ok (.int ba) (σ ++ [.list [.int ((c.fdiv 4).fmod 41 - 20), .int (-7), .int ((c.fdiv 4).fmod (10 ^ 59) - 5 * 10 ^ 58), .int (-(10 ^ 59))]]) := by
    have hlt : ((c.fdiv 5).fmod 4).toNat < [(c.fdiv 4).fmod 41 - 20, -7, (c.fdiv 4).fmod (10 ^ 59) - 5 * 10 ^ 58, -(10 ^ 59)].length := by simp; omega
    refine ⟨[(c.fdiv 4).fmod 41 - 20, -7, (c.fdiv 4).fmod (10 ^ 59) - 5 * 10 ^ 58, -(10 ^ 59)][((c.fdiv 5).fmod 4).toNat], fun σ => ?_⟩
    exact item_lst (k := (c.fdiv 5).fmod 4) (v := .int [(c.fdiv 4).fmod 41 - 20, -7, (c.fdiv 4).fmod (10 ^ 59) - 5 * 10 ^ 58, -(10 ^ 59)][((c.fdiv 5).fmod 4).toNat]) (get_new σ (.list ([(c.fdiv 4).fmod 41 - 20, -7, (c.fdiv 4).fmod (10 ^ 59) - 5 * 10 ^ 58, -(10 ^ 59)].map .int))) k5a (by rw [List.getElem?_map, List.getElem?_eq_getElem hlt]; rfl)
  obtain ⟨ba, hba⟩ := hba
  generalize hmo : (c.fdiv 11).fmod 9 = mo at *
  have hst0 : 1 ≤ st := by
    simp only [List.mem_cons, List.not_mem_nil, or_false] at hstm
    omega
  refine ⟨(List.range N).map (riseP c st ba mo), by simp, fun x hx => ?_, ?_, fun n σ hn => ?_⟩
  · obtain ⟨i, hi, rfl⟩ := List.mem_map.mp hx
    rw [List.mem_range] at hi
    exact (thingV_ok _ (Sm.add hc (by first | exact fu hm | omega) (by first | exact fu hm | omega))).1
  · unfold Srt
    rw [List.pairwise_map]
    refine List.Pairwise.imp ?_ List.pairwise_lt_range
    intro i j hij
    show ba + st * (i : Int) + ((i : Int) * (i : Int) * mo).fdiv 7 < ba + st * (j : Int) + ((j : Int) * (j : Int) * mo).fdiv 7
    have h1 : st * (i : Int) + st ≤ st * (j : Int) := by
      have : st * ((i : Int) + 1) ≤ st * (j : Int) := Int.mul_le_mul_of_nonneg_left (by omega) (by omega)
      rw [Int.mul_add, Int.mul_one] at this; exact this
    have h2 : (i : Int) * (i : Int) * mo ≤ (j : Int) * (j : Int) * mo := Int.mul_le_mul_of_nonneg_right (Int.mul_le_mul (by omega) (by omega) (by omega) (by omega)) m9a
    have h3 : ((i : Int) * (i : Int) * mo).fdiv 7 ≤ ((j : Int) * (j : Int) * mo).fdiv 7 := by
      rw [Int.fdiv_eq_ediv_of_nonneg _ (by decide), Int.fdiv_eq_ediv_of_nonneg _ (by decide)]
      exact Int.ediv_le_ediv (by decide) h2
    omega
  · obtain ⟨m, rfl, hm⟩ := un (show 5 + 1 ≤ n by first | exact hn | omega)
    have d7 : ∀ σ, binop .FloorDiv (.int c) (.int 7) σ = _ := fun σ => b_fdiv c 7 σ (by decide) (sl _ (by decide) (by decide))
    have d4 : ∀ σ, binop .FloorDiv (.int c) (.int 4) σ = _ := fun σ => b_fdiv c 4 σ (by decide) (sl _ (by decide) (by decide))
    have d5 : ∀ σ, binop .FloorDiv (.int c) (.int 5) σ = _ := fun σ => b_fdiv c 5 σ (by decide) (sl _ (by decide) (by decide))
    have d11 : ∀ σ, binop .FloorDiv (.int c) (.int 11) σ = _ := fun σ => b_fdiv c 11 σ (by decide) (sl _ (by decide) (by decide))
    have p56 : ∀ σ, binop .Pow (.int 10) (.int 56) σ = _ := fun σ => b_pow 56 (by decide) (by decide +kernel)
    have p58 : ∀ σ, binop .Pow (.int 10) (.int 58) σ = _ := fun σ => b_pow 58 (by decide) (by decide +kernel)
    have p59 : ∀ σ, binop .Pow (.int 10) (.int 59) σ = _ := fun σ => b_pow 59 (by decide) (by decide +kernel)
    have m5 : ∀ σ, binop .Mult (.int 5) (.int (10 ^ 58)) σ = _ := fun σ => b_mul 5 (10 ^ 58) σ (sl _ (by decide) (by decide)) (by decide +kernel)
    have q90 : ∀ x σ, binop .Mod (.int x) (.int 90) σ = _ := fun x σ => b_mod x 90 σ (by decide)
    have q56 : ∀ x σ, binop .Mod (.int x) (.int (10 ^ 56)) σ = _ := fun x σ => b_mod x (10 ^ 56) σ (by decide)
    have q59 : ∀ x σ, binop .Mod (.int x) (.int (10 ^ 59)) σ = _ := fun x σ => b_mod x (10 ^ 59) σ (by decide)
    have q4 : ∀ x σ, binop .Mod (.int x) (.int 4) σ = _ := fun x σ => b_mod x 4 σ (by decide)
    have q41 : ∀ x σ, binop .Mod (.int x) (.int 41) σ = _ := fun x σ => b_mod x 41 σ (by decide)
    have q9 : ∀ x σ, binop .Mod (.int x) (.int 9) σ = _ := fun x σ => b_mod x 9 σ (by decide)
    have n4 : ∀ (a b c d : AV) (σ : Sto), newL [a, b, c, d] σ = .ok (.ref σ.length) (σ ++ [.list [a, b, c, d]]) := fun a b c d σ => newL_ok' (by simp [bigN]) σ
    rw [cN, law_rising_K]
    simp only [d7, d4, d5, d11, p56, p58, p59, m5, q90, q56, q59, q4, q41, q9, n4, pkE_okc, qbE_okc, b_add, b_sub, neg_int, hst, hba, hmo, range_of1 (show -(2 ^ 40) ≤ (N : Int) by omega) (show (N : Int) ≤ 2 ^ 40 by omega)]
    generalize hσ : σ ++ [AO.list [.int 1, .int 2, .int (1 + (c.fdiv 7).fmod 90), .int (1 + (c.fdiv 7).fmod (10 ^ 56))]] ++ [AO.list [.int ((c.fdiv 4).fmod 41 - 20), .int (-7), .int ((c.fdiv 4).fmod (10 ^ 59) - 5 * 10 ^ 58), .int (-10 ^ 59)]] = σ₀
    have g₀ : Grow σ σ₀ := hσ ▸ (Grow.app _ _).trans (.app _ _)
    obtain ⟨σ₁, g₁, e₁⟩ := cp_items (riseF c st ba mo) (elt := fun x59 σ60 =>
      (@qb _ _ (eE (Option AV)) (binop .Mult (.int st) x59 σ60) (.mk fun v161 σ162 =>
      @qb _ _ (eE (Option AV)) (binop .Add (.int ba) v161 σ162) (.mk fun v163 σ164 =>
      @qb _ _ (eE (Option AV)) (binop .Mult x59 x59 σ164) (.mk fun v165 σ166 =>
      @qb _ _ (eE (Option AV)) (binop .Mult v165 (.int mo) σ166) (.mk fun v167 σ168 =>
      @qb _ _ (eE (Option AV)) (binop .FloorDiv v167 (.int 7) σ168) (.mk fun v169 σ170 =>
      @qb _ _ (eE (Option AV)) (binop .Add v163 v169 σ170) (.mk fun v171 σ172 =>
      @qb _ _ (eE (Option AV)) (binop .Add (.int c) x59 σ172) (.mk fun v173 σ174 =>
      @qk _ _ (eE (Option AV)) (callN PP m "_law_thing" [v173] σ174) (.mk fun v175 σ176 =>
      .ok (some (.tup [v171, v175])) σ176)))))))))) (xs := rangeL 0 N) (σ := σ₀) (fun v hv σ' g => by
        obtain ⟨i, rfl, i0, i1⟩ := mem_rangeL hv
        obtain ⟨σ'', g'', e''⟩ := (thingV_ok (c + i) (Sm.add hc (by first | exact fu hm | omega) (by first | exact fu hm | omega))).2 m σ' (by omega)
        have hii : i * i ≤ 62500 := by
          have : i * i ≤ 250 * 250 := Int.mul_le_mul (by first | exact fu hm | omega) (by first | exact fu hm | omega) (by first | exact fu hm | omega) (by first | exact fu hm | omega)
          omega
        have hii0 : 0 ≤ i * i := Int.mul_nonneg i0 i0
        refine ⟨σ'', g'', ?_⟩
        simp only [cond_true, bq_truec, b_mul st i σ' hst1 (sl i (by first | exact fu hm | omega) (by first | exact fu hm | omega)), b_mul i i σ' (sl i (by first | exact fu hm | omega) (by first | exact fu hm | omega)) (sl i (by first | exact fu hm | omega) (by first | exact fu hm | omega)), b_mul (i * i) mo σ' (sl _ (by first | exact fu hm | omega) (by first | exact fu hm | omega)) (sl _ (by first | exact fu hm | omega) (by first | exact fu hm | omega)), b_fdiv (i * i * mo) 7 σ' (by decide) (sl _ (by decide) (by decide)), pkE_okc, qbE_okc, b_add, e'', riseF, encP]) (by rw [rangeL_len]; unfold bigN; omega)
    rw [e₁]
    have hL : (rangeL 0 (N : Int)).filterMap (riseF c st ba mo) = ((List.range N).map (riseP c st ba mo)).map encP := by
      unfold rangeL
      rw [List.filterMap_map, List.map_map, show ((N : Int) - 0).toNat = N by omega]
      have : (riseF c st ba mo ∘ fun (i : Nat) => AV.int (0 + (i : Int))) = some ∘ (encP ∘ riseP c st ba mo) := by
        funext i
        simp only [Function.comp, riseF, riseP, Int.zero_add]
      rw [this, List.filterMap_eq_map]
    rw [qbE_okc, hL, newL_ok' (by simp [bigN]; omega), qbE_okc]
    exact ⟨σ₁, g₀.trans g₁, rfl⟩
end Mine.L

/- M11 -/
set_option tactic.hygienic false
/-! Mine: plain trees: put, taken, joined, united, common, without. -/
namespace Mine.L
open PySem Tr
set_option linter.unusedVariables false
set_option maxRecDepth 100000
set_option linter.unusedSimpArgs false

/-- two rising rows of the same pairs are the same -/
theorem srt_ext : ∀ {L M : List (Int × AV)}, Srt L → Srt M → (∀ x, x ∈ L ↔ x ∈ M) → L = M
  | [], [], _, _, _ => rfl
  | [], y :: M, _, _, h => absurd ((h y).mpr (.head _)) List.not_mem_nil
  | x :: L, [], _, _, h => absurd ((h x).mp (.head _)) List.not_mem_nil
  | x :: L, y :: M, h1, h2, h => by
    obtain ⟨a1, b1⟩ := List.pairwise_cons.mp h1
    obtain ⟨a2, b2⟩ := List.pairwise_cons.mp h2
    have e : x = y := by
      rcases List.mem_cons.mp ((h x).mp (.head _)) with q | q
      · exact q
      · rcases List.mem_cons.mp ((h y).mpr (.head _)) with z | z
        · exact z.symm
        · have := a1 y z; have := a2 x q; omega
    subst e
    rw [srt_ext b1 b2 fun z => ⟨fun hz => ?_, fun hz => ?_⟩]
    · rcases List.mem_cons.mp ((h z).mp (.tail _ hz)) with q | q
      · subst q; have := a1 z hz; omega
      · exact q
    · rcases List.mem_cons.mp ((h z).mpr (.tail _ hz)) with q | q
      · subst q; have := a2 z hz; omega
      · exact q
theorem Srt.mk {l r : List (Int × AV)} {k : Int} {v : AV} (h1 : Srt l) (h2 : Srt r) (h3 : ∀ x ∈ l, x.1 < k) (h4 : ∀ x ∈ r, k < x.1) : Srt (l ++ (k, v) :: r) := by
  unfold Srt
  refine List.pairwise_append.mpr ⟨h1, List.pairwise_cons.mpr ⟨h4, h2⟩, fun a ha b hb => ?_⟩
  rcases List.mem_cons.mp hb with rfl | hb
  · exact h3 a ha
  · exact Int.lt_trans (h3 a ha) (h4 b hb)
theorem Srt.mk2 {l r : List (Int × AV)} {k : Int} (h1 : Srt l) (h2 : Srt r) (h3 : ∀ x ∈ l, x.1 < k) (h4 : ∀ x ∈ r, k < x.1) : Srt (l ++ r) :=
  List.pairwise_append.mpr ⟨h1, h2, fun a ha b hb => Int.lt_trans (h3 a ha) (h4 b hb)⟩
theorem Srt.filter {L : List (Int × AV)} (h : Srt L) (p : Int × AV → Bool) : Srt (L.filter p) := List.Pairwise.filter p h
theorem lo_mem {L : List (Int × AV)} {k : Int} {x : Int × AV} : x ∈ L.filter (fun x => decide (x.1 < k)) ↔ x ∈ L ∧ x.1 < k := by rw [List.mem_filter, decide_eq_true_iff]
theorem hi_mem {L : List (Int × AV)} {k : Int} {x : Int × AV} : x ∈ L.filter (fun x => decide (k < x.1)) ↔ x ∈ L ∧ k < x.1 := by rw [List.mem_filter, decide_eq_true_iff]
theorem lohi_len (k : Int) : ∀ (L : List (Int × AV)), (L.filter (fun x => decide (x.1 < k))).length + (L.filter (fun x => decide (k < x.1))).length ≤ L.length
  | [] => by simp
  | x :: r => by
    have := lohi_len k r
    rw [List.filter_cons, List.filter_cons]
    by_cases h1 : x.1 < k
    · have h2 : ¬ k < x.1 := by omega
      rw [if_pos (decide_eq_true h1), if_neg (by rw [decide_eq_false h2]; decide)]
      simp only [List.length_cons]; omega
    · rw [if_neg (by rw [decide_eq_false h1]; decide)]
      split <;> (simp only [List.length_cons]; omega)

theorem mid_none {L : List (Int × AV)} {k : Int} (h : ∀ x ∈ L, x.1 ≠ k) : L.find? (fun x => decide (x.1 = k)) = none := List.find?_eq_none.mpr fun x hx => by simpa using h x hx
theorem mid_some {L : List (Int × AV)} (hs : Srt L) {x : Int × AV} (h : x ∈ L) : L.find? (fun y => decide (y.1 = x.1)) = some x := by
  induction L with
  | nil => cases h
  | cons y r ih =>
    obtain ⟨a, b⟩ := List.pairwise_cons.mp hs
    rw [List.find?_cons]
    rcases List.mem_cons.mp h with rfl | h
    · simp
    · have : decide (y.1 = x.1) = false := decide_eq_false (by have := a x h; omega)
      rw [this]; exact ih b h
theorem midNone {L : List (Int × AV)} (hs : Srt L) (k : Int) : (isNone (midOf (L.find? fun x => decide (x.1 = k))) = true ∧ ∀ x ∈ L, x.1 ≠ k) ∨ (isNone (midOf (L.find? fun x => decide (x.1 = k))) = false ∧ ∃ x ∈ L, x.1 = k) := by
  by_cases h : ∃ x ∈ L, x.1 = k
  · obtain ⟨x, h1, rfl⟩ := h
    exact .inr ⟨by rw [mid_some hs h1]; rfl, x, h1, rfl⟩
  · exact .inl ⟨by rw [mid_none fun x hx e => h ⟨x, hx, e⟩]; rfl, fun x hx e => h ⟨x, hx, e⟩⟩

/-- a tree that the law knows: sound, its keys rising, its root black -/
structure Fit (t : Tr) (L : List (Int × AV)) : Prop where
  good : Good t
  srt : Srt (io t)
  red : Tr.red t = false
  io : Tr.io t = L

theorem put_ok (t : Tr) (key : Int) (v : AV) (g : Good t) (hs : Srt (io t)) (hz : size t ≤ 8000) :
    ∃ t', (∀ n σ, 61 ≤ n → callN PP n "put" [enc t, .int key, v] σ = .ok (enc t') σ) ∧ Fit t' ((io t).filter (fun x => decide (x.1 < key)) ++ (key, v) :: (io t).filter (fun x => decide (key < x.1))) := by
  obtain ⟨lo, hi, c1, g1, g2, _, _, i1, i2⟩ := cut_at_ok key t g hs hz
  have hl := lohi_len key (io t)
  have z : size t = (io t).length := rfl
  obtain ⟨b, c2, i3, g3, r3⟩ := bound_ok lo hi key v g1 g2 (by simp only [size, i1]; omega) (by simp only [size, i2]; omega)
  have e : io b = _ := i3.trans (by rw [i1, i2])
  refine ⟨b, fun n σ hn => ?_, g3, ?_, r3, e⟩
  · obtain ⟨m, rfl, hm⟩ := un (show 60 + 1 ≤ n by omega)
    have hd := g.dep hz
    rw [cN, put_K, c1 m σ (by omega)]
    simp only [pkE_ok, qbE_ok, it3_0, it3_2, c2 m σ (by omega)]
  · rw [e]
    exact Srt.mk (hs.filter _) (hs.filter _) (fun x hx => (lo_mem.mp hx).2) (fun x hx => (hi_mem.mp hx).2)

theorem taken_ok (t : Tr) (key : Int) (g : Good t) (hs : Srt (io t)) (hz : size t ≤ 8000) (hk : ∃ x ∈ io t, x.1 = key) :
    ∃ t', (∀ n σ, 63 ≤ n → callN PP n "taken" [enc t, .int key] σ = .ok (enc t') σ) ∧ Fit t' ((io t).filter (fun x => decide (x.1 < key)) ++ (io t).filter (fun x => decide (key < x.1))) := by
  obtain ⟨lo, hi, c1, g1, g2, _, _, i1, i2⟩ := cut_at_ok key t g hs hz
  have hl := lohi_len key (io t)
  have z : size t = (io t).length := rfl
  obtain ⟨b, c2, i3, g3, r3⟩ := bound_alone_ok lo hi g1 g2 (by rw [i1]; exact hs.filter _) (by simp only [size, i1]; omega) (by simp only [size, i2]; omega)
  have e : io b = _ := i3.trans (by rw [i1, i2])
  refine ⟨b, fun n σ hn => ?_, g3, ?_, r3, e⟩
  · obtain ⟨m, rfl, hm⟩ := un (show 62 + 1 ≤ n by omega)
    have hd := g.dep hz
    rcases midNone hs key with ⟨_, h⟩ | ⟨h, _⟩
    · obtain ⟨x, hx, e⟩ := hk; exact absurd e (h x hx)
    · rw [cN, taken_K, c1 m σ (by omega)]
      simp only [pkE_ok, qbE_ok, it3_0, it3_1, it3_2, cmp_is, h, tr_bool, bq_false, c2 m σ (by omega)]
  · rw [e]
    exact Srt.mk2 (hs.filter _) (hs.filter _) (fun x hx => (lo_mem.mp hx).2) (fun x hx => (hi_mem.mp hx).2)
theorem taken_exc (t : Tr) (key : Int) (g : Good t) (hs : Srt (io t)) (hz : size t ≤ 8000) (hk : ∀ x ∈ io t, x.1 ≠ key) {n : Nat} (hn : 61 ≤ n) (σ : Sto) : callN PP n "taken" [enc t, .int key] σ = .exc "NoKey" σ := by
  obtain ⟨lo, hi, c1, _⟩ := cut_at_ok key t g hs hz
  obtain ⟨m, rfl, hm⟩ := un (show 60 + 1 ≤ n by omega)
  have hd := g.dep hz
  rcases midNone hs key with ⟨h, _⟩ | ⟨_, x, hx, e⟩
  · rw [cN, taken_K, c1 m σ (by omega)]
    simp only [pkE_ok, qbE_ok, it3_1, cmp_is, h, tr_bool, bq_true]
  · exact absurd e (hk x hx)

/-- the last key ahead, the first behind -/
noncomputable def Ahead (L : List (Int × AV)) (k : Int) : Prop := ∀ a ∈ L.getLast?, a.1 < k
noncomputable def Behind (k : Int) (L : List (Int × AV)) : Prop := ∀ a ∈ L.head?, k < a.1
theorem Ahead.all {L : List (Int × AV)} {k : Int} (h : Ahead L k) (hs : Srt L) : ∀ x ∈ L, x.1 < k := fun x hx => by
  rcases List.eq_nil_or_concat L with rfl | ⟨l, y, rfl⟩
  · cases hx
  · rw [List.concat_eq_append] at *
    have hy := h y (by simp)
    rcases List.mem_append.mp hx with q | q
    · have := (List.pairwise_append.mp hs).2.2 x q y (by simp)
      omega
    · rw [List.mem_singleton.mp q]; exact hy
theorem Behind.all {L : List (Int × AV)} {k : Int} (h : Behind k L) (hs : Srt L) : ∀ x ∈ L, k < x.1 := fun x hx => by
  cases L with
  | nil => cases hx
  | cons y r =>
    have hy := h y (by simp)
    rcases List.mem_cons.mp hx with rfl | q
    · exact hy
    · have := (List.pairwise_cons.mp hs).1 x q
      omega
theorem joined_ok (one other : Tr) (key : Int) (v : AV) (g1 : Good one) (g2 : Good other) (s1 : Srt (io one)) (s2 : Srt (io other)) (z1 : size one ≤ 8000) (z2 : size other ≤ 8000) (h1 : Ahead (io one) key) (h2 : Behind key (io other)) :
    ∃ t, (∀ n σ, 33 ≤ n → callN PP n "joined" [enc one, .int key, v, enc other] σ = .ok (enc t) σ) ∧ Fit t (io one ++ (key, v) :: io other) := by
  obtain ⟨b, c, i, g, r⟩ := bound_ok one other key v g1 g2 z1 z2
  refine ⟨b, fun n σ hn => ?_, g, by rw [i]; exact Srt.mk s1 s2 (h1.all s1) (h2.all s2), r, i⟩
  obtain ⟨m, rfl, hm⟩ := un (show 32 + 1 ≤ n by omega)
  have q := c m σ (by omega)
  have t2 : ∀ K : Nat → Prop, True := fun _ => trivial
  have A : isNone (enc one) = true ∨ (isNone (enc one) = false ∧ ∃ p' l' k' v', (∀ σ, callN PP m "greatest" [enc one] σ = .ok (enc (.node p' l' k' v' .leaf)) σ) ∧ k' < key) := by
    by_cases n1 : one = .leaf
    · subst n1; exact .inl rfl
    · obtain ⟨p', l', k', v', pre, c1, e1⟩ := greatest_ok n1 (by have := g1.dep z1; omega)
      refine .inr ⟨by cases one <;> first | exact absurd rfl n1 | rfl, p', l', k', v', fun σ => c1 m σ (by omega), h1 (k', v') (by rw [e1]; simp)⟩
  have B : isNone (enc other) = true ∨ (isNone (enc other) = false ∧ ∃ p' r' k' v', (∀ σ, callN PP m "least" [enc other] σ = .ok (enc (.node p' .leaf k' v' r')) σ) ∧ key < k') := by
    by_cases n1 : other = .leaf
    · subst n1; exact .inl rfl
    · obtain ⟨p', l', k', v', pre, c1, e1⟩ := least_ok n1 (by have := g2.dep z2; omega)
      refine .inr ⟨by cases other <;> first | exact absurd rfl n1 | rfl, p', l', k', v', fun σ => c1 m σ (by omega), h2 (k', v') (by rw [e1]; simp)⟩
  rw [cN, joined_K]
  rcases A with A | ⟨A, p', l', k', v', c1, A2⟩
  · rcases B with B | ⟨B, p₂, r₂, k₂, v₂, c2, B2⟩
    · simp only [cmp_isnot, A, B, Bool.not_true, pkE_ok, qbE_ok, tr_bool, bq_false, q]
    · have hb : decide (k₂ ≤ key) = false := decide_eq_false (by omega)
      simp only [cmp_isnot, A, B, Bool.not_true, Bool.not_false, pkE_ok, qbE_ok, tr_bool, bq_false, bq_true, c2, ei2, cmp_le, hb, q]
  · have ha : decide (k' ≥ key) = false := decide_eq_false (by omega)
    rcases B with B | ⟨B, p₂, r₂, k₂, v₂, c2, B2⟩
    · simp only [cmp_isnot, A, B, Bool.not_true, Bool.not_false, pkE_ok, qbE_ok, tr_bool, bq_false, bq_true, c1, ei2, cmp_ge, ha, q]
    · have hb : decide (k₂ ≤ key) = false := decide_eq_false (by omega)
      simp only [cmp_isnot, A, B, Bool.not_true, Bool.not_false, pkE_ok, qbE_ok, tr_bool, bq_false, bq_true, c1, c2, ei2, cmp_ge, cmp_le, ha, hb, q]
theorem joined_exc (one other : Tr) (key : Int) (v : AV) (g1 : Good one) (g2 : Good other) (z1 : size one ≤ 8000) (z2 : size other ≤ 8000) (h : ¬ (Ahead (io one) key ∧ Behind key (io other))) {n : Nat} (hn : 2 ≤ n) (σ : Sto) :
    callN PP n "joined" [enc one, .int key, v, enc other] σ = .exc "NotApart" σ := by
  obtain ⟨m, rfl, hm⟩ := un (show 1 + 1 ≤ n by omega)
  rw [cN, joined_K]
  by_cases h1 : Ahead (io one) key
  · have h2 : ¬ Behind key (io other) := fun z => h ⟨h1, z⟩
    have n2 : other ≠ .leaf := fun e => h2 (by rw [e]; intro a h; simp [io] at h)
    obtain ⟨p₂, r₂, k₂, v₂, post, c2, e2⟩ := least_ok n2 (by have := g2.dep z2; omega)
    have hk : k₂ ≤ key := Int.not_lt.mp fun q => h2 fun a ha => by rw [e2] at ha; simp at ha; subst ha; exact q
    have i2 : isNone (enc other) = false := by cases other <;> first | exact absurd rfl n2 | rfl
    by_cases n1 : one = .leaf
    · subst n1
      simp only [cmp_isnot, isNone_leaf, i2, Bool.not_true, Bool.not_false, pkE_ok, qbE_ok, tr_bool, bq_false, bq_true, c2 m σ hm, ei2, cmp_le, decide_eq_true hk]
    · obtain ⟨p', l', k', v', pre, c1, e1⟩ := greatest_ok n1 (by have := g1.dep z1; omega)
      have hk1 : k' < key := h1 (k', v') (by rw [e1]; simp)
      have i1 : isNone (enc one) = false := by cases one <;> first | exact absurd rfl n1 | rfl
      have hb : decide (k' ≥ key) = false := decide_eq_false (by omega)
      simp only [cmp_isnot, i1, i2, Bool.not_true, Bool.not_false, pkE_ok, qbE_ok, tr_bool, bq_false, bq_true, c1 m σ hm, c2 m σ hm, ei2, cmp_le, cmp_ge, hb, decide_eq_true hk]
  · have n1 : one ≠ .leaf := fun e => h1 (by rw [e]; intro a h; simp [io] at h)
    obtain ⟨p', l', k', v', pre, c1, e1⟩ := greatest_ok n1 (by have := g1.dep z1; omega)
    have hk : key ≤ k' := Int.not_lt.mp fun q => h1 fun a ha => by rw [e1] at ha; simp at ha; subst ha; exact q
    have i1 : isNone (enc one) = false := by cases one <;> first | exact absurd rfl n1 | rfl
    have hb : decide (k' ≥ key) = true := decide_eq_true hk
    simp only [cmp_isnot, i1, Bool.not_false, pkE_ok, qbE_ok, tr_bool, bq_true, c1 m σ hm, ei2, cmp_ge, hb]
end Mine.L

/- M12 -/
set_option tactic.hygienic false
/-! Mine: plain trees: united, common, without. -/
namespace Mine.L
open PySem Tr
set_option linter.unusedVariables false
set_option maxRecDepth 100000
set_option linter.unusedSimpArgs false

theorem qbE_of {α β : Type} {e : Out α} {a : α} {σ : Sto} (h : e = .ok a σ) (f : α → Sto → Out β) : @qb _ _ (eE β) e (.mk f) = f a σ := by rw [h]; rfl
theorem qkE_of {α β : Type} {e : Out α} {a : α} {σ : Sto} (h : e = .ok a σ) (f : α → Sto → Out β) : @qk _ _ (eE β) e (.mk f) = f a σ := by rw [h]; rfl
theorem qbS_of {α : Type} {l : Loc} {e : Out α} {a : α} {σ : Sto} (h : e = .ok a σ) (f : α → Sto → OutS) : @qb _ _ (ktS.e l) e (.mk f) = f a σ := by rw [h]; rfl
theorem qkS_of {α : Type} {l : Loc} {e : Out α} {a : α} {σ : Sto} (h : e = .ok a σ) (f : α → Sto → OutS) : @qk _ _ (ktS.e l) e (.mk f) = f a σ := by rw [h]; rfl

/-- what stands in a tree of two -/
structure Two (R : List (Int × AV) → List (Int × AV) → Int × AV → Prop) (one other t : Tr) (z : Nat) : Prop where
  good : Good t
  srt : Srt (io t)
  red : Tr.red t = false
  mem : ∀ x, x ∈ io t ↔ R (io one) (io other) x
  size : Tr.size t ≤ z
noncomputable def InUni (L M : List (Int × AV)) (x : Int × AV) : Prop := x ∈ L ∨ (x ∈ M ∧ ∀ y ∈ L, y.1 ≠ x.1)
noncomputable def InCom (L M : List (Int × AV)) (x : Int × AV) : Prop := x ∈ L ∧ ∃ y ∈ M, y.1 = x.1
noncomputable def InOut (L M : List (Int × AV)) (x : Int × AV) : Prop := x ∈ L ∧ ∀ y ∈ M, y.1 ≠ x.1

theorem node_mem {p l k v r} {x : Int × AV} : x ∈ io (.node p l k v r) ↔ x ∈ io l ∨ x = (k, v) ∨ x ∈ io r := by
  rw [io, List.mem_append, List.mem_cons]
theorem none_enc {t : Tr} (h : t ≠ .leaf) : isNone (enc t) = false := by cases t <;> first | exact absurd rfl h | rfl

theorem united_ok : ∀ (one other : Tr), Good one → Good other → Srt (io one) → Srt (io other) → size one + size other ≤ 8000 →
    ∃ t, (∀ n σ, dep one + 62 ≤ n → callN PP n "united" [enc one, enc other] σ = .ok (enc t) σ) ∧ Two InUni one other t (size one + size other) := by
  intro one
  induction one with
  | leaf =>
    intro other _ g _ s z
    refine ⟨blk other, fun n σ hn => ?_, g.blk, by rw [io_blk]; exact s, red_blk _, fun x => ?_, by rw [size_blk]; exact Nat.le_add_left _ _⟩
    · obtain ⟨m, rfl, hm⟩ := un (show 61 + 1 ≤ n by simp only [dep] at hn; omega)
      rw [cN, united_K]
      simp only [cmp_is, isNone_leaf, qbE_ok, tr_bool, pkE_ok, bq_true, unpainted_ok (show 3 ≤ m by omega)]
    · rw [io_blk]
      exact ⟨fun h => .inr ⟨h, fun y hy => by simp [io] at hy⟩, fun h => h.elim (fun q => by simp [io] at q) fun q => q.1⟩
  | node p l k v r ihl ihr =>
    intro other g1 g2 s1 s2 z
    rw [size_node] at z
    obtain ⟨sl, sr, hl, hr, hlr⟩ := Srt.node (show Srt (io l ++ (k, v) :: io r) from s1)
    obtain ⟨lo, hi, c1, gl, gh, _, _, i1, i2⟩ := cut_at_ok k other g2 s2 (by omega)
    have hlen := lohi_len k (io other)
    have zl : size lo = ((io other).filter (fun x => decide (x.1 < k))).length := by rw [← i1]; rfl
    have zh : size hi = ((io other).filter (fun x => decide (k < x.1))).length := by rw [← i2]; rfl
    have zo : size other = (io other).length := rfl
    obtain ⟨a, c2, A⟩ := ihl lo g1.left gl sl (by rw [i1]; exact s2.filter _) (by omega)
    obtain ⟨b, c3, B⟩ := ihr hi g1.right gh sr (by rw [i2]; exact s2.filter _) (by omega)
    have za := A.size
    have zb := B.size
    obtain ⟨t, c4, i4, g4, r4⟩ := bound_ok a b k v A.good B.good (by omega) (by omega)
    have ha : ∀ x ∈ io a, x.1 < k := fun x hx => by
      rcases (A.mem x).mp hx with q | ⟨q, _⟩
      · exact hl x q
      · rw [i1] at q; exact (lo_mem.mp q).2
    have hb : ∀ x ∈ io b, k < x.1 := fun x hx => by
      rcases (B.mem x).mp hx with q | ⟨q, _⟩
      · exact hr x q
      · rw [i2] at q; exact (hi_mem.mp q).2
    refine ⟨t, fun n σ hn => ?_, g4, by rw [i4]; exact Srt.mk A.srt B.srt ha hb, r4, fun x => ?_, ?_⟩
    · simp only [dep] at hn
      obtain ⟨m, rfl, hm⟩ := un (show max (dep l) (dep r) + 62 + 1 ≤ n by omega)
      have hd := g2.dep (by omega)
      rw [cN, united_K]
      simp only [cmp_is, isNone_node, qbE_ok, tr_bool, pkE_ok, bq_false, ei1, ei2, ei3, ei4, c1 m σ (by omega), it3_0, it3_2, c2 m σ (by omega), c3 m σ (by omega), c4 m σ (by omega)]
    · rw [i4, List.mem_append, List.mem_cons, A.mem, B.mem]
      unfold InUni
      rw [i1, i2, lo_mem, hi_mem, node_mem]
      constructor
      · rintro ((q | ⟨⟨q1, q2⟩, q3⟩) | rfl | (q | ⟨⟨q1, q2⟩, q3⟩))
        · exact .inl (.inl q)
        · refine .inr ⟨q1, fun y hy => ?_⟩
          rcases node_mem.mp hy with w | rfl | w
          · exact q3 y w
          · show k ≠ x.1; omega
          · have := hr y w; omega
        · exact .inl (.inr (.inl rfl))
        · exact .inl (.inr (.inr q))
        · refine .inr ⟨q1, fun y hy => ?_⟩
          rcases node_mem.mp hy with w | rfl | w
          · have := hl y w; omega
          · show k ≠ x.1; omega
          · exact q3 y w
      · rintro ((q | rfl | q) | ⟨q1, q2⟩)
        · exact .inl (.inl q)
        · exact .inr (.inl rfl)
        · exact .inr (.inr (.inl q))
        · have hk : k ≠ x.1 := q2 (k, v) (node_mem.mpr (.inr (.inl rfl)))
          by_cases hlt : x.1 < k
          · exact .inl (.inr ⟨⟨q1, hlt⟩, fun y hy => q2 y (node_mem.mpr (.inl hy))⟩)
          · exact .inr (.inr (.inr ⟨⟨q1, by omega⟩, fun y hy => q2 y (node_mem.mpr (.inr (.inr hy)))⟩))
    · have : size t = size a + 1 + size b := by simp only [size, i4, List.length_append, List.length_cons]; omega
      rw [size_node]; omega

theorem common_ok : ∀ (one other : Tr), Good one → Good other → Srt (io one) → Srt (io other) → size one ≤ 8000 → size other ≤ 8000 →
    ∃ t, (∀ n σ, dep one + 64 ≤ n → callN PP n "common" [enc one, enc other] σ = .ok (enc t) σ) ∧ Two InCom one other t (size one) := by
  intro one
  induction one with
  | leaf =>
    intro other _ g _ s z z'
    refine ⟨.leaf, fun n σ hn => ?_, .leaf, .nil, rfl, fun x => ⟨fun h => by simp [io] at h, fun h => by simp [InCom, io] at h⟩, Nat.le_refl _⟩
    obtain ⟨m, rfl, hm⟩ := un (show 61 + 1 ≤ n by simp only [dep] at hn; omega)
    rw [cN, common_K]
    simp only [cmp_is, isNone_leaf, qbE_ok, tr_bool, pkE_ok, bq_true]
    rfl
  | node p l k v r ihl ihr =>
    intro other g1 g2 s1 s2 z z'
    rw [size_node] at z
    by_cases ho : other = .leaf
    · subst ho
      refine ⟨.leaf, fun n σ hn => ?_, .leaf, .nil, rfl, fun x => ⟨fun h => by simp [io] at h, fun h => by simp [InCom, io] at h⟩, Nat.zero_le _⟩
      obtain ⟨m, rfl, hm⟩ := un (show 61 + 1 ≤ n by simp only [dep] at hn; omega)
      rw [cN, common_K]
      simp only [cmp_is, isNone_node, isNone_leaf, qbE_ok, tr_bool, pkE_ok, bq_true, bq_false]
      rfl
    have hne := none_enc ho
    obtain ⟨sl, sr, hl, hr, hlr⟩ := Srt.node (show Srt (io l ++ (k, v) :: io r) from s1)
    obtain ⟨lo, hi, c1, gl, gh, _, _, i1, i2⟩ := cut_at_ok k other g2 s2 (by omega)
    have hlen := lohi_len k (io other)
    have zl : size lo = ((io other).filter (fun x => decide (x.1 < k))).length := by rw [← i1]; rfl
    have zh : size hi = ((io other).filter (fun x => decide (k < x.1))).length := by rw [← i2]; rfl
    have zo : size other = (io other).length := rfl
    obtain ⟨a, c2, A⟩ := ihl lo g1.left gl sl (by rw [i1]; exact s2.filter _) (by omega) (by omega)
    obtain ⟨b, c3, B⟩ := ihr hi g1.right gh sr (by rw [i2]; exact s2.filter _) (by omega) (by omega)
    have za := A.size
    have zb := B.size
    have ha : ∀ x ∈ io a, x.1 < k := fun x hx => hl x ((A.mem x).mp hx).1
    have hb : ∀ x ∈ io b, k < x.1 := fun x hx => hr x ((B.mem x).mp hx).1
    -- the pairs below
    have low : ∀ x, x ∈ io a ↔ x ∈ io l ∧ ∃ y ∈ io other, y.1 = x.1 := fun x => by
      rw [A.mem]
      unfold InCom
      refine ⟨fun ⟨q1, y, q2, q3⟩ => ⟨q1, y, ?_, q3⟩, fun ⟨q1, y, q2, q3⟩ => ⟨q1, y, ?_, q3⟩⟩
      · rw [i1] at q2; exact (lo_mem.mp q2).1
      · rw [i1]; exact lo_mem.mpr ⟨q2, by have := hl x q1; omega⟩
    have high : ∀ x, x ∈ io b ↔ x ∈ io r ∧ ∃ y ∈ io other, y.1 = x.1 := fun x => by
      rw [B.mem]
      unfold InCom
      refine ⟨fun ⟨q1, y, q2, q3⟩ => ⟨q1, y, ?_, q3⟩, fun ⟨q1, y, q2, q3⟩ => ⟨q1, y, ?_, q3⟩⟩
      · rw [i2] at q2; exact (hi_mem.mp q2).1
      · rw [i2]; exact hi_mem.mpr ⟨q2, by have := hr x q1; omega⟩
    rcases midNone s2 k with ⟨hm0, hno⟩ | ⟨hm0, y₀, hy₀, hyk⟩
    · obtain ⟨t, c4, i4, g4, r4⟩ := bound_alone_ok a b A.good B.good A.srt (by omega) (by omega)
      refine ⟨t, fun n σ hn => ?_, g4, by rw [i4]; exact Srt.mk2 A.srt B.srt ha hb, r4, fun x => ?_, ?_⟩
      · simp only [dep] at hn
        obtain ⟨m, rfl, hm⟩ := un (show max (dep l) (dep r) + 64 + 1 ≤ n by omega)
        have hd := g2.dep (by omega)
        rw [cN, common_K]
        simp only [cmp_is, isNone_node, hne, qbE_ok, tr_bool, pkE_ok, bq_false, ei1, ei2, ei3, ei4, c1 m σ (by omega), it3_0, it3_1, it3_2, c2 m σ (by omega), c3 m σ (by omega), hm0, bq_true, c4 m σ (by omega)]
      · rw [i4, List.mem_append, low, high]
        unfold InCom
        rw [node_mem]
        constructor
        · rintro (⟨q1, q2⟩ | ⟨q1, q2⟩)
          · exact ⟨.inl q1, q2⟩
          · exact ⟨.inr (.inr q1), q2⟩
        · rintro ⟨q1 | rfl | q1, q2⟩
          · exact .inl ⟨q1, q2⟩
          · obtain ⟨y, h1, h2⟩ := q2; exact absurd h2 (hno y h1)
          · exact .inr ⟨q1, q2⟩
      · have : size t = size a + size b := by simp only [size, i4, List.length_append]
        rw [size_node]; omega
    · obtain ⟨t, c4, i4, g4, r4⟩ := bound_ok a b k v A.good B.good (by omega) (by omega)
      refine ⟨t, fun n σ hn => ?_, g4, by rw [i4]; exact Srt.mk A.srt B.srt ha hb, r4, fun x => ?_, ?_⟩
      · simp only [dep] at hn
        obtain ⟨m, rfl, hm⟩ := un (show max (dep l) (dep r) + 64 + 1 ≤ n by omega)
        have hd := g2.dep (by omega)
        rw [cN, common_K]
        simp only [cmp_is, isNone_node, hne, qbE_ok, tr_bool, pkE_ok, bq_false, ei1, ei2, ei3, ei4, c1 m σ (by omega), it3_0, it3_1, it3_2, c2 m σ (by omega), c3 m σ (by omega), hm0, c4 m σ (by omega)]
      · rw [i4, List.mem_append, List.mem_cons, low, high]
        unfold InCom
        rw [node_mem]
        constructor
        · rintro (⟨q1, q2⟩ | rfl | ⟨q1, q2⟩)
          · exact ⟨.inl q1, q2⟩
          · exact ⟨.inr (.inl rfl), y₀, hy₀, hyk⟩
          · exact ⟨.inr (.inr q1), q2⟩
        · rintro ⟨q1 | rfl | q1, q2⟩
          · exact .inl ⟨q1, q2⟩
          · exact .inr (.inl rfl)
          · exact .inr (.inr ⟨q1, q2⟩)
      · have : size t = size a + 1 + size b := by simp only [size, i4, List.length_append, List.length_cons]; omega
        rw [size_node]; omega

theorem without_ok : ∀ (one other : Tr), Good one → Good other → Srt (io one) → Srt (io other) → size one ≤ 8000 → size other ≤ 8000 →
    ∃ t, (∀ n σ, dep one + 64 ≤ n → callN PP n "without" [enc one, enc other] σ = .ok (enc t) σ) ∧ Two InOut one other t (size one) := by
  intro one
  induction one with
  | leaf =>
    intro other _ g _ s z z'
    refine ⟨.leaf, fun n σ hn => ?_, .leaf, .nil, rfl, fun x => ⟨fun h => by simp [io] at h, fun h => by simp [InOut, io] at h⟩, Nat.le_refl _⟩
    obtain ⟨m, rfl, hm⟩ := un (show 61 + 1 ≤ n by simp only [dep] at hn; omega)
    rw [cN, without_K]
    simp only [cmp_is, isNone_leaf, qbE_ok, tr_bool, pkE_ok, bq_true, unpainted_ok (show 3 ≤ m by omega), blk]
  | node p l k v r ihl ihr =>
    intro other g1 g2 s1 s2 z z'
    by_cases ho : other = .leaf
    · subst ho
      refine ⟨blk (.node p l k v r), fun n σ hn => ?_, g1.blk, by rw [io_blk]; exact s1, red_blk _, fun x => ?_, by rw [size_blk]; exact Nat.le_refl _⟩
      · obtain ⟨m, rfl, hm⟩ := un (show 61 + 1 ≤ n by simp only [dep] at hn; omega)
        rw [cN, without_K]
        simp only [cmp_is, isNone_node, isNone_leaf, qbE_ok, tr_bool, pkE_ok, bq_true, bq_false, unpainted_ok (show 3 ≤ m by omega)]
      · rw [io_blk]
        exact ⟨fun h => ⟨h, fun y hy => by simp [io] at hy⟩, fun h => h.1⟩
    have hne := none_enc ho
    rw [size_node] at z
    obtain ⟨sl, sr, hl, hr, hlr⟩ := Srt.node (show Srt (io l ++ (k, v) :: io r) from s1)
    obtain ⟨lo, hi, c1, gl, gh, _, _, i1, i2⟩ := cut_at_ok k other g2 s2 (by omega)
    have hlen := lohi_len k (io other)
    have zl : size lo = ((io other).filter (fun x => decide (x.1 < k))).length := by rw [← i1]; rfl
    have zh : size hi = ((io other).filter (fun x => decide (k < x.1))).length := by rw [← i2]; rfl
    have zo : size other = (io other).length := rfl
    obtain ⟨a, c2, A⟩ := ihl lo g1.left gl sl (by rw [i1]; exact s2.filter _) (by omega) (by omega)
    obtain ⟨b, c3, B⟩ := ihr hi g1.right gh sr (by rw [i2]; exact s2.filter _) (by omega) (by omega)
    have za := A.size
    have zb := B.size
    have ha : ∀ x ∈ io a, x.1 < k := fun x hx => hl x ((A.mem x).mp hx).1
    have hb : ∀ x ∈ io b, k < x.1 := fun x hx => hr x ((B.mem x).mp hx).1
    have low : ∀ x, x ∈ io a ↔ x ∈ io l ∧ ∀ y ∈ io other, y.1 ≠ x.1 := fun x => by
      rw [A.mem]
      unfold InOut
      refine ⟨fun ⟨q1, q2⟩ => ⟨q1, fun y hy => ?_⟩, fun ⟨q1, q2⟩ => ⟨q1, fun y hy => ?_⟩⟩
      · intro e
        exact q2 y (by rw [i1]; exact lo_mem.mpr ⟨hy, by have := hl x q1; omega⟩) e
      · rw [i1] at hy; exact q2 y (lo_mem.mp hy).1
    have high : ∀ x, x ∈ io b ↔ x ∈ io r ∧ ∀ y ∈ io other, y.1 ≠ x.1 := fun x => by
      rw [B.mem]
      unfold InOut
      refine ⟨fun ⟨q1, q2⟩ => ⟨q1, fun y hy => ?_⟩, fun ⟨q1, q2⟩ => ⟨q1, fun y hy => ?_⟩⟩
      · intro e
        exact q2 y (by rw [i2]; exact hi_mem.mpr ⟨hy, by have := hr x q1; omega⟩) e
      · rw [i2] at hy; exact q2 y (hi_mem.mp hy).1
    rcases midNone s2 k with ⟨hm0, hno⟩ | ⟨hm0, y₀, hy₀, hyk⟩
    · obtain ⟨t, c4, i4, g4, r4⟩ := bound_ok a b k v A.good B.good (by omega) (by omega)
      refine ⟨t, fun n σ hn => ?_, g4, by rw [i4]; exact Srt.mk A.srt B.srt ha hb, r4, fun x => ?_, ?_⟩
      · simp only [dep] at hn
        obtain ⟨m, rfl, hm⟩ := un (show max (dep l) (dep r) + 64 + 1 ≤ n by omega)
        have hd := g2.dep (by omega)
        rw [cN, without_K]
        simp only [cmp_is, isNone_node, hne, qbE_ok, tr_bool, pkE_ok, bq_false, ei1, ei2, ei3, ei4, c1 m σ (by omega), it3_0, it3_1, it3_2, c2 m σ (by omega), c3 m σ (by omega), hm0, bq_true, c4 m σ (by omega)]
      · rw [i4, List.mem_append, List.mem_cons, low, high]
        unfold InOut
        rw [node_mem]
        constructor
        · rintro (⟨q1, q2⟩ | rfl | ⟨q1, q2⟩)
          · exact ⟨.inl q1, q2⟩
          · exact ⟨.inr (.inl rfl), hno⟩
          · exact ⟨.inr (.inr q1), q2⟩
        · rintro ⟨q1 | rfl | q1, q2⟩
          · exact .inl ⟨q1, q2⟩
          · exact .inr (.inl rfl)
          · exact .inr (.inr ⟨q1, q2⟩)
      · have : size t = size a + 1 + size b := by simp only [size, i4, List.length_append, List.length_cons]; omega
        rw [size_node]; omega
    · obtain ⟨t, c4, i4, g4, r4⟩ := bound_alone_ok a b A.good B.good A.srt (by omega) (by omega)
      refine ⟨t, fun n σ hn => ?_, g4, by rw [i4]; exact Srt.mk2 A.srt B.srt ha hb, r4, fun x => ?_, ?_⟩
      · simp only [dep] at hn
        obtain ⟨m, rfl, hm⟩ := un (show max (dep l) (dep r) + 64 + 1 ≤ n by omega)
        have hd := g2.dep (by omega)
        rw [cN, without_K]
        simp only [cmp_is, isNone_node, hne, qbE_ok, tr_bool, pkE_ok, bq_false, ei1, ei2, ei3, ei4, c1 m σ (by omega), it3_0, it3_1, it3_2, c2 m σ (by omega), c3 m σ (by omega), hm0, c4 m σ (by omega)]
      · rw [i4, List.mem_append, low, high]
        unfold InOut
        rw [node_mem]
        constructor
        · rintro (⟨q1, q2⟩ | ⟨q1, q2⟩)
          · exact ⟨.inl q1, q2⟩
          · exact ⟨.inr (.inr q1), q2⟩
        · rintro ⟨q1 | rfl | q1, q2⟩
          · exact .inl ⟨q1, q2⟩
          · exact absurd hyk (q2 y₀ hy₀)
          · exact .inr ⟨q1, q2⟩
      · have : size t = size a + size b := by simp only [size, i4, List.length_append]
        rw [size_node]; omega
end Mine.L

/- M13 -/
set_option tactic.hygienic false
/-! Mine: what the law builds: keys, rows, and comprehensions over rows. -/
namespace Mine.L
open PySem Tr
set_option linter.unusedVariables false
set_option maxRecDepth 100000
set_option linter.unusedSimpArgs false
set_option exponentiation.threshold 1100

theorem cp_same {elt : AV → Sto → Out (Option AV)} (fn : AV → Option AV) {xs : List AV} {q : Nat} {σ : Sto} (hq : σ[q]? = some (.list xs)) (h : ∀ v ∈ xs, elt v σ = .ok (fn v) σ) (hz : xs.length < bigN) : cpS elt (.lst q) bigN 0 [] σ = .ok (xs.filterMap fn) σ := by
  obtain ⟨σ', rfl, e⟩ := cp_grow (R := fun a b => b = a) (fun _ => rfl) (fun a b c x y => y.trans x) (elt := elt) fn (src := .lst q) xs bigN 0 [] σ (fun σ' g j => by subst g; show (listOf? _ q).map _ = _; rw [listOf_ok hq]; rfl) (fun v hv σ' g => by
    subst g
    exact ⟨_, rfl, h v hv⟩) (Nat.zero_le _) (by omega) (by simp only [List.length_nil]; omega)
  exact e
theorem row_len {L : List (Int × AV)} (hz : L.length ≤ 8000) : (L.map encP).length < bigN := by rw [List.length_map]; unfold bigN; omega
theorem cp_row {elt : AV → Sto → Out (Option AV)} (f : Int × AV → Option AV) {L : List (Int × AV)} {q : Nat} {σ : Sto} (hq : σ[q]? = some (.list (L.map encP))) (h : ∀ x ∈ L, elt (encP x) σ = .ok (f x) σ) (hz : L.length ≤ 8000) : cpS elt (.lst q) bigN 0 [] σ = .ok (L.filterMap f) σ := by
  rw [cp_same (fun v => (pairOf? v).bind f) hq (fun v hv => by obtain ⟨x, hx, rfl⟩ := List.mem_map.mp hv; exact h x hx) (row_len hz), List.filterMap_map]
  rfl
theorem filter_map (g : Int × AV → AV) (p : Int × AV → Bool) (L : List (Int × AV)) : L.filterMap (fun x => bif p x then some (g x) else Option.none) = (L.filter p).map g := by
  induction L with
  | nil => rfl
  | cons x r ih =>
    rw [List.filterMap_cons, List.filter_cons, ih]
    cases p x <;> rfl
/-- [pair for pair in row if pair[0] op key] -/
theorem filt (op : CmpOp) (key : AV) (p : Int × AV → Bool) {L : List (Int × AV)} {q : Nat} {σ : Sto} (hq : σ[q]? = some (.list (L.map encP))) (hz : L.length ≤ 8000) (h : ∀ x ∈ L, cmpop op (.int x.1) key σ = .ok (.bool (p x)) σ) :
    cpS (fun x σ => @qb _ _ (eE (Option AV)) (item x (.int 0) σ) (.mk fun v σ => @qb _ _ (eE (Option AV)) (cmpop op v key σ) (.mk fun v σ => @qb _ _ (eE (Option AV)) (truthO v σ) (.mk fun b σ => @bq _ b (.mk (.ok (some x) σ)) (.mk (.ok Option.none σ)))))) (.lst q) bigN 0 [] σ = .ok ((L.filter p).map encP) σ := by
  rw [cp_row _ hq (fun x hx => ?_) hz, filter_map]
  rw [qbE_of (it_encP0 _ _), qbE_of (h x hx), qbE_of (tr_bool _ _)]
  cases p x <;> rfl
theorem src_lst {q : Nat} {σ : Sto} {xs : List AV} (h : σ[q]? = some (.list xs)) : srcOf (.ref q) σ = .ok (.lst q) σ := by
  show optR (listOf? σ q) _ = _
  rw [listOf_ok h]; rfl
theorem add_lst {a b : Nat} {σ : Sto} {xs ys : List AV} (ha : σ[a]? = some (.list xs)) (hb : σ[b]? = some (.list ys)) (hz : (xs ++ ys).length ≤ bigN) : binop .Add (.ref a) (.ref b) σ = .ok (.ref σ.length) (σ ++ [.list (xs ++ ys)]) := by
  show lstR σ (.ref a) _ = _
  rw [lstR_ok ha, lstR_ok hb, newL_ok' hz]
theorem tr_lst {q : Nat} {σ : Sto} {xs : List AV} (h : σ[q]? = some (.list xs)) : truthO (.ref q) σ = .ok (!xs.isEmpty) σ := by
  show lstR σ (.ref q) _ = _
  rw [lstR_ok h]
theorem fl_len {L : List (Int × AV)} (p : Int × AV → Bool) (hz : L.length ≤ 8000) : ((L.filter p).map encP).length ≤ bigN := by
  rw [List.length_map]
  exact Nat.le_trans (List.length_filter_le _ _) (Nat.le_trans hz (by unfold bigN; omega))

/-- gives a new list of these pairs -/
noncomputable def Gives (σ : Sto) (L : List (Int × AV)) (o : Out AV) : Prop := ∃ σ' q, Grow σ σ' ∧ (σ.length ≤ q ∧ σ'[q]? = some (.list (L.map encP))) ∧ o = .ok (.ref q) σ'
theorem Gives.new {σ σ' : Sto} {L : List (Int × AV)} {xs : List AV} (g : Grow σ σ') (e : xs = L.map encP) : Gives σ L (.ok (.ref σ'.length) (σ' ++ [.list xs])) := ⟨_, _, g.trans (.app _ _), ⟨g.le, by rw [e]; exact get_new _ _⟩, rfl⟩

/-! plain data compared -/
theorem allP_ok {d : Nat} : ∀ (xs : List AV), (∀ x ∈ xs, ∃ p, (∀ σ, plainD σ d x = some p) ∧ PyData.eqv p p = true) → ∃ ps, (∀ σ, allP (plainD σ d) xs = some ps) ∧ PyData.eqvAll ps ps = true ∧ ps.isEmpty = xs.isEmpty
  | [], _ => ⟨[], fun _ => rfl, by simp [PyData.eqvAll], rfl⟩
  | x :: r, h => by
    obtain ⟨p, h1, h2⟩ := h x (.head _)
    obtain ⟨ps, h3, h4, _⟩ := allP_ok r fun y hy => h y (.tail _ hy)
    refine ⟨p :: ps, fun σ => ?_, by simp only [PyData.eqvAll, h2, h4, Bool.and_true], rfl⟩
    show (plainD σ d x).bind _ = _
    rw [h1, Option.bind_some, h3]; rfl
theorem plain_ok : ∀ {d : Nat} {v : AV}, Plain d v → ∃ p, (∀ σ, plainD σ (d + 1) v = some p) ∧ PyData.eqv p p = true
  | _, _, .none _ => ⟨.none, fun _ => rfl, by simp only [PyData.eqv]⟩
  | _, _, .bool _ b => ⟨.bool b, fun _ => rfl, by simp only [PyData.eqv, beq_self_eq_true]⟩
  | _, _, .int _ b => ⟨.int b, fun _ => rfl, by simp only [PyData.eqv, beq_self_eq_true]⟩
  | _, _, .str _ s hs => ⟨.str s, fun _ => by show (bif PyData.strOk s then _ else _) = _; rw [hs]; rfl, by simp only [PyData.eqv, beq_self_eq_true]⟩
  | _, _, .tup d xs _ hx => by
    obtain ⟨ps, h1, h2, _⟩ := allP_ok xs fun x hm => plain_ok (hx x hm)
    refine ⟨.tuple ps, fun σ => ?_, by simp only [PyData.eqv, h2]⟩
    show (allP (plainD σ (d + 1)) xs).map _ = _
    rw [h1]; rfl
theorem plain_seq {xs : List AV} (h : ∀ x ∈ xs, Plain 14 x) : ∃ ps, (∀ σ a, σ[a]? = some (.list xs) → plainD σ 16 (.ref a) = some (.list ps)) ∧ PyData.eqvAll ps ps = true ∧ ps.isEmpty = xs.isEmpty := by
  obtain ⟨ps, h1, h2, h3⟩ := allP_ok (d := 15) xs fun x hx => plain_ok (h x hx)
  refine ⟨ps, fun σ a ha => ?_, h2, h3⟩
  rw [plain_lst ha, h1]; rfl
theorem eqv_seq {xs : List AV} (h : ∀ x ∈ xs, Plain 14 x) {a b : Nat} {σ : Sto} (ha : σ[a]? = some (.list xs)) (hb : σ[b]? = some (.list xs)) : eqv σ (.ref a) (.ref b) = some true := by
  obtain ⟨ps, h1, h2, _⟩ := plain_seq h
  unfold eqv
  rw [h1 σ a ha, h1 σ b hb]
  show some (PyData.eqv (.list ps) (.list ps)) = _
  simp only [PyData.eqv, h2]
theorem AllPlain.seq {L : List (Int × AV)} (h : AllPlain L) : ∀ x ∈ L.map Mine.L.encP, Plain 14 x := fun x hx => by
  obtain ⟨y, hy, rfl⟩ := List.mem_map.mp hx
  exact h.encP hy
theorem row_nil (L : List (Int × AV)) : (L.map encP).isEmpty = L.isEmpty := by cases L <;> rfl
theorem eqv_nil {L : List (Int × AV)} (h : AllPlain L) {a b : Nat} {σ : Sto} (ha : σ[a]? = some (.list (L.map encP))) (hb : σ[b]? = some (.list [])) : eqv σ (.ref a) (.ref b) = some L.isEmpty := by
  obtain ⟨ps, h1, _, h3⟩ := plain_seq h.seq
  unfold eqv
  rw [h1 σ a ha, plain_lst hb, ← row_nil, ← h3]
  show some (PyData.eqv (.list ps) (.list [])) = _
  cases ps <;> simp [PyData.eqv, PyData.eqvAll]

/-! keys and rows -/
noncomputable def keyV (c : Int) : Int := bif decide (c.fmod 5 = 4) then (c.fdiv 5).fmod (2 * 10 ^ 60 - 3) - (10 ^ 60 - 2) else (c.fdiv 5).fmod 29 - 14
theorem key_ok {n : Nat} (hn : 1 ≤ n) (c : Int) (σ : Sto) : callN PP n "_law_key_by" [.int c] σ = .ok (.int (keyV c)) σ := by
  obtain ⟨m, rfl, hm⟩ := un (show 0 + 1 ≤ n by omega)
  have p60 : ∀ σ, binop .Pow (.int 10) (.int 60) σ = _ := fun σ => b_pow 60 (by decide) (by decide +kernel)
  have sl : ∀ x : Int, -1000000 ≤ x → x ≤ 1000000 → small x = true := fun x h1 h2 => small_lit h1 h2
  rw [cN, law_key_by_K, b_mod c 5 σ (by decide), qbE_ok, cmp_eq, qbE_ok, tr_bool, qbE_ok, pkE_ok, b_fdiv c 5 σ (by decide) (sl _ (by decide) (by decide)), qbE_ok, p60, qbE_ok, qbE_ok,
    b_mul 2 (10 ^ 60) σ (sl _ (by decide) (by decide)) (by decide +kernel), qbE_ok, b_sub, qbE_ok, b_mod _ (2 * 10 ^ 60 - 3) σ (by decide), qbE_ok, p60, qbE_ok, b_sub, qbE_ok, b_sub, qbE_ok, b_mod _ 29 σ (by decide), qbE_ok, b_sub, qbE_ok]
  unfold keyV
  cases decide (c.fmod 5 = 4) <;> rfl
noncomputable def Bit (c : Int) : Prop := Builtin.Int.intBits c ≤ 2 ^ 20
theorem Bit.div {c : Int} (h : Bit c) {k : Int} (hk : 0 < k) : Bit (c.fdiv k) := by
  refine Nat.le_trans (bits_lt (k := Builtin.Int.intBits c) ?_) h
  refine Nat.lt_of_le_of_lt ?_ (lt_bits c)
  rw [Int.fdiv_eq_ediv_of_nonneg _ (by omega)]
  exact Int.natAbs_ediv_le_natAbs c k
theorem thing_at {c : Int} (h : Bit c) {n : Nat} (hn : 5 ≤ n) (σ : Sto) : ∃ σ', Grow σ σ' ∧ callN PP n "_law_thing" [.int c] σ = .ok (thingV c) σ' := (thingV_ok c (Nat.le_trans h (by omega))).2 n σ hn
theorem row_ok (c : Int) (hc : Bit c) : ∃ L : List (Int × AV), L.length ≤ 59 ∧ AllPlain L ∧ Srt L ∧ ∀ n σ, 7 ≤ n → Gives σ L (callN PP n "_law_row_of" [.int c] σ) := by
  have sl : ∀ x : Int, -1000000 ≤ x → x ≤ 1000000 → small x = true := fun x h1 h2 => small_lit h1 h2
  have a0 := fmod_lo c (b := 9) (by decide)
  have a1 := fmod_hi c (b := 9) (by decide)
  have b0 := fmod_lo (c.fdiv 54) (b := 60) (by decide)
  have b1 := fmod_hi (c.fdiv 54) (b := 60) (by decide)
  have go : ∀ N : Int, 0 ≤ N → N ≤ 59 → (∀ m σ, callN PP (m + 1) "_law_row_of" [.int c] σ = @qk _ _ (eE AV) (callN PP m "_law_rising" [.int (c.fdiv 9), .int N] σ) (.mk fun v σ => .ok v σ)) → ∃ L : List (Int × AV), L.length ≤ 59 ∧ AllPlain L ∧ Srt L ∧ ∀ n σ, 7 ≤ n → Gives σ L (callN PP n "_law_row_of" [.int c] σ) := fun N h0 h1 e => by
    obtain ⟨L, l1, l2, l3, l4⟩ := rising_ok (c.fdiv 9) (hc.div (by decide)) N.toNat (by omega)
    refine ⟨L, by omega, l2, l3, fun n σ hn => ?_⟩
    obtain ⟨m, rfl, hm⟩ := un (show 6 + 1 ≤ n by omega)
    obtain ⟨σ', g, e'⟩ := l4 m σ hm
    rw [show ((N.toNat : Nat) : Int) = N by omega] at e'
    rw [e, e', pkE_ok]
    exact .new g rfl
  have st : ∀ m σ, callN PP (m + 1) "_law_row_of" [.int c] σ = _ := fun m σ => by
    rw [cN, law_row_of_K, b_mod c 9 σ (by decide), qbE_ok, b_fdiv c 9 σ (by decide) (sl _ (by decide) (by decide)), qbE_ok, b_mod _ 6 σ (by decide), qbE_ok, cmp_eq, qbE_ok, tr_bool, qbE_ok, pkE_ok, b_fdiv c 54 σ (by decide) (sl _ (by decide) (by decide)), qbE_ok, b_mod _ 60 σ (by decide), qbE_ok]
  cases hd : decide ((c.fdiv 9).fmod 6 = 5) with
  | true => exact go ((c.fdiv 54).fmod 60) b0 (by omega) fun m σ => by rw [st, hd, bq_true, b_fdiv c 9 σ (by decide) (sl _ (by decide) (by decide)), qbE_ok]
  | false => exact go (c.fmod 9) a0 (by omega) fun m σ => by rw [st, hd, bq_false, b_fdiv c 9 σ (by decide) (sl _ (by decide) (by decide)), qbE_ok]

theorem paired_ok (c : Int) (hc : Bit c) {L : List (Int × AV)} (hz : L.length ≤ 8000) {n q : Nat} {σ : Sto} (hn : 7 ≤ n) (hq : σ[q]? = some (.list (L.map encP))) :
    Gives σ (L.filter (fun x => decide (x.1 < keyV c)) ++ (keyV c, thingV (c.fdiv 3)) :: L.filter (fun x => decide (keyV c < x.1))) (callN PP n "_law_paired" [.ref q, .int c] σ) := by
  obtain ⟨m, rfl, hm⟩ := un (show 6 + 1 ≤ n by omega)
  obtain ⟨σ₁, g₁, e₁⟩ := thing_at (hc.div (k := 3) (by decide)) (n := m) (by omega) σ
  have hq₁ := g₁.get hq
  have l1 := fl_len (fun x : Int × AV => decide (x.1 < keyV c)) hz
  have l2 := fl_len (fun x : Int × AV => decide (keyV c < x.1)) hz
  have k1 := List.length_filter_le (fun x : Int × AV => decide (x.1 < keyV c)) L
  have k2 := List.length_filter_le (fun x : Int × AV => decide (keyV c < x.1)) L
  have bb : 8000 + 1 + 8000 ≤ bigN := by unfold bigN; omega
  rw [cN, law_paired_K, qkE_of (key_ok (by omega) _ _), qbE_of (b_fdiv c 3 σ (by decide) (small_lit (by decide) (by decide))), qkE_of (e₁), qbE_of (src_lst hq₁), qbE_of (filt .Lt _ (fun x => decide (x.1 < keyV c)) hq₁ hz fun _ _ => rfl), qbE_of (newL_ok' l1 _), qbE_of (newL_ok' (by simp [bigN]) _),
    qbE_of (add_lst (Grow.get (.app _ _) (get_new _ _)) (get_new _ _) (by simp only [List.length_append, List.length_map, List.length_cons, List.length_nil]; omega))]
  have hq₂ := Grow.get ((Grow.app _ _).trans ((Grow.app _ _).trans (Grow.app (σ₁ ++ [.list ((L.filter (fun x => decide (x.1 < keyV c))).map encP)] ++ [.list [.tup [.int (keyV c), thingV (c.fdiv 3)]]]) [.list ((L.filter (fun x => decide (x.1 < keyV c))).map encP ++ [.tup [.int (keyV c), thingV (c.fdiv 3)]])]))) hq₁
  rw [qbE_of (src_lst hq₂), qbE_of (filt .Gt _ (fun x => decide (keyV c < x.1)) hq₂ hz fun _ _ => rfl), qbE_of (newL_ok' l2 _),
    qbE_of (add_lst (Grow.get (.app _ _) (get_new _ _)) (get_new _ _) (by simp only [List.length_append, List.length_map, List.length_cons, List.length_nil]; omega))]
  refine .new (g₁.trans ((Grow.app _ _).trans ((Grow.app _ _).trans ((Grow.app _ _).trans (.app _ _))))) ?_
  rw [List.map_append, List.map_cons, List.append_assoc, List.singleton_append]; rfl
end Mine.L

/- M14 -/
set_option tactic.hygienic false
/-! Mine: what the law builds: a row out of two. -/
namespace Mine.L
open PySem Tr
set_option linter.unusedVariables false
set_option maxRecDepth 100000
set_option linter.unusedSimpArgs false
set_option exponentiation.threshold 1100

/-! dicts -/
theorem get_put (k j : Int) (v : AV) : ∀ es, dictGet k (dictPutL j v es) = bif j == k then some v else dictGet k es
  | [] => rfl
  | (i, w) :: r => by
    show dictGet k (bif i == j then (i, v) :: r else (i, w) :: dictPutL j v r) = bif j == k then some v else bif i == k then some w else dictGet k r
    cases h : i == j with
    | true =>
      rw [beq_iff_eq.mp h]
      show (bif j == k then some v else dictGet k r) = _
      cases j == k <;> rfl
    | false =>
      show (bif i == k then some w else dictGet k (dictPutL j v r)) = _
      rw [get_put k j v r]
      cases h1 : i == k with
      | false => rfl
      | true =>
        rw [beq_iff_eq.mp h1] at h
        rw [beq_eq_false_iff_ne.mpr fun q => (by rw [q, beq_self_eq_true] at h; cases h)]; rfl
theorem put_len (j : Int) (v : AV) : ∀ es, (dictPutL j v es).length ≤ es.length + 1
  | [] => Nat.le_refl _
  | (i, w) :: r => by
    show (bif i == j then (i, v) :: r else (i, w) :: dictPutL j v r).length ≤ _
    have := put_len j v r
    cases i == j
    · show (dictPutL j v r).length + 1 ≤ r.length + 1 + 1; omega
    · show r.length + 1 ≤ r.length + 1 + 1; omega
noncomputable abbrev putAll (ps d : List (Int × AV)) : List (Int × AV) := ps.foldl (fun d p => dictPutL p.1 p.2 d) d
theorem fold_out {k : Int} : ∀ (L d : List (Int × AV)), (∀ x ∈ L, x.1 ≠ k) → dictGet k (putAll L d) = dictGet k d
  | [], _, _ => rfl
  | x :: r, d, h => by
    show dictGet k (putAll r _) = _
    rw [fold_out r _ fun y hy => h y (.tail _ hy), get_put, beq_eq_false_iff_ne.mpr (h x (.head _))]; rfl
theorem fold_in : ∀ {L : List (Int × AV)} (d : List (Int × AV)), Srt L → ∀ x ∈ L, dictGet x.1 (putAll L d) = some x.2
  | y :: r, d, hs, x, hx => by
    have hs := List.pairwise_cons.mp hs
    show dictGet x.1 (putAll r _) = _
    rcases List.mem_cons.mp hx with rfl | hx
    · rw [fold_out r _ fun z hz => by have := hs.1 z hz; omega, get_put, beq_self_eq_true]; rfl
    · exact fold_in _ hs.2 x hx
theorem dic_ok {d : Nat} {σ : Sto} {es : List (Int × AV)} (h : σ[d]? = some (.dict es)) : dictOf? σ d = some es := by unfold dictOf?; rw [h]
theorem in_ok {d : Nat} {σ : Sto} {es : List (Int × AV)} (h : σ[d]? = some (.dict es)) (k : Int) : cmpop .In (.int k) (.ref d) σ = .ok (.bool (dictGet k es).isSome) σ := by
  show optR (dictOf? σ d) _ = _
  rw [dic_ok h]; rfl
theorem nin_ok {d : Nat} {σ : Sto} {es : List (Int × AV)} (h : σ[d]? = some (.dict es)) (k : Int) : cmpop .NotIn (.int k) (.ref d) σ = .ok (.bool (!(dictGet k es).isSome)) σ := by
  show optR (dictOf? σ d) _ = _
  rw [dic_ok h]; rfl
theorem set_dic {d : Nat} {σ : Sto} {es : List (Int × AV)} (h : σ[d]? = some (.dict es)) (hz : es.length ≤ bigN) (k : Int) (v : AV) : setItem (.ref d) (.int k) v σ = .ok () (σ.set d (.dict (dictPutL k v es))) := by
  show optR (σ[d]?) _ = _
  rw [h]
  show (bif Nat.ble es.length bigN then _ else _) = _
  rw [Nat.ble_eq_true_of_le hz]; rfl
theorem item_dic {d : Nat} {σ : Sto} {es : List (Int × AV)} {k : Int} {v : AV} (h : σ[d]? = some (.dict es)) (e : dictGet k es = some v) : item (.ref d) (.int k) σ = .ok v σ := by
  show optR (σ[d]?) _ = _
  rw [h]
  show optA (dictGet k es) σ = _
  rw [e]; rfl
theorem sort_ok {q : Nat} {σ : Sto} {is : List Int} (h : σ[q]? = some (.list (is.map .int))) (h2 : two is = true) (hz : is.length ≤ bigN) : sortA [.ref q] σ = .ok (.ref σ.length) (σ ++ [.list ((is.mergeSort fun a b => decide (a ≤ b)).map .int)]) := by
  have hm : ∀ is : List Int, mapO intOf? (is.map .int) = some is := fun is => by
    induction is with
    | nil => rfl
    | cons i r ih => show (some i).bind _ = _; rw [Option.bind_some, ih]; rfl
  show lstR σ (.ref q) _ = _
  rw [lstR_ok h]
  show optR (mapO intOf? (is.map .int)) _ = _
  rw [hm]
  show (bif two is then _ else _) = _
  rw [h2, cond_true, newL_ok']
  rw [List.length_map, List.length_mergeSort]; exact hz
theorem dict_ok {q : Nat} {σ : Sto} {L : List (Int × AV)} (h : σ[q]? = some (.list (L.map encP))) (hz : L.length ≤ bigN) : dictA [.ref q] σ = .ok (.ref σ.length) (σ ++ [.dict (putAll L [])]) := by
  have hm : ∀ L : List (Int × AV), mapO pairOf? (L.map encP) = some L := fun is => by
    induction is with
    | nil => rfl
    | cons i r ih => show (some i).bind _ = _; rw [Option.bind_some, ih]; rfl
  show lstR σ (.ref q) _ = _
  rw [lstR_ok h]
  show optR (mapO pairOf? (L.map encP)) _ = _
  rw [hm]
  show (bif Nat.ble L.length bigN then _ else _) = _
  rw [Nat.ble_eq_true_of_le hz]; rfl
theorem skn (l : Loc) (σ : Sto) (k : Loc → Sto → Out AV) : sk ktO (.ok .next l σ) k = k l σ := rfl

/-- for pair in row: dict[pair[0]] = True -/
theorem dict_for {body : AV → Loc → Sto → OutS} {P : Loc → Prop} {d q : Nat} {L : List (Int × AV)} (hne : q ≠ d) (hz : L.length ≤ 8000)
    (hb : ∀ x l σ es, P l → σ[d]? = some (.dict es) → es.length ≤ bigN → ∃ l', P l' ∧ body (encP x) l σ = .ok .next l' (σ.set d (.dict (dictPutL x.1 (.bool true) es)))) :
    ∀ (f i : Nat) (l : Loc) (σ : Sto) (es : List (Int × AV)), σ[q]? = some (.list (L.map encP)) → σ[d]? = some (.dict es) → es.length ≤ i → i ≤ L.length → L.length < f + i → P l → (∀ k, (dictGet k es).isSome = (L.take i).any fun x => x.1 == k) →
    ∃ l' es', P l' ∧ (∀ k, (dictGet k es').isSome = L.any fun x => x.1 == k) ∧ forS body (.lst q) f i l σ = .ok .next l' (σ.set d (.dict es'))
  | 0, i, l, σ, es, _, _, _, h1, h2, _, _ => by omega
  | f + 1, i, l, σ, es, hq, hd, hl, h1, h2, hp, hk => by
    by_cases hi : i < L.length
    · obtain ⟨l', p', e⟩ := hb L[i] l σ es hp hd (by unfold bigN; omega)
      have hq' : (σ.set d (.dict (dictPutL L[i].1 (.bool true) es)))[q]? = some (.list (L.map encP)) := by rw [List.getElem?_set_ne (fun z => hne z.symm)]; exact hq
      obtain ⟨l'', es', p'', k'', e''⟩ := dict_for hne hz hb f (i + 1) l' _ _ hq' (get_set hd) (Nat.le_trans (put_len _ _ _) (by omega)) hi (by omega) p' fun k => by
        rw [get_put, ← List.take_append_getElem hi, List.any_append, ← hk k]
        show _ = (_ || (L[i].1 == k || false))
        cases L[i].1 == k
        · rw [Bool.or_false, Bool.or_false]; rfl
        · rw [Bool.true_or, Bool.or_true]; rfl
      refine ⟨l'', es', p'', k'', ?_⟩
      rw [forS_turn (v := encP L[i]) (by show (listOf? σ q).map _ = _; rw [listOf_ok hq, Option.map_some, List.getElem?_map, List.getElem?_eq_getElem hi]; rfl), e]
      show forS body (.lst q) f (i + 1) l' _ = _
      rw [e'', List.set_set]
    · refine ⟨l, es, hp, fun k => ?_, ?_⟩
      · rw [hk, List.take_of_length_le (by omega)]
      · rw [forS_end (by show (listOf? σ q).map _ = _; rw [listOf_ok hq, Option.map_some, List.getElem?_eq_none (by rw [List.length_map]; omega)]), set_self hd]

noncomputable def w4 (k a b h : AV) : Loc := [("_law_kind", k), ("_law_one", a), ("_law_other", b), ("_law_have", h)]
noncomputable def w4p (k a b h x : AV) : Loc := [("_law_kind", k), ("_law_one", a), ("_law_other", b), ("_law_have", h), ("_law_pair", x)]
noncomputable def W4 (k a b h : AV) (l : Loc) : Prop := l = w4 k a b h ∨ ∃ x, l = w4p k a b h x
noncomputable def w5 (t : AV) : Loc := [("_law_theirs", t)]
noncomputable def w5p (t x : AV) : Loc := [("_law_theirs", t), ("_law_pair", x)]
noncomputable def W5p (k a b h t x : AV) (l : Loc) : Prop := l = w4p k a b h x ++ w5 t ∨ l = w4 k a b h ++ w5p t x
noncomputable def W5 (k a b h t : AV) (l : Loc) : Prop := l = w4 k a b h ++ w5 t ∨ ∃ x, W5p k a b h t x l

theorem two_K (cf : Calls) (k a b : AV) (σ : Sto) : callBody PP cf "_law_two" [k, a, b] σ =
    @qb _ _ (eE AV) (srcOf a (σ ++ [.dict []])) (.mk fun s σ' => sk ktO (forS (fun v l σ => restS "_law_two" [1, 0] cf (setL "_law_pair" v l) σ) s bigN 0 (w4 k a b (.ref σ.length)) σ') fun l σ => restK "_law_two" [2] cf l σ) := by
  kernel_rfl
theorem two_B (cf : Calls) (k a b h x : AV) (σ : Sto) : restS "_law_two" [1, 0] cf (w4p k a b h x) σ =
    @qb _ _ (ktS.e (w4p k a b h x)) (item x (.int 0) σ) (.mk fun v σ => @qb _ _ (ktS.e (w4p k a b h x)) (setItem h v (.bool true) σ) (.mk fun _ σ => .ok .next (w4p k a b h x) σ)) := by
  kernel_rfl
theorem two_R2 (cf : Calls) {k a b h : AV} {l : Loc} (hl : W4 k a b h l) (σ : Sto) : restK "_law_two" [2] cf l σ =
    @qb _ _ (eE AV) (srcOf b (σ ++ [.dict []])) (.mk fun s σ' => sk ktO (forS (fun v l σ => restS "_law_two" [3, 0] cf (setL "_law_pair" v l) σ) s bigN 0 (l ++ w5 (.ref σ.length)) σ') fun l σ => restK "_law_two" [4] cf l σ) := by
  rcases hl with rfl | ⟨x, rfl⟩ <;> kernel_rfl
theorem two_B3 (cf : Calls) {k a b h t x : AV} {l : Loc} (hl : W5p k a b h t x l) (σ : Sto) : restS "_law_two" [3, 0] cf l σ =
    @qb _ _ (ktS.e l) (item x (.int 0) σ) (.mk fun v σ => @qb _ _ (ktS.e l) (setItem t v (.bool true) σ) (.mk fun _ σ => .ok .next l σ)) := by
  rcases hl with rfl | rfl <;> kernel_rfl
theorem two_R4 (cf : Calls) {k a b h th : AV} {l : Loc} (hl : W5 k a b h th l) (σ : Sto) : restK "_law_two" [4] cf l σ =
 (@qk _ _ (eE AV) (@qb _ _ (eE Bool) (cmpop .Eq k (.int 10) σ) (.mk fun v1001 σ1002 =>
 @qb _ _ (eE Bool) (truthO v1001 σ1002) (.mk fun b1003 σ1004 =>
 .ok b1003 σ1004))) (.mk fun c1005 σ1006 =>
 @bq _ c1005 (.mk (@qb _ _ (eE AV) (srcOf a σ1006) (.mk fun s1007 σ1008 =>
 @qb _ _ (eE AV) (cpS (fun x1009 σ1010 =>
 @qb _ _ (eE (Option AV)) (item x1009 (.int 0) σ1010) (.mk fun v1111 σ1112 =>
 @qb _ _ (eE (Option AV)) (cmpop .In v1111 th σ1112) (.mk fun v1113 σ1114 =>
 @qb _ _ (eE (Option AV)) (truthO v1113 σ1114) (.mk fun b1115 σ1116 =>
 @bq _ b1115 (.mk (.ok (some x1009) σ1116)) (.mk (.ok Option.none σ1116)))))) s1007 bigN 0 [] σ1008) (.mk fun xs1117 σ1118 =>
 @qb _ _ (eE AV) (newL xs1117 σ1118) (.mk fun v1119 σ1120 =>
 .ok v1119 σ1120))))) (.mk (@qk _ _ (eE AV) (@qb _ _ (eE Bool) (cmpop .Eq k (.int 11) σ1006) (.mk fun v2121 σ2122 =>
 @qb _ _ (eE Bool) (truthO v2121 σ2122) (.mk fun b2123 σ2124 =>
 .ok b2123 σ2124))) (.mk fun c2125 σ2126 =>
 @bq _ c2125 (.mk (@qb _ _ (eE AV) (srcOf a σ2126) (.mk fun s2127 σ2128 =>
 @qb _ _ (eE AV) (cpS (fun x2129 σ2130 =>
 @qb _ _ (eE (Option AV)) (item x2129 (.int 0) σ2130) (.mk fun v2231 σ2232 =>
 @qb _ _ (eE (Option AV)) (cmpop .NotIn v2231 th σ2232) (.mk fun v2233 σ2234 =>
 @qb _ _ (eE (Option AV)) (truthO v2233 σ2234) (.mk fun b2235 σ2236 =>
 @bq _ b2235 (.mk (.ok (some x2129) σ2236)) (.mk (.ok Option.none σ2236)))))) s2127 bigN 0 [] σ2128) (.mk fun xs2237 σ2238 =>
 @qb _ _ (eE AV) (newL xs2237 σ2238) (.mk fun v2239 σ2240 =>
 .ok v2239 σ2240))))) (.mk (@qb _ _ (eE AV) (srcOf a σ2126) (.mk fun s2241 σ2242 =>
 @qb _ _ (eE AV) (cpS (fun x2243 σ2244 =>
 @qb _ _ (eE (Option AV)) (item x2243 (.int 0) σ2244) (.mk fun v2345 σ2346 =>
 .ok (some v2345) σ2346)) s2241 bigN 0 [] σ2242) (.mk fun xs2347 σ2348 =>
 @qb _ _ (eE AV) (newL xs2347 σ2348) (.mk fun v2349 σ2350 =>
 @qb _ _ (eE AV) (srcOf b σ2350) (.mk fun s2351 σ2352 =>
 @qb _ _ (eE AV) (cpS (fun x2353 σ2354 =>
 @qb _ _ (eE (Option AV)) (item x2353 (.int 0) σ2354) (.mk fun v2455 σ2456 =>
 @qb _ _ (eE (Option AV)) (cmpop .NotIn v2455 h σ2456) (.mk fun v2457 σ2458 =>
 @qb _ _ (eE (Option AV)) (truthO v2457 σ2458) (.mk fun b2459 σ2460 =>
 @bq _ b2459 (.mk (@qb _ _ (eE (Option AV)) (item x2353 (.int 0) σ2460) (.mk fun v2461 σ2462 =>
 .ok (some v2461) σ2462))) (.mk (.ok Option.none σ2460)))))) s2351 bigN 0 [] σ2352) (.mk fun xs2463 σ2464 =>
 @qb _ _ (eE AV) (newL xs2463 σ2464) (.mk fun v2465 σ2466 =>
 @qb _ _ (eE AV) (binop .Add v2349 v2465 σ2466) (.mk fun v2467 σ2468 =>
 @qb _ _ (eE AV) (sortA [v2467] σ2468) (.mk fun v2469 σ2470 =>
 @qb _ _ (eE AV) (binop .Add b a σ2470) (.mk fun v2471 σ2472 =>
 @qb _ _ (eE AV) (dictA [v2471] σ2472) (.mk fun v2473 σ2474 =>
 @qb _ _ (eE AV) (srcOf v2469 σ2474) (.mk fun s2475 σ2476 =>
 @qb _ _ (eE AV) (cpS (fun x2477 σ2478 =>
 @qb _ _ (eE (Option AV)) (item v2473 x2477 σ2478) (.mk fun v2579 σ2580 =>
 .ok (some (.tup [x2477, v2579])) σ2580)) s2475 bigN 0 [] σ2476) (.mk fun xs2581 σ2582 =>
 @qb _ _ (eE AV) (newL xs2581 σ2582) (.mk fun v2583 σ2584 =>
 .ok v2583 σ2584))))))))))))))))))) : Out AV) := by
  rcases hl with rfl | ⟨x, rfl | rfl⟩ <;> kernel_rfl

/-- which pairs a kind keeps -/
noncomputable def Kd (κ : Int) (R : List (Int × AV) → List (Int × AV) → Int × AV → Prop) : Prop := (κ = 10 ∧ R = InCom) ∨ (κ = 11 ∧ R = InOut) ∨ (κ = 12 ∧ R = InUni)
theorem any_key {M : List (Int × AV)} {k : Int} : (M.any fun y => y.1 == k) = true ↔ ∃ y ∈ M, y.1 = k := by
  rw [List.any_eq_true]
  exact ⟨fun ⟨y, h, e⟩ => ⟨y, h, beq_iff_eq.mp e⟩, fun ⟨y, h, e⟩ => ⟨y, h, beq_iff_eq.mpr e⟩⟩
theorem any_nkey {M : List (Int × AV)} {k : Int} : (!M.any fun y => y.1 == k) = true ↔ ∀ y ∈ M, y.1 ≠ k := by
  rw [Bool.not_eq_true', Bool.eq_false_iff, Ne, any_key]
  exact ⟨fun h y hy e => h ⟨y, hy, e⟩, fun h ⟨y, hy, e⟩ => h y hy e⟩
end Mine.L

/- M15 -/
set_option tactic.hygienic false
/-! Mine: what the law builds: a row out of two, joined. -/
namespace Mine.L
open PySem Tr
set_option linter.unusedVariables false
set_option maxRecDepth 100000
set_option linter.unusedSimpArgs false
set_option exponentiation.threshold 1100

theorem set_last (σ : Sto) (o o' : AO) : (σ ++ [o]).set σ.length o' = σ ++ [o'] := by
  rw [List.set_append_right _ _ (Nat.le_refl _), Nat.sub_self]; rfl
theorem qbS {α : Type} (l : Loc) (a : α) (σ : Sto) (f : α → Sto → OutS) : @qb _ _ (ktS.e l) (.ok a σ) (.mk f) = f a σ := rfl
/-- both dicts -/
theorem two_start {κ : AV} {L M : List (Int × AV)} (zL : L.length ≤ 8000) (zM : M.length ≤ 8000) {cf : Calls} {a b : Nat} {σ : Sto} (ha : σ[a]? = some (.list (L.map encP))) (hb : σ[b]? = some (.list (M.map encP))) :
    ∃ e1 e2 l, W5 κ (.ref a) (.ref b) (.ref σ.length) (.ref (σ.length + 1)) l ∧ (∀ k, (dictGet k e1).isSome = L.any fun x => x.1 == k) ∧ (∀ k, (dictGet k e2).isSome = M.any fun x => x.1 == k) ∧
      callBody PP cf "_law_two" [κ, .ref a, .ref b] σ = restK "_law_two" [4] cf l (σ ++ [.dict e1] ++ [.dict e2]) := by
  have la : a < σ.length := (List.getElem?_eq_some_iff.mp ha).1
  have lb : b < σ.length := (List.getElem?_eq_some_iff.mp hb).1
  have ha' := Grow.get (.app σ [.dict []]) ha
  obtain ⟨l1, e1, p1, k1, f1⟩ := dict_for (body := fun v l σ => restS "_law_two" [1, 0] cf (setL "_law_pair" v l) σ) (P := W4 κ (.ref a) (.ref b) (.ref σ.length)) (d := σ.length) (q := a) (L := L) (by omega) zL (fun x l τ es hp hd hz => by
    refine ⟨w4p κ (.ref a) (.ref b) (.ref σ.length) (encP x), .inr ⟨_, rfl⟩, ?_⟩
    have hset : setL "_law_pair" (encP x) l = w4p κ (.ref a) (.ref b) (.ref σ.length) (encP x) := by rcases hp with rfl | ⟨y, rfl⟩ <;> rfl
    show restS _ _ _ (setL _ _ _) _ = _
    rw [hset, two_B, qbS_of (it_encP0 _ _), qbS_of (set_dic hd hz _ _)]) bigN 0 (w4 κ (.ref a) (.ref b) (.ref σ.length)) (σ ++ [.dict []]) [] ha' (get_new _ _) (Nat.le_refl _) (Nat.zero_le _) (by unfold bigN; omega) (.inl rfl) fun k => rfl
  rw [two_K, qbE_of (src_lst ha'), f1, skn, two_R2 cf p1, set_last]
  have hb' := Grow.get (.app (σ ++ [.dict e1]) [.dict []]) (Grow.get (.app _ [.dict e1]) hb)
  have hlen : (σ ++ [AO.dict e1]).length = σ.length + 1 := by simp
  have hd' := get_new (σ ++ [.dict e1]) (.dict [])
  rw [qbE_of (src_lst hb')]
  rw [hlen] at hd' ⊢
  obtain ⟨l2, e2, p2, k2, f2⟩ := dict_for (body := fun v l σ => restS "_law_two" [3, 0] cf (setL "_law_pair" v l) σ) (P := W5 κ (.ref a) (.ref b) (.ref σ.length) (.ref (σ.length + 1))) (d := σ.length + 1) (q := b) (L := M) (by omega) zM (fun x l τ es hp hd hz => by
    have hset : W5p κ (.ref a) (.ref b) (.ref σ.length) (.ref (σ.length + 1)) (encP x) (setL "_law_pair" (encP x) l) := by
      rcases hp with rfl | ⟨y, rfl | rfl⟩
      · exact .inr rfl
      · exact .inl rfl
      · exact .inr rfl
    refine ⟨setL "_law_pair" (encP x) l, .inr ⟨_, hset⟩, ?_⟩
    show restS _ _ _ (setL _ _ _) _ = _
    rw [two_B3 cf hset, qbS_of (it_encP0 _ _), qbS_of (set_dic hd hz _ _)]) bigN 0 (l1 ++ w5 (.ref (σ.length + 1))) (σ ++ [.dict e1] ++ [.dict []]) [] hb' hd' (Nat.le_refl _) (Nat.zero_le _) (by unfold bigN; omega) (by
      rcases p1 with rfl | ⟨x, rfl⟩
      · exact .inl rfl
      · exact .inr ⟨x, .inl rfl⟩) fun k => rfl
  refine ⟨e1, e2, l2, p2, k1, k2, ?_⟩
  have := set_last (σ ++ [.dict e1]) (.dict []) (.dict e2)
  rw [hlen] at this
  rw [f2, skn, this]

theorem srt_nodup {L : List (Int × AV)} (h : Srt L) : (L.map (·.1)).Pairwise (· < ·) := List.pairwise_map.mpr h
theorem lt_nodup {l : List Int} (h : l.Pairwise (· < ·)) : l.Nodup := h.imp fun q e => by omega

/-- the united row -/
theorem uni_row {L M : List (Int × AV)} (sL : Srt L) (sM : Srt M) : ∃ (ks : List Int) (th : Int → AV), two (L.map (·.1) ++ (M.filter fun x => !L.any fun y => y.1 == x.1).map (·.1)) = true ∧
    ((L.map (·.1) ++ (M.filter fun x => !L.any fun y => y.1 == x.1).map (·.1)).mergeSort fun a b => decide (a ≤ b)) = ks ∧ (∀ k ∈ ks, dictGet k (putAll (M ++ L) []) = some (th k)) ∧ Srt (ks.map fun k => (k, th k)) ∧ ∀ x, x ∈ ks.map (fun k => (k, th k)) ↔ InUni L M x := by
  generalize hK : (M.filter fun x => !L.any fun y => y.1 == x.1) = M'
  have hM' : ∀ x, x ∈ M' ↔ x ∈ M ∧ ∀ y ∈ L, y.1 ≠ x.1 := fun x => by rw [← hK, List.mem_filter, any_nkey]
  have sM' : Srt M' := hK ▸ sM.filter _
  have p1 := srt_nodup sL
  have p2 := srt_nodup sM'
  have hperm := List.mergeSort_perm (L.map (·.1) ++ M'.map (·.1)) (fun a b => decide (a ≤ b))
  have hle := List.pairwise_mergeSort (le := fun a b : Int => decide (a ≤ b)) (by simp only [decide_eq_true_eq]; intro a b c; omega) (by simp only [Bool.or_eq_true, decide_eq_true_eq]; intro a b; omega) (L.map (·.1) ++ M'.map (·.1))
  generalize hks : ((L.map (·.1) ++ M'.map (·.1)).mergeSort fun a b => decide (a ≤ b)) = ks at *
  have hnd : ks.Nodup := hperm.nodup_iff.mpr (List.nodup_append.mpr ⟨lt_nodup p1, lt_nodup p2, fun a ha b hb e => by
    obtain ⟨x, hx, rfl⟩ := List.mem_map.mp ha
    obtain ⟨y, hy, rfl⟩ := List.mem_map.mp hb
    exact ((hM' y).mp hy).2 x hx e⟩)
  have hlt : ks.Pairwise (· < ·) := (hle.and hnd).imp fun q => by
    have := decide_eq_true_iff.mp q.1
    have := q.2
    omega
  have hmem : ∀ k, k ∈ ks ↔ (∃ x ∈ L, x.1 = k) ∨ ∃ x ∈ M', x.1 = k := fun k => by rw [hperm.mem_iff, List.mem_append, List.mem_map, List.mem_map]
  have hD : putAll (M ++ L) [] = putAll L (putAll M []) := List.foldl_append
  have gL : ∀ x ∈ L, dictGet x.1 (putAll (M ++ L) []) = some x.2 := fun x hx => by rw [hD]; exact fold_in _ sL x hx
  have gM : ∀ x ∈ M', dictGet x.1 (putAll (M ++ L) []) = some x.2 := fun x hx => by
    rw [hD, fold_out _ _ ((hM' x).mp hx).2]; exact fold_in _ sM x ((hM' x).mp hx).1
  obtain ⟨th, t1, t2⟩ : ∃ th : Int → AV, (∀ x ∈ L, th x.1 = x.2) ∧ ∀ x ∈ M', th x.1 = x.2 := ⟨fun k => (dictGet k (putAll (M ++ L) [])).getD .none, fun x hx => (congrArg (·.getD .none) (gL x hx)).trans rfl, fun x hx => (congrArg (·.getD .none) (gM x hx)).trans rfl⟩
  refine ⟨ks, th, ?_, rfl, fun k hk => ?_, List.pairwise_map.mpr hlt, fun x => ?_⟩
  · unfold two
    refine List.any_eq_true.mpr ⟨(L.map (·.1)).length, List.mem_range.mpr (by rw [List.length_append]; omega), ?_⟩
    rw [List.take_left, List.drop_left, decide_eq_true p1, decide_eq_true p2]; rfl
  · rcases (hmem k).mp hk with ⟨x, hx, rfl⟩ | ⟨x, hx, rfl⟩
    · rw [gL x hx, t1 x hx]
    · rw [gM x hx, t2 x hx]
  · rw [List.mem_map]
    constructor
    · rintro ⟨k, hk, rfl⟩
      rcases (hmem k).mp hk with ⟨y, hy, rfl⟩ | ⟨y, hy, rfl⟩
      · rw [t1 y hy]; exact .inl hy
      · rw [t2 y hy]; exact .inr ((hM' y).mp hy)
    · rintro (hx | hx)
      · exact ⟨x.1, (hmem _).mpr (.inl ⟨x, hx, rfl⟩), by rw [t1 x hx]⟩
      · exact ⟨x.1, (hmem _).mpr (.inr ⟨x, (hM' x).mpr hx, rfl⟩), by rw [t2 x ((hM' x).mpr hx)]⟩

theorem two_ok {κ : Int} {R : List (Int × AV) → List (Int × AV) → Int × AV → Prop} (hκ : Kd κ R) {L M : List (Int × AV)} (sL : Srt L) (sM : Srt M) (zz : L.length + M.length ≤ 8000) {n a b : Nat} {σ : Sto} (hn : 1 ≤ n) (ha : σ[a]? = some (.list (L.map encP))) (hb : σ[b]? = some (.list (M.map encP))) :
    ∃ N, Srt N ∧ (∀ x, x ∈ N ↔ R L M x) ∧ Gives σ N (callN PP n "_law_two" [.int κ, .ref a, .ref b] σ) := by
  obtain ⟨m, rfl, hm⟩ := un (show 0 + 1 ≤ n by omega)
  have zL : L.length ≤ 8000 := by omega
  have zM : M.length ≤ 8000 := by omega
  obtain ⟨e1, e2, l, hl, k1, k2, hs⟩ := two_start (κ := .int κ) (cf := callN PP m) zL zM ha hb
  have hd1 := Grow.get (.app (σ ++ [.dict e1]) [.dict e2]) (get_new σ (.dict e1))
  have hd2 := get_new (σ ++ [.dict e1]) (.dict e2)
  rw [show (σ ++ [AO.dict e1]).length = σ.length + 1 by simp] at hd2
  have g2 : Grow σ (σ ++ [.dict e1] ++ [.dict e2]) := (Grow.app _ _).trans (.app _ _)
  have ha2 := g2.get ha
  have hb2 := g2.get hb
  rw [cN, hs, two_R4 _ hl]
  generalize σ ++ [.dict e1] ++ [.dict e2] = τ at *
  rcases hκ with ⟨rfl, rfl⟩ | ⟨rfl, rfl⟩ | ⟨rfl, rfl⟩
  · refine ⟨L.filter fun x => M.any fun y => y.1 == x.1, sL.filter _, fun x => by rw [List.mem_filter, any_key]; rfl, ?_⟩
    rw [qbE_of (cmp_eq _ _ _), qbE_of (tr_bool _ _), pkE_ok, decide_eq_true rfl, bq_true, qbE_of (src_lst ha2), qbE_of (filt .In _ (fun x => M.any fun y => y.1 == x.1) ha2 zL fun x _ => by rw [in_ok hd2, k2]), qbE_of (newL_ok' (fl_len _ zL) _)]
    exact .new g2 rfl
  · refine ⟨L.filter fun x => !M.any fun y => y.1 == x.1, sL.filter _, fun x => by rw [List.mem_filter, any_nkey]; rfl, ?_⟩
    rw [qbE_of (cmp_eq _ _ _), qbE_of (tr_bool _ _), pkE_ok, decide_eq_false (by decide), bq_false, qbE_of (cmp_eq _ _ _), qbE_of (tr_bool _ _), pkE_ok, decide_eq_true rfl, bq_true, qbE_of (src_lst ha2), qbE_of (filt .NotIn _ (fun x => !M.any fun y => y.1 == x.1) ha2 zL fun x _ => by rw [nin_ok hd2, k2]), qbE_of (newL_ok' (fl_len _ zL) _)]
    exact .new g2 rfl
  · obtain ⟨ks, th, h2, hks, hth, hsrt, hmem⟩ := uni_row sL sM
    refine ⟨_, hsrt, hmem, ?_⟩
    rw [qbE_of (cmp_eq _ _ _), qbE_of (tr_bool _ _), pkE_ok, decide_eq_false (by decide), bq_false, qbE_of (cmp_eq _ _ _), qbE_of (tr_bool _ _), pkE_ok, decide_eq_false (by decide), bq_false, qbE_of (src_lst ha2), qbE_of (cp_row (fun x => some (.int x.1)) ha2 (fun x _ => by rw [qbE_of (it_encP0 _ _)]) zL), List.filterMap_eq_map']
    have bz : 16000 ≤ bigN := by unfold bigN; omega
    have lf := List.length_filter_le (fun x : Int × AV => !L.any fun y => y.1 == x.1) M
    have lz : ((L.map (·.1) ++ (M.filter fun x => !L.any fun y => y.1 == x.1).map (·.1)).length) ≤ bigN := by rw [List.length_append, List.length_map, List.length_map]; omega
    have g3 := Grow.app τ [.list (L.map fun x => .int x.1)]
    have hb3 := g3.get hb2
    have g4 := fun ys => Grow.app (τ ++ [.list (L.map fun x => .int x.1)]) [.list ys]
    rw [qbE_of (newL_ok' (by rw [List.length_map]; omega) _), qbE_of (src_lst hb3), cp_row (fun x => bif (!L.any fun y => y.1 == x.1) then some (.int x.1) else Option.none) hb3 (fun x _ => by
      rw [qbE_of (it_encP0 _ _), nin_ok (g3.get hd1), k1, qbE_ok, qbE_of (tr_bool _ _)]
      cases (!L.any fun y => y.1 == x.1) <;> rfl) zM, filter_map (fun x => .int x.1), qbE_ok, qbE_of (newL_ok' (by rw [List.length_map]; omega) _), qbE_of (add_lst ((g4 _).get (get_new _ _)) (get_new _ _) (by rw [List.length_append, List.length_map, List.length_map]; omega))]
    have fin : ∀ τ3, Grow τ τ3 → Gives σ (ks.map fun k => (k, th k)) (@qb _ _ (eE AV) (binop .Add (.ref b) (.ref a) (τ3 ++ [.list (ks.map .int)])) (.mk fun v2471 σ2472 =>
      @qb _ _ (eE AV) (dictA [v2471] σ2472) (.mk fun v2473 σ2474 =>
      @qb _ _ (eE AV) (srcOf (.ref τ3.length) σ2474) (.mk fun s2475 σ2476 =>
      @qb _ _ (eE AV) (cpS (fun x2477 σ2478 =>
      @qb _ _ (eE (Option AV)) (item v2473 x2477 σ2478) (.mk fun v2579 σ2580 =>
      .ok (some (.tup [x2477, v2579])) σ2580)) s2475 bigN 0 [] σ2476) (.mk fun xs2581 σ2582 =>
      @qb _ _ (eE AV) (newL xs2581 σ2582) (.mk fun v2583 σ2584 =>
      .ok v2583 σ2584)))))) := fun τ3 g5 => by
      have hk5 := get_new τ3 (.list (ks.map .int))
      have g6 := g5.trans (.app τ3 [.list (ks.map .int)])
      generalize τ3 ++ [.list (ks.map .int)] = τ4 at *
      have hkz : ks.length ≤ 8000 := by rw [← hks, List.length_mergeSort, List.length_append, List.length_map, List.length_map]; omega
      rw [qbE_of (add_lst (g6.get hb2) (g6.get ha2) (by rw [List.length_append, List.length_map, List.length_map]; omega)), ← List.map_append, qbE_of (dict_ok (get_new _ _) (by rw [List.length_append]; omega))]
      have g7 := (Grow.app τ4 [.list ((M ++ L).map encP)]).trans (.app _ [.dict (putAll (M ++ L) [])])
      rw [qbE_of (src_lst (g7.get hk5)), qbE_of (cp_same (fun v => (intOf? v).map fun k => encP (k, th k)) (g7.get hk5) (fun v hv => by
        obtain ⟨k, hk, rfl⟩ := List.mem_map.mp hv
        rw [qbE_of (item_dic (get_new _ _) (hth k hk))]; rfl) (by rw [List.length_map]; omega)), List.filterMap_map]
      have hfm : ks.filterMap ((fun v => (intOf? v).map fun k => encP (k, th k)) ∘ AV.int) = (ks.map fun k => (k, th k)).map encP := by
        rw [List.map_map]; exact congrFun List.filterMap_eq_map' ks
      rw [hfm, qbE_of (newL_ok' (by rw [List.length_map, List.length_map]; omega) _)]
      exact .new (g2.trans (g6.trans g7)) rfl
    have hxs : (L.map fun x => AV.int x.1) ++ ((M.filter fun x => !L.any fun y => y.1 == x.1).map fun x => AV.int x.1) = (L.map (·.1) ++ (M.filter fun x => !L.any fun y => y.1 == x.1).map (·.1)).map .int := by
      rw [List.map_append, List.map_map, List.map_map]; rfl
    rw [hxs, qbE_of (sort_ok (get_new _ _) h2 lz), hks]
    exact fin _ ((Grow.app _ _).trans ((Grow.app _ _).trans (.app _ _)))
end Mine.L

/- M16 -/
set_option tactic.hygienic false
/-! Mine: one deed of the law: what is due, what is done. -/
namespace Mine.L
open PySem Tr
set_option linter.unusedVariables false
set_option maxRecDepth 100000
set_option linter.unusedSimpArgs false
set_option exponentiation.threshold 1100

noncomputable def Due (σ : Sto) (D : Option (List (Int × AV))) (o : Out AV) : Prop := match D with
  | Option.none => ∃ σ', Grow σ σ' ∧ o = .ok .none σ'
  | some N => Gives σ N o
noncomputable def Done (D : Option (List (Int × AV))) (σ : Sto) (o : Out AV) : Prop := ∃ σ', Grow σ σ' ∧ match D with
  | Option.none => ∃ e, o = .exc e σ'
  | some N => ∃ t, o = .ok (enc t) σ' ∧ Fit t N
/-- each pair is one of the old ones, or has a new key and a plain thing -/
noncomputable def New (L M : List (Int × AV)) (ks : List Int) (N : List (Int × AV)) : Prop := ∀ x ∈ N, x ∈ L ∨ x ∈ M ∨ (x.1 ∈ ks ∧ Plain 13 x.2)

theorem optR_some {α β : Type} (x : β) (f : β → Out α) : optR (some x) f = f x := rfl
section
variable {κ c : Int} {a b : Tr} {L M : List (Int × AV)}
/-- one deed: due and done speak of the same row -/
noncomputable def Deed (κ c : Int) (a b : Tr) (L M : List (Int × AV)) : Prop := ∃ (D : Option (List (Int × AV))) (ks : List Int), ks.length ≤ 59 ∧ (∀ N, D = some N → New L M ks N) ∧
  (∀ m σ qa qb, 93 ≤ m → σ[qa]? = some (.list (L.map encP)) → σ[qb]? = some (.list (M.map encP)) → Due σ D (callN PP (m + 1) "_law_due" [.int κ, .ref qa, .ref qb, .int c] σ)) ∧
  ∀ m σ, 93 ≤ m → Done D σ (callN PP (m + 1) "_law_done" [.int κ, enc a, enc b, .int c] σ)

theorem Fit.size {t : Tr} {L : List (Int × AV)} (h : Fit t L) {z : Nat} (hz : L.length ≤ z) : Tr.size t ≤ z := by
  show (Tr.io t).length ≤ z
  rw [h.io]; exact hz
theorem thing_pl (hc : Bit c) : Plain 13 (thingV (c.fdiv 3)) := (thingV_ok _ (Nat.le_trans (hc.div (k := 3) (by decide)) (by omega))).1
/-- done, as far as the first kinds are told apart -/
theorem done_at (κ : Int) (hc : Bit c) {x y : AV} {m : Nat} (hm : 5 ≤ m) (σ : Sto) : ∃ σ', Grow σ σ' ∧ callN PP (m + 1) "_law_done" [.int κ, x, y, .int c] σ =
    @bq _ (decide (κ < 4)) (.mk (@qk _ _ (eE AV) (callN PP m "put" [x, .int (keyV c), thingV (c.fdiv 3)] σ') (.mk fun v σ => .ok v σ))) (.mk
    (@bq _ (decide (κ < 7)) (.mk (@qk _ _ (eE AV) (callN PP m "taken" [x, .int (keyV c)] σ') (.mk fun v σ => .ok v σ))) (.mk
    (@bq _ (decide (κ = 7)) (.mk (@qk _ _ (eE AV) (callN PP m "_law_row_of" [.int c] σ') (.mk fun v σ => @qk _ _ (eE AV) (callN PP m "raised" [v] σ) (.mk fun v σ => .ok v σ)))) (.mk
    (@bq _ (decide (κ = 8)) (.mk (@qk _ _ (eE AV) (callN PP m "joined" [x, .int (keyV c), thingV (c.fdiv 3), y] σ') (.mk fun v σ => .ok v σ))) (.mk
    (@bq _ (decide (κ = 9)) (.mk (@qk _ _ (eE AV) (callN PP m "laid" [x, y] σ') (.mk fun v σ => .ok v σ))) (.mk
    (@bq _ (decide (κ = 10)) (.mk (@qk _ _ (eE AV) (callN PP m "common" [x, y] σ') (.mk fun v σ => .ok v σ))) (.mk
    (@bq _ (decide (κ = 11)) (.mk (@qk _ _ (eE AV) (callN PP m "without" [x, y] σ') (.mk fun v σ => .ok v σ))) (.mk
    (@qk _ _ (eE AV) (callN PP m "united" [x, y] σ') (.mk fun v σ => .ok v σ))))))))))))))) := by
  obtain ⟨σ', g, e⟩ := thing_at (hc.div (k := 3) (by decide)) hm σ
  refine ⟨σ', g, ?_⟩
  rw [cN, law_done_K, qkE_of (key_ok (by omega) _ _), qbE_of (b_fdiv c 3 σ (by decide) (small_lit (by decide) (by decide))), qkE_of (e)]
  rfl
noncomputable def dueTaken (x key : AV) (σ : Sto) : Out AV :=
 @qk _ _ (eE AV) (@qb _ _ (eE Bool) (srcOf x σ) (.mk fun s1001 σ1002 =>
 @qb _ _ (eE Bool) (cpS (fun x1003 σ1004 =>
 @qb _ _ (eE (Option AV)) (item x1003 (.int 0) σ1004) (.mk fun v1105 σ1106 =>
 @qb _ _ (eE (Option AV)) (cmpop .Eq v1105 key σ1106) (.mk fun v1107 σ1108 =>
 @qb _ _ (eE (Option AV)) (truthO v1107 σ1108) (.mk fun b1109 σ1110 =>
 @bq _ b1109 (.mk (.ok (some x1003) σ1110)) (.mk (.ok Option.none σ1110)))))) s1001 bigN 0 [] σ1002) (.mk fun xs1111 σ1112 =>
 @qb _ _ (eE Bool) (newL xs1111 σ1112) (.mk fun v1113 σ1114 =>
 @qb _ _ (eE Bool) (newL [] σ1114) (.mk fun v1115 σ1116 =>
 @qb _ _ (eE Bool) (cmpop .Eq v1113 v1115 σ1116) (.mk fun v1117 σ1118 =>
 @qb _ _ (eE Bool) (truthO v1117 σ1118) (.mk fun b1119 σ1120 =>
 .ok b1119 σ1120))))))) (.mk fun c1121 σ1122 =>
 @bq _ c1121 (.mk (.ok .none σ1122)) (.mk (@qb _ _ (eE AV) (srcOf x σ1122) (.mk fun s1123 σ1124 =>
 @qb _ _ (eE AV) (cpS (fun x1125 σ1126 =>
 @qb _ _ (eE (Option AV)) (item x1125 (.int 0) σ1126) (.mk fun v1227 σ1228 =>
 @qb _ _ (eE (Option AV)) (cmpop .NotEq v1227 key σ1228) (.mk fun v1229 σ1230 =>
 @qb _ _ (eE (Option AV)) (truthO v1229 σ1230) (.mk fun b1231 σ1232 =>
 @bq _ b1231 (.mk (.ok (some x1125) σ1232)) (.mk (.ok Option.none σ1232)))))) s1123 bigN 0 [] σ1124) (.mk fun xs1233 σ1234 =>
 @qb _ _ (eE AV) (newL xs1233 σ1234) (.mk fun v1235 σ1236 =>
 .ok v1235 σ1236))))))
noncomputable def condJ (x y key : AV) (σ : Sto) : Out Bool :=
 @qb _ _ (eE Bool) (truthO x σ) (.mk fun b1 σ2 =>
 @bq _ b1 (.mk (@qb _ _ (eE Bool) (unop .USub (.int 1) σ2) (.mk fun v3 σ4 =>
 @qb _ _ (eE Bool) (item x v3 σ4) (.mk fun v5 σ6 =>
 @qb _ _ (eE Bool) (item v5 (.int 0) σ6) (.mk fun v7 σ8 =>
 @qb _ _ (eE Bool) (cmpop .GtE v7 key σ8) (.mk fun v9 σ10 =>
 @qb _ _ (eE Bool) (truthO v9 σ10) (.mk fun b11 σ12 =>
 @bq _ b11 (.mk (@bq _ true (.mk (.ok true σ12)) (.mk (@qb _ _ (eE Bool) (truthO y σ12) (.mk fun b13 σ14 =>
 @bq _ b13 (.mk (@qb _ _ (eE Bool) (item y (.int 0) σ14) (.mk fun v15 σ16 =>
 @qb _ _ (eE Bool) (item v15 (.int 0) σ16) (.mk fun v17 σ18 =>
 @qb _ _ (eE Bool) (cmpop .LtE v17 key σ18) (.mk fun v19 σ20 =>
 @qb _ _ (eE Bool) (truthO v19 σ20) (.mk fun b21 σ22 =>
 @bq _ b21 (.mk (@bq _ true (.mk (.ok true σ22)) (.mk (.ok false σ22)))) (.mk (@bq _ false (.mk (.ok true σ22)) (.mk (.ok false σ22)))))))))) (.mk (@bq _ false (.mk (.ok true σ14)) (.mk (.ok false σ14))))))))) (.mk (@bq _ false (.mk (.ok true σ12)) (.mk (@qb _ _ (eE Bool) (truthO y σ12) (.mk fun b23 σ24 =>
 @bq _ b23 (.mk (@qb _ _ (eE Bool) (item y (.int 0) σ24) (.mk fun v25 σ26 =>
 @qb _ _ (eE Bool) (item v25 (.int 0) σ26) (.mk fun v27 σ28 =>
 @qb _ _ (eE Bool) (cmpop .LtE v27 key σ28) (.mk fun v29 σ30 =>
 @qb _ _ (eE Bool) (truthO v29 σ30) (.mk fun b31 σ32 =>
 @bq _ b31 (.mk (@bq _ true (.mk (.ok true σ32)) (.mk (.ok false σ32)))) (.mk (@bq _ false (.mk (.ok true σ32)) (.mk (.ok false σ32)))))))))) (.mk (@bq _ false (.mk (.ok true σ24)) (.mk (.ok false σ24)))))))))))))))) (.mk (@bq _ false (.mk (.ok true σ2)) (.mk (@qb _ _ (eE Bool) (truthO y σ2) (.mk fun b33 σ34 =>
 @bq _ b33 (.mk (@qb _ _ (eE Bool) (item y (.int 0) σ34) (.mk fun v35 σ36 =>
 @qb _ _ (eE Bool) (item v35 (.int 0) σ36) (.mk fun v37 σ38 =>
 @qb _ _ (eE Bool) (cmpop .LtE v37 key σ38) (.mk fun v39 σ40 =>
 @qb _ _ (eE Bool) (truthO v39 σ40) (.mk fun b41 σ42 =>
 @bq _ b41 (.mk (@bq _ true (.mk (.ok true σ42)) (.mk (.ok false σ42)))) (.mk (@bq _ false (.mk (.ok true σ42)) (.mk (.ok false σ42)))))))))) (.mk (@bq _ false (.mk (.ok true σ34)) (.mk (.ok false σ34))))))))))
noncomputable def condL (x y : AV) (σ : Sto) : Out Bool :=
 @qb _ _ (eE Bool) (truthO x σ) (.mk fun b1 σ2 =>
 @bq _ b1 (.mk (@qb _ _ (eE Bool) (truthO y σ2) (.mk fun b3 σ4 =>
 @bq _ b3 (.mk (@qb _ _ (eE Bool) (unop .USub (.int 1) σ4) (.mk fun v5 σ6 =>
 @qb _ _ (eE Bool) (item x v5 σ6) (.mk fun v7 σ8 =>
 @qb _ _ (eE Bool) (item v7 (.int 0) σ8) (.mk fun v9 σ10 =>
 @qb _ _ (eE Bool) (item y (.int 0) σ10) (.mk fun v11 σ12 =>
 @qb _ _ (eE Bool) (item v11 (.int 0) σ12) (.mk fun v13 σ14 =>
 @qb _ _ (eE Bool) (cmpop .GtE v9 v13 σ14) (.mk fun v15 σ16 =>
 @qb _ _ (eE Bool) (truthO v15 σ16) (.mk fun b17 σ18 =>
 @bq _ b17 (.mk (.ok true σ18)) (.mk (.ok false σ18))))))))))) (.mk (.ok false σ4))))) (.mk (.ok false σ2)))
/-- due, as far as the first kinds are told apart -/
theorem due_at (κ c : Int) {x y : AV} {m : Nat} (hm : 1 ≤ m) (σ : Sto) : callN PP (m + 1) "_law_due" [.int κ, x, y, .int c] σ =
    @bq _ (decide (κ < 4)) (.mk (@qk _ _ (eE AV) (callN PP m "_law_paired" [x, .int c] σ) (.mk fun v σ => .ok v σ))) (.mk
    (@bq _ (decide (κ < 7)) (.mk (dueTaken x (.int (keyV c)) σ)) (.mk
    (@bq _ (decide (κ = 7)) (.mk (@qk _ _ (eE AV) (callN PP m "_law_row_of" [.int c] σ) (.mk fun v σ => .ok v σ))) (.mk
    (@bq _ (decide (κ = 8)) (.mk (@qk _ _ (eE AV) (condJ x y (.int (keyV c)) σ) (.mk fun b σ => @bq _ b (.mk (.ok .none σ)) (.mk (@qb _ _ (eE AV) (binop .FloorDiv (.int c) (.int 3) σ) (.mk fun v σ => @qk _ _ (eE AV) (callN PP m "_law_thing" [v] σ) (.mk fun u σ =>
      @qb _ _ (eE AV) (newL [.tup [.int (keyV c), u]] σ) (.mk fun v σ => @qb _ _ (eE AV) (binop .Add x v σ) (.mk fun v σ => @qb _ _ (eE AV) (binop .Add v y σ) (.mk fun v σ => .ok v σ)))))))))) (.mk
    (@bq _ (decide (κ = 9)) (.mk (@qk _ _ (eE AV) (condL x y σ) (.mk fun b σ => @bq _ b (.mk (.ok .none σ)) (.mk (@qb _ _ (eE AV) (binop .Add x y σ) (.mk fun v σ => .ok v σ)))))) (.mk
    (@qk _ _ (eE AV) (callN PP m "_law_two" [.int κ, x, y] σ) (.mk fun v σ => .ok v σ))))))))))) := by
  rw [cN, law_due_K, qkE_of (key_ok hm _ _)]
  rfl

theorem Deed.ok {N : List (Int × AV)} {t : Tr} {ks : List Int} (ft : Fit t N) (h1 : ks.length ≤ 59) (h2 : New L M ks N)
    (h3 : ∀ m σ qa qb, 93 ≤ m → σ[qa]? = some (.list (L.map encP)) → σ[qb]? = some (.list (M.map encP)) → Gives σ N (callN PP (m + 1) "_law_due" [.int κ, .ref qa, .ref qb, .int c] σ))
    (h4 : ∀ m σ, 93 ≤ m → ∃ σ', Grow σ σ' ∧ callN PP (m + 1) "_law_done" [.int κ, enc a, enc b, .int c] σ = .ok (enc t) σ') : Deed κ c a b L M :=
  ⟨some N, ks, h1, fun N' e => by cases e; exact h2, h3, fun m σ hm => let ⟨σ', g, e⟩ := h4 m σ hm; ⟨σ', g, t, e, ft⟩⟩
theorem Deed.no {x : Str} (h3 : ∀ m σ qa qb, 93 ≤ m → σ[qa]? = some (.list (L.map encP)) → σ[qb]? = some (.list (M.map encP)) → ∃ σ', Grow σ σ' ∧ callN PP (m + 1) "_law_due" [.int κ, .ref qa, .ref qb, .int c] σ = .ok .none σ')
    (h4 : ∀ m σ, 93 ≤ m → ∃ σ', Grow σ σ' ∧ callN PP (m + 1) "_law_done" [.int κ, enc a, enc b, .int c] σ = .exc x σ') : Deed κ c a b L M :=
  ⟨Option.none, [], Nat.zero_le _, fun N' e => (nomatch e), h3, fun m σ hm => let ⟨σ', g, e⟩ := h4 m σ hm; ⟨σ', g, x, e⟩⟩

theorem deed_put (hc : Bit c) (fa : Fit a L) (zL : L.length ≤ 8000) (hκ : κ < 4) : Deed κ c a b L M := by
  obtain ⟨t, ht, ft⟩ := put_ok a (keyV c) (thingV (c.fdiv 3)) fa.good fa.srt (fa.size zL)
  rw [fa.io] at ft
  refine .ok ft (ks := [keyV c]) (Nat.le_add_left 1 58) (fun x hx => ?_) (fun m σ qa qb hm ha hb => ?_) fun m σ hm => ?_
  · rcases List.mem_append.mp hx with q | q
    · exact .inl (List.mem_filter.mp q).1
    · rcases List.mem_cons.mp q with rfl | q
      · exact .inr (.inr ⟨.head _, thing_pl hc⟩)
      · exact .inl (List.mem_filter.mp q).1
  · rw [due_at κ c (by omega), decide_eq_true hκ, bq_true]
    obtain ⟨σ', q, g, hq, e⟩ := paired_ok c hc zL (n := m) (by omega) ha
    rw [qkE_of (e)]
    exact ⟨σ', q, g, hq, rfl⟩
  · obtain ⟨σ', g, e⟩ := done_at κ hc (x := enc a) (y := enc b) (m := m) (by omega) σ
    exact ⟨σ', g, by rw [e, decide_eq_true hκ, bq_true, qkE_of (ht m σ' (by omega))]⟩

/-- without the key: below it and above it -/
theorem lohi_eq {L : List (Int × AV)} (hs : Srt L) (k : Int) : L.filter (fun x => decide (x.1 < k)) ++ L.filter (fun x => decide (k < x.1)) = L.filter fun x => !decide (x.1 = k) := by
  refine srt_ext (Srt.mk2 (hs.filter _) (hs.filter _) (fun x hx => (lo_mem.mp hx).2) fun x hx => (hi_mem.mp hx).2) (hs.filter _) fun x => ?_
  rw [List.mem_append, lo_mem, hi_mem, List.mem_filter, Bool.not_eq_true', decide_eq_false_iff_not]
  exact ⟨fun h => h.elim (fun q => ⟨q.1, by omega⟩) fun q => ⟨q.1, by omega⟩, fun h => (Int.lt_or_gt_of_ne h.2).imp (fun q => ⟨h.1, q⟩) fun q => ⟨h.1, q⟩⟩
theorem AllPlain.filter {L : List (Int × AV)} (h : AllPlain L) (p : Int × AV → Bool) : AllPlain (L.filter p) := fun x hx => h x (List.mem_filter.mp hx).1

theorem deed_taken (hc : Bit c) (fa : Fit a L) (pa : AllPlain L) (zL : L.length ≤ 8000) (h4 : ¬ κ < 4) (hκ : κ < 7) : Deed κ c a b L M := by
  have hin : ∀ σ qa, σ[qa]? = some (.list (L.map encP)) → ∃ σ₁, Grow σ σ₁ ∧ dueTaken (.ref qa) (.int (keyV c)) σ = @bq _ (L.filter fun x => decide (x.1 = keyV c)).isEmpty (.mk (.ok .none σ₁)) (.mk (@qb _ _ (eE AV) (newL ((L.filter fun x => !decide (x.1 = keyV c)).map encP) σ₁) (.mk fun v σ => .ok v σ))) := fun σ qa ha => by
    have h1 := Grow.get (.app (σ ++ [.list ((L.filter fun x => decide (x.1 = keyV c)).map encP)]) [.list []]) (get_new σ (.list ((L.filter fun x => decide (x.1 = keyV c)).map encP)))
    have g1 : Grow σ (σ ++ [.list ((L.filter fun x => decide (x.1 = keyV c)).map encP)] ++ [.list []]) := (Grow.app _ _).trans (.app _ _)
    refine ⟨_, g1, ?_⟩
    unfold dueTaken
    rw [qbE_of (src_lst ha), qbE_of (filt .Eq _ (fun x => decide (x.1 = keyV c)) ha zL fun x _ => cmp_eq _ _ _), qbE_of (newL_ok' (fl_len _ zL) _), qbE_of (newL_nil _), cmpEq, eqv_nil (pa.filter _) h1 (get_new _ _), optR_some, qbE_ok, qbE_of (tr_bool _ _), pkE_ok, qbE_of (src_lst (g1.get ha)), qbE_of (filt .NotEq _ (fun x => !decide (x.1 = keyV c)) (g1.get ha) zL fun x _ => cmp_ne _ _ _)]
  by_cases hk : ∃ x ∈ L, x.1 = keyV c
  · obtain ⟨t, ht, ft⟩ := taken_ok a (keyV c) fa.good fa.srt (fa.size zL) (by rw [fa.io]; exact hk)
    rw [lohi_eq fa.srt, fa.io] at ft
    have he : (L.filter fun x => decide (x.1 = keyV c)).isEmpty = false := by
      obtain ⟨x, hx, e⟩ := hk
      rw [List.isEmpty_eq_false_iff]
      exact List.ne_nil_of_mem (List.mem_filter.mpr ⟨hx, decide_eq_true e⟩)
    refine .ok ft (ks := []) (Nat.zero_le _) (fun x hx => .inl (List.mem_filter.mp hx).1) (fun m σ qa qb hm ha hb => ?_) fun m σ hm => ?_
    · rw [due_at κ c (by omega), decide_eq_false h4, bq_false, decide_eq_true hκ, bq_true]
      obtain ⟨σ₁, g₁, e₁⟩ := hin σ qa ha
      rw [e₁, he, bq_false, qbE_of (newL_ok' (fl_len _ zL) _)]
      exact .new g₁ rfl
    · obtain ⟨σ', g, e⟩ := done_at κ hc (x := enc a) (y := enc b) (m := m) (by omega) σ
      exact ⟨σ', g, by rw [e, decide_eq_false h4, bq_false, decide_eq_true hκ, bq_true, qkE_of (ht m σ' (by omega))]⟩
  · have he : (L.filter fun x => decide (x.1 = keyV c)) = [] := List.filter_eq_nil_iff.mpr fun x hx e => hk ⟨x, hx, of_decide_eq_true e⟩
    refine .no (x := "NoKey") (fun m σ qa qb hm ha hb => ?_) fun m σ hm => ?_
    · rw [due_at κ c (by omega), decide_eq_false h4, bq_false, decide_eq_true hκ, bq_true]
      obtain ⟨σ₁, g₁, e₁⟩ := hin σ qa ha
      exact ⟨σ₁, g₁, by rw [e₁, he]; rfl⟩
    · obtain ⟨σ', g, e⟩ := done_at κ hc (x := enc a) (y := enc b) (m := m) (by omega) σ
      exact ⟨σ', g, by rw [e, decide_eq_false h4, bq_false, decide_eq_true hκ, bq_true, taken_exc a (keyV c) fa.good fa.srt (fa.size zL) (by rw [fa.io]; exact fun x hx e => hk ⟨x, hx, e⟩) (by omega), pkE_exc]⟩

theorem deed_row (hc : Bit c) : Deed 7 c a b L M := by
  obtain ⟨N, l1, l2, l3, l4⟩ := row_ok c hc
  obtain ⟨t, ht, i, g, r⟩ := raised_ok N (by omega) l3
  refine .ok (⟨g, by rw [i]; exact l3, r, i⟩ : Fit t N) (ks := N.map (·.1)) (by rw [List.length_map]; exact l1) (fun x hx => .inr (.inr ⟨List.mem_map.mpr ⟨x, hx, rfl⟩, l2 x hx⟩)) (fun m σ qa qb hm ha hb => ?_) fun m σ hm => ?_
  · obtain ⟨σ', q, g, hq, e⟩ := l4 m σ (by omega)
    rw [due_at 7 c (by omega), decide_eq_false (by decide), bq_false, decide_eq_false (by decide), bq_false, decide_eq_true rfl, bq_true, qkE_of (e)]
    exact ⟨σ', q, g, hq, rfl⟩
  · obtain ⟨σ', g, e⟩ := done_at 7 hc (x := enc a) (y := enc b) (m := m) (by omega) σ
    obtain ⟨σ'', q, g', hq, e'⟩ := l4 m σ' (by omega)
    refine ⟨σ'', g.trans g', ?_⟩
    rw [e, decide_eq_false (by decide), bq_false, decide_eq_false (by decide), bq_false, decide_eq_true rfl, bq_true, qkE_of (e'), qkE_of (ht m σ'' q hq.2 (by omega))]
end
end Mine.L

/- M17 -/
set_option tactic.hygienic false
/-! Mine: the deeds of two trees, and all deeds. -/
namespace Mine.L
open PySem Tr
set_option linter.unusedVariables false
set_option maxRecDepth 100000
set_option linter.unusedSimpArgs false
set_option exponentiation.threshold 1100

theorem tr_row {q : Nat} {σ : Sto} {L : List (Int × AV)} (h : σ[q]? = some (.list (L.map encP))) : truthO (.ref q) σ = .ok (!L.isEmpty) σ := by rw [tr_lst h, row_nil]
theorem item_last {q : Nat} {σ : Sto} {l : List (Int × AV)} {y : Int × AV} (h : σ[q]? = some (.list ((l ++ [y]).map encP))) : item (.ref q) (.int (-1)) σ = .ok (encP y) σ := by
  show optR (σ[q]?) _ = _
  rw [h]
  show optA (at? ((l ++ [y]).map encP) (-1)) σ = _
  have : at? ((l ++ [y]).map encP) (-1) = some (encP y) := by
    have hl : ((l ++ [y]).map encP).length = l.length + 1 := by simp
    unfold at?
    rw [hl, decide_eq_false (by decide), decide_eq_true (by omega), show (-1 + ((l.length + 1 : Nat) : Int)).toNat = l.length by omega]
    simp
  rw [this]; rfl
theorem item_head {q : Nat} {σ : Sto} {r : List (Int × AV)} {z : Int × AV} (h : σ[q]? = some (.list ((z :: r).map encP))) : item (.ref q) (.int 0) σ = .ok (encP z) σ := item_lst h (Int.le_refl _) rfl
/-- the end of a row -/
theorem row_end (L : List (Int × AV)) (k : Int) : (L.isEmpty = true ∧ Ahead L k) ∨ (L.isEmpty = false ∧ ∃ y : Int × AV, (∀ q σ, σ[q]? = some (.list (L.map encP)) → item (.ref q) (.int (-1)) σ = .ok (encP y) σ) ∧ L.getLast? = some y) := by
  rcases List.eq_nil_or_concat L with rfl | ⟨l, y, rfl⟩
  · exact .inl ⟨rfl, fun a h => by cases h⟩
  · rw [List.concat_eq_append]
    exact .inr ⟨by cases l <;> rfl, y, fun q σ h => item_last h, by rw [List.getLast?_append]; rfl⟩
theorem row_start (L : List (Int × AV)) (k : Int) : (L.isEmpty = true ∧ Behind k L) ∨ (L.isEmpty = false ∧ ∃ y : Int × AV, (∀ q σ, σ[q]? = some (.list (L.map encP)) → item (.ref q) (.int 0) σ = .ok (encP y) σ) ∧ L.head? = some y) := by
  cases L with
  | nil => exact .inl ⟨rfl, fun a h => by cases h⟩
  | cons z r => exact .inr ⟨rfl, z, fun q σ h => item_head h, rfl⟩
theorem ahead_of {L : List (Int × AV)} {y : Int × AV} {k : Int} (h : L.getLast? = some y) : Ahead L k ↔ y.1 < k := ⟨fun z => z y h, fun z a ha => by rw [h] at ha; cases ha; exact z⟩
theorem behind_of {L : List (Int × AV)} {y : Int × AV} {k : Int} (h : L.head? = some y) : Behind k L ↔ k < y.1 := ⟨fun z => z y h, fun z a ha => by rw [h] at ha; cases ha; exact z⟩

section
variable {κ c : Int} {a b : Tr} {L M : List (Int × AV)}
theorem condJ_ok {qa qb : Nat} {σ : Sto} (key : Int) (ha : σ[qa]? = some (.list (L.map encP))) (hb : σ[qb]? = some (.list (M.map encP))) : ∃ r, condJ (.ref qa) (.ref qb) (.int key) σ = .ok r σ ∧ (r = false ↔ Ahead L key ∧ Behind key M) := by
  unfold condJ
  rw [qbE_of (tr_row ha), qbE_of (neg_int _ _)]
  rcases row_end L key with ⟨e1, h1⟩ | ⟨e1, y, i1, h1⟩
  · rw [e1, Bool.not_true, bq_false, bq_false, qbE_of (tr_row hb)]
    rcases row_start M key with ⟨e2, h2⟩ | ⟨e2, z, i2, h2⟩
    · rw [e2]
      exact ⟨false, rfl, fun _ => ⟨h1, h2⟩, fun _ => rfl⟩
    · rw [e2, Bool.not_false, bq_true, qbE_of (i2 _ _ hb), qbE_of (it_encP0 _ _), qbE_of (cmp_le _ _ _), qbE_of (tr_bool _ _), behind_of h2]
      by_cases h : z.1 ≤ key
      · rw [decide_eq_true h]; exact ⟨true, rfl, fun q => (nomatch q), fun q => absurd q.2 (by omega)⟩
      · rw [decide_eq_false h]; exact ⟨false, rfl, fun q => ⟨h1, by omega⟩, fun q => rfl⟩
  · rw [e1, Bool.not_false, bq_true, qbE_of (i1 _ _ ha), qbE_of (it_encP0 _ _), qbE_of (cmp_ge _ _ _), qbE_of (tr_bool _ _), ahead_of h1]
    by_cases h : y.1 ≥ key
    · rw [decide_eq_true h]; exact ⟨true, rfl, fun q => (nomatch q), fun q => absurd q.1 (by omega)⟩
    · rw [decide_eq_false h, bq_false, bq_false, qbE_of (tr_row hb)]
      rcases row_start M key with ⟨e2, h2⟩ | ⟨e2, z, i2, h2⟩
      · rw [e2]
        exact ⟨false, rfl, fun _ => ⟨by omega, h2⟩, fun _ => rfl⟩
      · rw [e2, Bool.not_false, bq_true, qbE_of (i2 _ _ hb), qbE_of (it_encP0 _ _), qbE_of (cmp_le _ _ _), qbE_of (tr_bool _ _), behind_of h2]
        by_cases h' : z.1 ≤ key
        · rw [decide_eq_true h']; exact ⟨true, rfl, fun q => (nomatch q), fun q => absurd q.2 (by omega)⟩
        · rw [decide_eq_false h']; exact ⟨false, rfl, fun q => ⟨by omega, by omega⟩, fun q => rfl⟩
theorem condL_ok {qa qb : Nat} {σ : Sto} (ha : σ[qa]? = some (.list (L.map encP))) (hb : σ[qb]? = some (.list (M.map encP))) : ∃ r, condL (.ref qa) (.ref qb) σ = .ok r σ ∧ (r = false ↔ Apart L M) := by
  unfold condL
  rw [qbE_of (tr_row ha), qbE_of (tr_row hb), qbE_of (neg_int _ _)]
  rcases row_end L 0 with ⟨e1, h1⟩ | ⟨e1, y, i1, h1⟩
  · rw [e1]
    rw [List.isEmpty_iff] at e1; subst e1
    exact ⟨false, rfl, fun _ a h => (by cases h), fun _ => rfl⟩
  · rcases row_start M 0 with ⟨e2, h2⟩ | ⟨e2, z, i2, h2⟩
    · rw [e1, e2]
      rw [List.isEmpty_iff] at e2; subst e2
      exact ⟨false, rfl, fun _ a h b h' => (by cases h'), fun _ => rfl⟩
    · rw [e1, e2, Bool.not_false, bq_true, bq_true, qbE_of (i1 _ _ ha), qbE_of (it_encP0 _ _), qbE_of (i2 _ _ hb), qbE_of (it_encP0 _ _), qbE_of (cmp_ge _ _ _), qbE_of (tr_bool _ _)]
      by_cases h : y.1 ≥ z.1
      · rw [decide_eq_true h]; exact ⟨true, rfl, fun q => (nomatch q), fun q => absurd (q y h1 z h2) (by omega)⟩
      · rw [decide_eq_false h]; exact ⟨false, rfl, fun q a' h' b' h'' => by rw [h1] at h'; rw [h2] at h''; cases h'; cases h''; omega, fun q => rfl⟩

theorem deed_joined (hc : Bit c) (fa : Fit a L) (fb : Fit b M) (zz : L.length + M.length ≤ 8000) : Deed 8 c a b L M := by
  have za := fa.size (show L.length ≤ 8000 by omega)
  have zb := fb.size (show M.length ≤ 8000 by omega)
  have bz : 16000 ≤ bigN := by unfold bigN; omega
  have start : ∀ m σ qa qb, 93 ≤ m → σ[qa]? = some (.list (L.map encP)) → σ[qb]? = some (.list (M.map encP)) → ∀ r, condJ (.ref qa) (.ref qb) (.int (keyV c)) σ = .ok r σ → callN PP (m + 1) "_law_due" [.int 8, .ref qa, .ref qb, .int c] σ = _ := fun m σ qa qb hm ha hb r e => by
    rw [due_at 8 c (by omega), decide_eq_false (by decide), bq_false, decide_eq_false (by decide), bq_false, decide_eq_false (by decide), bq_false, decide_eq_true rfl, bq_true, qkE_of (e)]
  by_cases h : Ahead L (keyV c) ∧ Behind (keyV c) M
  · obtain ⟨t, ht, ft⟩ := joined_ok a b (keyV c) (thingV (c.fdiv 3)) fa.good fb.good fa.srt fb.srt za zb (by rw [fa.io]; exact h.1) (by rw [fb.io]; exact h.2)
    rw [fa.io, fb.io] at ft
    refine .ok ft (ks := [keyV c]) (Nat.le_add_left 1 58) (fun x hx => ?_) (fun m σ qa qb hm ha hb => ?_) fun m σ hm => ?_
    · rcases List.mem_append.mp hx with q | q
      · exact .inl q
      · rcases List.mem_cons.mp q with rfl | q
        · exact .inr (.inr ⟨.head _, thing_pl hc⟩)
        · exact .inr (.inl q)
    · obtain ⟨r, e, hr⟩ := condJ_ok (keyV c) ha hb
      obtain ⟨σ', g, e'⟩ := thing_at (hc.div (k := 3) (by decide)) (n := m) (by omega) σ
      have g2 := fun o => g.trans (.app σ' [o])
      rw [start m σ qa qb hm ha hb r e, hr.mpr h, bq_false, qbE_of (b_fdiv c 3 σ (by decide) (small_lit (by decide) (by decide))), qkE_of (e'), qbE_of (newL_ok' (by simp [bigN]) _), qbE_of (add_lst ((g2 _).get ha) (get_new _ _) (by simp only [List.length_append, List.length_map, List.length_cons, List.length_nil]; omega)),
        qbE_of (add_lst (get_new _ _) (((g2 _).trans (.app _ _)).get hb) (by simp only [List.length_append, List.length_map, List.length_cons, List.length_nil]; omega))]
      refine .new ((g2 _).trans (.app _ _)) ?_
      rw [List.map_append, List.map_cons, List.append_assoc, List.singleton_append]; rfl
    · obtain ⟨σ', g, e⟩ := done_at 8 hc (x := enc a) (y := enc b) (m := m) (by omega) σ
      exact ⟨σ', g, by rw [e, decide_eq_false (by decide), bq_false, decide_eq_false (by decide), bq_false, decide_eq_false (by decide), bq_false, decide_eq_true rfl, bq_true, qkE_of (ht m σ' (by omega))]⟩
  · refine .no (x := "NotApart") (fun m σ qa qb hm ha hb => ?_) fun m σ hm => ?_
    · obtain ⟨r, e, hr⟩ := condJ_ok (keyV c) ha hb
      refine ⟨σ, .refl _, ?_⟩
      rw [start m σ qa qb hm ha hb r e]
      cases r with
      | false => exact absurd (hr.mp rfl) h
      | true => rfl
    · obtain ⟨σ', g, e⟩ := done_at 8 hc (x := enc a) (y := enc b) (m := m) (by omega) σ
      exact ⟨σ', g, by rw [e, decide_eq_false (by decide), bq_false, decide_eq_false (by decide), bq_false, decide_eq_false (by decide), bq_false, decide_eq_true rfl, bq_true, joined_exc a b (keyV c) _ fa.good fb.good za zb (by rw [fa.io, fb.io]; exact h) (by omega), pkE_exc]⟩

theorem Apart.srt {L M : List (Int × AV)} (h : Apart L M) (sL : Srt L) (sM : Srt M) : Srt (L ++ M) := by
  refine List.pairwise_append.mpr ⟨sL, sM, fun x hx y hy => ?_⟩
  cases M with
  | nil => cases hy
  | cons z r =>
    have h1 : x.1 < z.1 := Ahead.all (fun a ha => h a ha z rfl) sL x hx
    rcases List.mem_cons.mp hy with rfl | hy
    · exact h1
    · have := (List.pairwise_cons.mp sM).1 y hy
      omega
theorem deed_laid (hc : Bit c) (fa : Fit a L) (fb : Fit b M) (zz : L.length + M.length ≤ 8000) : Deed 9 c a b L M := by
  have za := fa.size (show L.length ≤ 8000 by omega)
  have zb := fb.size (show M.length ≤ 8000 by omega)
  have bz : 16000 ≤ bigN := by unfold bigN; omega
  have start : ∀ m σ qa qb, 93 ≤ m → σ[qa]? = some (.list (L.map encP)) → σ[qb]? = some (.list (M.map encP)) → ∀ r, condL (.ref qa) (.ref qb) σ = .ok r σ → callN PP (m + 1) "_law_due" [.int 9, .ref qa, .ref qb, .int c] σ = _ := fun m σ qa qb hm ha hb r e => by
    rw [due_at 9 c (by omega), decide_eq_false (by decide), bq_false, decide_eq_false (by decide), bq_false, decide_eq_false (by decide), bq_false, decide_eq_false (by decide), bq_false, decide_eq_true rfl, bq_true, qkE_of (e)]
  have dn : ∀ m σ, 93 ≤ m → ∃ σ', Grow σ σ' ∧ callN PP (m + 1) "_law_done" [.int 9, enc a, enc b, .int c] σ = @qk _ _ (eE AV) (callN PP m "laid" [enc a, enc b] σ') (.mk fun v σ => .ok v σ) := fun m σ hm => by
    obtain ⟨σ', g, e⟩ := done_at 9 hc (x := enc a) (y := enc b) (m := m) (by omega) σ
    exact ⟨σ', g, by rw [e, decide_eq_false (by decide), bq_false, decide_eq_false (by decide), bq_false, decide_eq_false (by decide), bq_false, decide_eq_false (by decide), bq_false, decide_eq_true rfl, bq_true]⟩
  by_cases h : Apart L M
  · obtain ⟨t, ht, i, g, r⟩ := laid_ok a b fa.good fb.good fa.srt za zb (by rw [fa.io, fb.io]; exact h)
    rw [fa.io, fb.io] at i
    refine .ok (⟨g, by rw [i]; exact h.srt (fa.io ▸ fa.srt) (fb.io ▸ fb.srt), r, i⟩ : Fit t (L ++ M)) (ks := []) (Nat.zero_le _) (fun x hx => (List.mem_append.mp hx).imp id .inl) (fun m σ qa qb hm ha hb => ?_) fun m σ hm => ?_
    · obtain ⟨r, e, hr⟩ := condL_ok ha hb
      rw [start m σ qa qb hm ha hb r e, hr.mpr h, bq_false, qbE_of (add_lst ha hb (by simp only [List.length_append, List.length_map]; omega))]
      exact .new (.refl _) List.map_append.symm
    · obtain ⟨σ', g, e⟩ := dn m σ hm
      exact ⟨σ', g, by rw [e, qkE_of (ht m σ' (by omega))]⟩
  · refine .no (x := "NotApart") (fun m σ qa qb hm ha hb => ?_) fun m σ hm => ?_
    · obtain ⟨r, e, hr⟩ := condL_ok ha hb
      refine ⟨σ, .refl _, ?_⟩
      rw [start m σ qa qb hm ha hb r e]
      cases r with
      | false => exact absurd (hr.mp rfl) h
      | true => rfl
    · obtain ⟨σ', g, e⟩ := dn m σ hm
      exact ⟨σ', g, by rw [e, laid_exc a b fa.good fb.good za zb (by rw [fa.io, fb.io]; exact h) (by omega), pkE_exc]⟩

theorem deed_two {R : List (Int × AV) → List (Int × AV) → Int × AV → Prop} (hκ : Kd κ R) (fa : Fit a L) (fb : Fit b M) (zz : L.length + M.length ≤ 8000) {t : Tr} {z : Nat} (T : Two R a b t z) (hR : ∀ x, R L M x → x ∈ L ∨ x ∈ M)
    (hd : ∀ m σ, 93 ≤ m → ∃ σ', Grow σ σ' ∧ callN PP (m + 1) "_law_done" [.int κ, enc a, enc b, .int c] σ = .ok (enc t) σ') : Deed κ c a b L M := by
  have hm := T.mem
  rw [fa.io, fb.io] at hm
  refine .ok (⟨T.good, T.srt, T.red, rfl⟩ : Fit t (Tr.io t)) (ks := []) (Nat.zero_le _) (fun x hx => (hR x ((hm x).mp hx)).imp id .inl) (fun m σ qa qb hm' ha hb => ?_) hd
  have h8 : 10 ≤ κ := by rcases hκ with ⟨rfl, _⟩ | ⟨rfl, _⟩ | ⟨rfl, _⟩ <;> decide
  obtain ⟨N, s, e, σ', q, g, hq, e'⟩ := two_ok hκ (fa.io ▸ fa.srt) (fb.io ▸ fb.srt) zz (n := m) (by omega) ha hb
  have : N = Tr.io t := srt_ext s T.srt fun x => (e x).trans (hm x).symm
  subst this
  rw [due_at κ c (by omega), decide_eq_false (by omega), bq_false, decide_eq_false (by omega), bq_false, decide_eq_false (by omega), bq_false, decide_eq_false (by omega), bq_false, decide_eq_false (by omega), bq_false, qkE_of (e')]
  exact ⟨σ', q, g, hq, rfl⟩

theorem deed_ok (h1 : κ < 13) (hc : Bit c) (fa : Fit a L) (fb : Fit b M) (pa : AllPlain L) (zz : L.length + M.length ≤ 8000) : Deed κ c a b L M := by
  have zL : L.length ≤ 8000 := by omega
  have za := fa.size zL
  have zb := fb.size (show M.length ≤ 8000 by omega)
  have da := fa.good.dep za
  by_cases h4 : κ < 4
  · exact deed_put hc fa zL h4
  by_cases h7 : κ < 7
  · exact deed_taken hc fa pa zL h4 h7
  have dn := fun m σ (hm : 93 ≤ m) => done_at κ hc (x := enc a) (y := enc b) (m := m) (by omega) σ
  rcases (show κ = 7 ∨ κ = 8 ∨ κ = 9 ∨ κ = 10 ∨ κ = 11 ∨ κ = 12 by omega) with rfl | rfl | rfl | rfl | rfl | rfl
  · exact deed_row hc
  · exact deed_joined hc fa fb zz
  · exact deed_laid hc fa fb zz
  · obtain ⟨t, ht, T⟩ := common_ok a b fa.good fb.good fa.srt fb.srt za zb
    refine deed_two (.inl ⟨rfl, rfl⟩) fa fb zz T (fun x h => .inl h.1) fun m σ hm => ?_
    obtain ⟨σ', g, e⟩ := dn m σ hm
    exact ⟨σ', g, by rw [e, decide_eq_false h4, bq_false, decide_eq_false h7, bq_false, decide_eq_false (by decide), bq_false, decide_eq_false (by decide), bq_false, decide_eq_false (by decide), bq_false, decide_eq_true rfl, bq_true, qkE_of (ht m σ' (by omega))]⟩
  · obtain ⟨t, ht, T⟩ := without_ok a b fa.good fb.good fa.srt fb.srt za zb
    refine deed_two (.inr (.inl ⟨rfl, rfl⟩)) fa fb zz T (fun x h => .inl h.1) fun m σ hm => ?_
    obtain ⟨σ', g, e⟩ := dn m σ hm
    exact ⟨σ', g, by rw [e, decide_eq_false h4, bq_false, decide_eq_false h7, bq_false, decide_eq_false (by decide), bq_false, decide_eq_false (by decide), bq_false, decide_eq_false (by decide), bq_false, decide_eq_false (by decide), bq_false, decide_eq_true rfl, bq_true, qkE_of (ht m σ' (by omega))]⟩
  · obtain ⟨t, ht, T⟩ := united_ok a b fa.good fb.good fa.srt fb.srt (by have := fa.size (Nat.le_refl _); have := fb.size (Nat.le_refl _); omega)
    refine deed_two (.inr (.inr ⟨rfl, rfl⟩)) fa fb zz T (fun x h => h.imp id (·.1)) fun m σ hm => ?_
    obtain ⟨σ', g, e⟩ := dn m σ hm
    exact ⟨σ', g, by rw [e, decide_eq_false h4, bq_false, decide_eq_false h7, bq_false, decide_eq_false (by decide), bq_false, decide_eq_false (by decide), bq_false, decide_eq_false (by decide), bq_false, decide_eq_false (by decide), bq_false, decide_eq_false (by decide), bq_false, qkE_of (ht m σ' (by omega))]⟩
end
end Mine.L

/- M18 -/
set_option tactic.hygienic false
/-! Mine: the law's state, and a cut. -/
namespace Mine.L
open PySem Tr
set_option linter.unusedVariables false
set_option maxRecDepth 100000
set_option linter.unusedSimpArgs false
set_option exponentiation.threshold 1100

/-- a tree, the place of its row, its row -/
abbrev Ent := Tr × Nat × List (Int × AV)
structure Item (σ : Sto) (K : List Int) (e : Ent) : Prop where
  at_ : σ[e.2.1]? = some (.list (e.2.2.map encP))
  off : e.2.1 ≠ 0 ∧ e.2.1 ≠ 4 ∧ e.2.1 ≠ 5
  fit : Fit e.1 e.2.2
  plain : AllPlain e.2.2
  keys : ∀ x ∈ e.2.2, x.1 ∈ K
/-- what stands elsewhere stays -/
noncomputable def Up (σ σ' : Sto) : Prop := ∀ q v, q ≠ 0 ∧ q ≠ 4 ∧ q ≠ 5 → σ[q]? = some v → σ'[q]? = some v
theorem Up.grow {σ σ' : Sto} (g : Grow σ σ') : Up σ σ' := fun q v _ h => g.get h
theorem Up.trans {a b c : Sto} (x : Up a b) (y : Up b c) : Up a c := fun q v n h => y q v n (x q v n h)
theorem get_ne {σ : Sto} {p q : Nat} (o : AO) (h : q ≠ p) : (σ.set p o)[q]? = σ[q]? := List.getElem?_set_ne fun z => h z.symm
theorem Up.set0 (σ : Sto) (o : AO) : Up σ (σ.set 0 o) := fun q v n h => by rw [get_ne o n.1]; exact h
theorem Up.set4 (σ : Sto) (o : AO) : Up σ (σ.set 4 o) := fun q v n h => by rw [get_ne o n.2.1]; exact h
theorem Up.set5 (σ : Sto) (o : AO) : Up σ (σ.set 5 o) := fun q v n h => by rw [get_ne o n.2.2]; exact h
theorem Item.mono {σ σ' : Sto} {K K' : List Int} {e : Ent} (h : Item σ K e) (u : Up σ σ') (k : ∀ x ∈ K, x ∈ K') : Item σ' K' e := ⟨u _ _ h.off h.at_, h.off, h.fit, h.plain, fun x hx => k _ (h.keys x hx)⟩
noncomputable abbrev trL (S : List Ent) : List AV := S.map fun e => enc e.1
noncomputable abbrev roL (S : List Ent) : List AV := S.map fun e => .ref e.2.1
noncomputable abbrev elL (S : List Ent) : List AV := S.map fun e => .tup [enc e.1, .ref e.2.1]
structure St (σ : Sto) (K : List Int) (S E : List Ent) : Prop where
  trees : σ[0]? = some (.list (trL S))
  rows : σ[4]? = some (.list (roL S))
  elder : σ[5]? = some (.list (elL E))
  len : S.length = 3
  items : ∀ e ∈ S, Item σ K e
  elders : ∀ e ∈ E, Item σ K e
theorem St.grow {σ σ' : Sto} {K : List Int} {S E : List Ent} (h : St σ K S E) (g : Grow σ σ') : St σ' K S E := ⟨g.get h.trees, g.get h.rows, g.get h.elder, h.len, fun e he => (h.items e he).mono (.grow g) fun _ q => q, fun e he => (h.elders e he).mono (.grow g) fun _ q => q⟩
theorem St.big {σ : Sto} {K : List Int} {S E : List Ent} (h : St σ K S E) : 5 < σ.length := (List.getElem?_eq_some_iff.mp h.elder).1
theorem fresh {q : Nat} (h : 5 < q) : q ≠ 0 ∧ q ≠ 4 ∧ q ≠ 5 := by omega

theorem set_lst {q : Nat} {σ : Sto} {xs : List AV} {k : Nat} (v : AV) (h : σ[q]? = some (.list xs)) (hk : k < xs.length) : setItem (.ref q) (.int (k : Int)) v σ = .ok () (σ.set q (.list (xs.set k v))) := by
  show optR (σ[q]?) _ = _
  rw [h]
  show (bif decide (0 ≤ (k : Int)) && decide ((k : Int) < xs.length) then _ else _) = _
  rw [decide_eq_true (by omega), decide_eq_true (by omega)]; rfl
theorem item_at {q : Nat} {σ : Sto} {S : List Ent} (f : Ent → AV) {k : Nat} (hk : k < S.length) (h : σ[q]? = some (.list (S.map f))) : item (.ref q) (.int (k : Int)) σ = .ok (f S[k]) σ :=
  item_lst h (by omega) (by rw [Int.toNat_natCast, List.getElem?_map, List.getElem?_eq_getElem hk]; rfl)
theorem map_set' (f : Ent → AV) (S : List Ent) (k : Nat) (e : Ent) : (S.map f).set k (f e) = (S.set k e).map f := List.map_set.symm
theorem srt_len : ∀ {K : List Int} {L : List (Int × AV)}, Srt L → (∀ x ∈ L, x.1 ∈ K) → L.length ≤ K.length
  | [], [], _, _ => Nat.le_refl _
  | [], x :: r, _, h => absurd (h x (.head _)) List.not_mem_nil
  | k :: K, L, hs, h => by
    have h1 : (L.filter fun x => !decide (x.1 = k)).length ≤ K.length := srt_len (hs.filter _) fun x hx => by
      have hx := List.mem_filter.mp hx
      rcases List.mem_cons.mp (h x hx.1) with q | q
      · rw [q, decide_eq_true rfl] at hx; cases hx.2
      · exact q
    have h2 : ∀ {L : List (Int × AV)}, Srt L → L.length ≤ (L.filter fun x => !decide (x.1 = k)).length + 1 := fun {L} => by
      induction L with
      | nil => intro _; exact Nat.zero_le _
      | cons y r ih =>
        intro hs
        have hs := List.pairwise_cons.mp hs
        rw [List.filter_cons]
        by_cases e : y.1 = k
        · have : (r.filter fun x => !decide (x.1 = k)) = r := List.filter_eq_self.mpr fun x hx => by
            have := hs.1 x hx
            rw [decide_eq_false (by omega)]; rfl
          rw [decide_eq_true e, this]; exact Nat.le_refl _
        · rw [decide_eq_false e]
          exact Nat.succ_le_succ (ih hs.2)
    have := h2 hs
    rw [List.length_cons]; omega
theorem Item.len {σ : Sto} {K : List Int} {e : Ent} (h : Item σ K e) : e.2.2.length ≤ K.length := srt_len (h.fit.io ▸ h.fit.srt) h.keys

/-- the cut's own question -/
noncomputable def condC (told have_ : AV) (σ : Sto) : Out Bool :=
 @qb _ _ (eE Bool) (item told (.int 1) σ) (.mk fun v1 σ2 =>
 @qb _ _ (eE Bool) (cmpop .Is v1 .none σ2) (.mk fun v3 σ4 =>
 @qb _ _ (eE Bool) (truthO v3 σ4) (.mk fun b5 σ6 =>
 @bq _ b5 (.mk (@qb _ _ (eE Bool) (newL [] σ6) (.mk fun v7 σ8 =>
 @qb _ _ (eE Bool) (cmpop .NotEq have_ v7 σ8) (.mk fun v9 σ10 =>
 @qb _ _ (eE Bool) (truthO v9 σ10) (.mk fun b11 σ12 =>
 @bq _ b11 (.mk (@bq _ true (.mk (.ok true σ12)) (.mk (@qb _ _ (eE Bool) (item told (.int 1) σ12) (.mk fun v13 σ14 =>
 @qb _ _ (eE Bool) (cmpop .IsNot v13 .none σ14) (.mk fun v15 σ16 =>
 @qb _ _ (eE Bool) (truthO v15 σ16) (.mk fun b17 σ18 =>
 @bq _ b17 (.mk (@qb _ _ (eE Bool) (item told (.int 1) σ18) (.mk fun v19 σ20 =>
 @qb _ _ (eE Bool) (newL [v19] σ20) (.mk fun v21 σ22 =>
 @qb _ _ (eE Bool) (cmpop .NotEq have_ v21 σ22) (.mk fun v23 σ24 =>
 @qb _ _ (eE Bool) (truthO v23 σ24) (.mk fun b25 σ26 =>
 @bq _ b25 (.mk (@bq _ true (.mk (.ok true σ26)) (.mk (.ok false σ26)))) (.mk (@bq _ false (.mk (.ok true σ26)) (.mk (.ok false σ26)))))))))) (.mk (@bq _ false (.mk (.ok true σ18)) (.mk (.ok false σ18))))))))))) (.mk (@bq _ false (.mk (.ok true σ12)) (.mk (@qb _ _ (eE Bool) (item told (.int 1) σ12) (.mk fun v27 σ28 =>
 @qb _ _ (eE Bool) (cmpop .IsNot v27 .none σ28) (.mk fun v29 σ30 =>
 @qb _ _ (eE Bool) (truthO v29 σ30) (.mk fun b31 σ32 =>
 @bq _ b31 (.mk (@qb _ _ (eE Bool) (item told (.int 1) σ32) (.mk fun v33 σ34 =>
 @qb _ _ (eE Bool) (newL [v33] σ34) (.mk fun v35 σ36 =>
 @qb _ _ (eE Bool) (cmpop .NotEq have_ v35 σ36) (.mk fun v37 σ38 =>
 @qb _ _ (eE Bool) (truthO v37 σ38) (.mk fun b39 σ40 =>
 @bq _ b39 (.mk (@bq _ true (.mk (.ok true σ40)) (.mk (.ok false σ40)))) (.mk (@bq _ false (.mk (.ok true σ40)) (.mk (.ok false σ40)))))))))) (.mk (@bq _ false (.mk (.ok true σ32)) (.mk (.ok false σ32)))))))))))))))) (.mk (@bq _ false (.mk (.ok true σ6)) (.mk (@qb _ _ (eE Bool) (item told (.int 1) σ6) (.mk fun v41 σ42 =>
 @qb _ _ (eE Bool) (cmpop .IsNot v41 .none σ42) (.mk fun v43 σ44 =>
 @qb _ _ (eE Bool) (truthO v43 σ44) (.mk fun b45 σ46 =>
 @bq _ b45 (.mk (@qb _ _ (eE Bool) (item told (.int 1) σ46) (.mk fun v47 σ48 =>
 @qb _ _ (eE Bool) (newL [v47] σ48) (.mk fun v49 σ50 =>
 @qb _ _ (eE Bool) (cmpop .NotEq have_ v49 σ50) (.mk fun v51 σ52 =>
 @qb _ _ (eE Bool) (truthO v51 σ52) (.mk fun b53 σ54 =>
 @bq _ b53 (.mk (@bq _ true (.mk (.ok true σ54)) (.mk (.ok false σ54)))) (.mk (@bq _ false (.mk (.ok true σ54)) (.mk (.ok false σ54)))))))))) (.mk (@bq _ false (.mk (.ok true σ46)) (.mk (.ok false σ46))))))))))))))
theorem cmp_ne_seq {a b : Nat} {σ : Sto} {r : Bool} (h : eqv σ (.ref a) (.ref b) = some r) : cmpop .NotEq (.ref a) (.ref b) σ = .ok (.bool (!r)) σ := by rw [cmpNe, h]; rfl
theorem condC_ok {lo hi : AV} {L : List (Int × AV)} {k : Int} (hs : Srt L) (hp : AllPlain L) {q : Nat} {σ : Sto} (hq : σ[q]? = some (.list ((L.filter fun x => decide (x.1 = k)).map encP))) :
    ∃ σ', Grow σ σ' ∧ condC (.tup [lo, midOf (L.find? fun x => decide (x.1 = k)), hi]) (.ref q) σ = .ok false σ' := by
  unfold condC
  by_cases h : ∃ x ∈ L, x.1 = k
  · obtain ⟨x, hx, rfl⟩ := h
    have hm : midOf (L.find? fun y => decide (y.1 = x.1)) = encP x := by rw [mid_some hs hx]; rfl
    have hf : (L.filter fun y => decide (y.1 = x.1)) = [x] := srt_ext (hs.filter _) (List.pairwise_singleton _ _) fun y => by
      rw [List.mem_filter, decide_eq_true_iff, List.mem_singleton]
      refine ⟨fun ⟨h1, h2⟩ => ?_, fun e => by rw [e]; exact ⟨hx, rfl⟩⟩
      have := mid_some hs h1
      rw [h2, mid_some hs hx] at this
      exact (Option.some.inj this).symm
    have hq : σ[q]? = some (.list [encP x]) := by rw [hf] at hq; exact hq
    have hp1 : AllPlain [x] := fun y hy => by rw [List.mem_singleton.mp hy]; exact hp x hx
    refine ⟨σ ++ [.list [encP x]], .app _ _, ?_⟩
    rw [hm, qbE_of (it3_1 _ _ _ _), qbE_of (cmp_is _ _), qbE_of (tr_bool _ _), show isNone (encP x) = false from rfl, bq_false, bq_false, qbE_of (it3_1 _ _ _ _), qbE_of (cmp_isnot _ _), qbE_of (tr_bool _ _), show isNone (encP x) = false from rfl, Bool.not_false, bq_true, qbE_of (it3_1 _ _ _ _), qbE_of (newL_ok' (by simp [bigN]) _),
      qbE_of (cmp_ne_seq (eqv_seq (xs := [encP x]) hp1.seq (Grow.get (.app _ _) hq) (get_new _ _))), qbE_of (tr_bool _ _)]
    rfl
  · have hn : ∀ x ∈ L, x.1 ≠ k := fun x hx e => h ⟨x, hx, e⟩
    have hf : (L.filter fun x => decide (x.1 = k)) = [] := List.filter_eq_nil_iff.mpr fun x hx e => h ⟨x, hx, of_decide_eq_true e⟩
    have hm : midOf (L.find? fun y => decide (y.1 = k)) = .none := by rw [mid_none hn]; rfl
    rw [hf] at hq
    refine ⟨σ ++ [.list []], .app _ _, ?_⟩
    rw [hm, qbE_of (it3_1 _ _ _ _), qbE_of (cmp_is _ _), qbE_of (tr_bool _ _), isNone_none, bq_true, qbE_of (newL_nil _), qbE_of (cmp_ne_seq (eqv_nil (L := []) (fun _ h => (nomatch h)) (Grow.get (.app _ _) hq) (get_new _ _))), qbE_of (tr_bool _ _)]
    rfl

theorem len3 (a b c : AV) (σ : Sto) : lenA [.tup [a, b, c]] σ = .ok (.int 3) σ := rfl
theorem cut_ok {σ : Sto} {K : List Int} {S E : List Ent} (H : St σ K S E) {w o : Nat} (hw : w < 3) (ho : o < 3) (hne : w ≠ o) (c : Int) {m : Nat} (hm : 93 ≤ m) (hK : K.length ≤ 3800) :
    ∃ σ' S', St σ' K S' E ∧ callN PP (m + 1) "_law_cut" [.ref 0, .ref 4, .int (w : Int), .int (o : Int), .int c] σ = .ok (.bool true) σ' := by
  have hw' : w < S.length := by rw [H.len]; exact hw
  have ho' : o < S.length := by rw [H.len]; exact ho
  have I := H.items S[w] (List.getElem_mem _)
  generalize hkey : keyV c = key
  generalize hx : S[w] = x at I
  obtain ⟨t, r, L⟩ := x
  have zL : L.length ≤ 8000 := Nat.le_trans I.len (by omega)
  have hio : Tr.io t = L := I.fit.io
  have hd : dep t ≤ 25 := I.fit.good.dep (I.fit.size zL)
  obtain ⟨lo, hi, c1, g1, g2, r1, r2, i1, i2⟩ := cut_at_ok key t I.fit.good I.fit.srt (I.fit.size zL)
  have hs : Srt L := hio ▸ I.fit.srt
  rw [hio] at c1 i1 i2
  have hp : AllPlain L := I.plain
  have hr : σ[r]? = some (.list (L.map encP)) := I.at_
  have b5 := H.big
  have itT : item (.ref 0) (.int (w : Int)) σ = .ok (enc t) σ := by rw [item_at (fun e => enc e.1) hw' H.trees, hx]
  have itR : ∀ σ', Grow σ σ' → item (.ref 4) (.int (w : Int)) σ' = .ok (.ref r) σ' := fun σ' g => by rw [item_at (fun e => .ref e.2.1) hw' (g.get H.rows), hx]
  have ga := Grow.app σ [.list ((L.filter fun x => decide (x.1 = key)).map encP)]
  obtain ⟨σ₂, g₂, e₂⟩ := condC_ok (lo := enc lo) (hi := enc hi) hs hp (get_new σ (.list ((L.filter fun x => decide (x.1 = key)).map encP)))
  unfold condC at e₂
  rw [cN, law_cut_K, key_ok (by omega), hkey, pkE_ok, qbE_of (itT), qkE_of (c1 m σ (by omega)), qbE_of (isi_tt _ _), qbE_of (tr_bool _ _), Bool.not_true, bq_false, qbE_of (len3 _ _ _ _), qbE_of (cmp_ne _ _ _), qbE_of (tr_bool _ _), decide_eq_true rfl, Bool.not_true, bq_false, pkE_ok, bq_false, qbE_of (itR σ (.refl _)), qbE_of (src_lst hr), qbE_of (filt .Eq _ (fun x => decide (x.1 = key)) hr zL fun x _ => cmp_eq _ _ _), qbE_of (newL_ok' (fl_len _ zL) _), qkE_of (e₂), bq_false]
  have gA : Grow σ σ₂ := ga.trans g₂
  have b2 : 5 < σ₂.length := Nat.lt_of_lt_of_le b5 gA.le
  have hr₂ := gA.get hr
  have g₃ := gA.trans (.app σ₂ [.list ((L.filter fun x => decide (x.1 < key)).map encP)])
  have lr : (roL S).length = S.length := List.length_map _
  have lt : (trL S).length = S.length := List.length_map _
  rw [qbE_of (itR σ₂ gA), qbE_of (src_lst hr₂), qbE_of (filt .Lt _ (fun x => decide (x.1 < key)) hr₂ zL fun x _ => rfl), qbE_of (newL_ok' (fl_len _ zL) _), qbE_of (set_lst (.ref σ₂.length) (g₃.get H.rows) (by rw [lr]; exact hw'))]
  have u₄ := (Up.grow g₃).trans (.set4 _ (.list ((roL S).set w (.ref σ₂.length))))
  have h0 := (get_ne (.list ((roL S).set w (.ref σ₂.length))) (show 0 ≠ 4 by decide)).trans (g₃.get H.trees)
  have h4 := get_set (o' := .list ((roL S).set w (.ref σ₂.length))) (g₃.get H.rows)
  have h5 := (get_ne (.list ((roL S).set w (.ref σ₂.length))) (show 5 ≠ 4 by decide)).trans (g₃.get H.elder)
  have h1 := (get_ne (.list ((roL S).set w (.ref σ₂.length))) (fresh b2).2.1).trans (get_new σ₂ (.list ((L.filter fun x => decide (x.1 < key)).map encP)))
  generalize (σ₂ ++ [AO.list ((L.filter fun x => decide (x.1 < key)).map encP)]).set 4 (.list ((roL S).set w (.ref σ₂.length))) = σ₄ at *
  generalize σ₂.length = n₁ at *
  have hr₄ := u₄ _ _ I.off hr
  have b4 : 5 < σ₄.length := (List.getElem?_eq_some_iff.mp h5).1
  have g₅ := Grow.app σ₄ [.list ((L.filter fun x => decide (key < x.1)).map encP)]
  have ne₁ : n₁ ≠ σ₄.length := fun q => by have := (List.getElem?_eq_some_iff.mp h1).1; omega
  have h8 : St (((((σ₄ ++ [AO.list ((L.filter fun x => decide (key < x.1)).map encP)]).set 4 (.list (((roL S).set w (.ref n₁)).set o (.ref σ₄.length)))).set 0 (.list ((trL S).set w (enc lo)))).set 0 (.list (((trL S).set w (enc lo)).set o (enc hi))))) K
      ((S.set w (lo, n₁, L.filter fun x => decide (x.1 < key))).set o (hi, σ₄.length, L.filter fun x => decide (key < x.1))) E := by
    have h2 := get_new σ₄ (.list ((L.filter fun x => decide (key < x.1)).map encP))
    have u₈ := (((Up.grow g₅).trans (.set4 _ (.list (((roL S).set w (.ref n₁)).set o (.ref σ₄.length))))).trans (.set0 _ (.list ((trL S).set w (enc lo))))).trans (.set0 _ (.list (((trL S).set w (enc lo)).set o (enc hi))))
    have u₅ := ((Up.set4 (σ₄ ++ [.list ((L.filter fun x => decide (key < x.1)).map encP)]) (.list (((roL S).set w (.ref n₁)).set o (.ref σ₄.length)))).trans (.set0 _ (.list ((trL S).set w (enc lo))))).trans (.set0 _ (.list (((trL S).set w (enc lo)).set o (enc hi))))
    refine ⟨?_, ?_, ?_, by rw [List.length_set, List.length_set]; exact H.len, fun e he => ?_, fun e he => (H.elders e he).mono (u₄.trans u₈) fun _ q => q⟩
    · rw [get_set (o' := .list (((trL S).set w (enc lo)).set o (enc hi))) (get_set (o' := .list ((trL S).set w (enc lo))) ((get_ne _ (show 0 ≠ 4 by decide)).trans (g₅.get h0)))]
      rw [trL, trL, List.map_set, List.map_set]
    · rw [get_ne _ (show 4 ≠ 0 by decide), get_ne _ (show 4 ≠ 0 by decide), get_set (g₅.get h4), roL, roL, List.map_set, List.map_set]
    · rw [get_ne _ (show 5 ≠ 0 by decide), get_ne _ (show 5 ≠ 0 by decide), get_ne _ (show 5 ≠ 4 by decide)]; exact g₅.get h5
    · rcases List.mem_or_eq_of_mem_set he with he | rfl
      · rcases List.mem_or_eq_of_mem_set he with he | rfl
        · exact (H.items e he).mono (u₄.trans u₈) fun _ q => q
        · exact ⟨u₈ _ _ (fresh b2) h1, fresh b2, ⟨g1, by rw [i1]; exact hs.filter _, r1, i1⟩, hp.filter _, fun x hx => I.keys x (List.mem_filter.mp hx).1⟩
      · exact ⟨u₅ _ _ (fresh b4) h2, fresh b4, ⟨g2, by rw [i2]; exact hs.filter _, r2, i2⟩, hp.filter _, fun x hx => I.keys x (List.mem_filter.mp hx).1⟩
  rw [qbE_of (src_lst hr₄), qbE_of (filt .Gt _ (fun x => decide (key < x.1)) hr₄ zL fun x _ => rfl), qbE_of (newL_ok' (fl_len _ zL) _), qbE_of (set_lst (.ref σ₄.length) (g₅.get h4) (by rw [List.length_set, lr]; exact ho')), qbE_of (it3_0 _ _ _ _),
    qbE_of (set_lst (enc lo) ((get_ne _ (show 0 ≠ 4 by decide)).trans (g₅.get h0)) (by rw [lt]; exact hw')), qbE_of (it3_2 _ _ _ _), qbE_of (set_lst (enc hi) (get_set ((get_ne _ (show 0 ≠ 4 by decide)).trans (g₅.get h0))) (by rw [List.length_set, lt]; exact ho'))]
  generalize (((((σ₄ ++ [AO.list ((L.filter fun x => decide (key < x.1)).map encP)]).set 4 (.list (((roL S).set w (.ref n₁)).set o (.ref σ₄.length)))).set 0 (.list ((trL S).set w (enc lo)))).set 0 (.list (((trL S).set w (enc lo)).set o (enc hi))))) = σ₈ at *
  generalize σ₄.length = n₂ at *
  have zlo := Nat.le_trans (List.length_filter_le (fun x : Int × AV => decide (x.1 < key)) L) zL
  have zhi := Nat.le_trans (List.length_filter_le (fun x : Int × AV => decide (key < x.1)) L) zL
  generalize hS : (S.set w (lo, n₁, L.filter fun x => decide (x.1 < key))).set o (hi, n₂, L.filter fun x => decide (key < x.1)) = S' at *
  have lS : S'.length = S.length := by rw [← hS, List.length_set, List.length_set]
  have ew : S'[w]'(by omega) = (lo, n₁, L.filter fun x => decide (x.1 < key)) := by
    simp only [← hS]
    rw [List.getElem_set_ne (fun q => hne q.symm), List.getElem_set_self]
  have eo : S'[o]'(by omega) = (hi, n₂, L.filter fun x => decide (key < x.1)) := by
    simp only [← hS]
    rw [List.getElem_set_self]
  have Iw := h8.items _ (List.getElem_mem (show w < S'.length by omega))
  have Io := h8.items _ (List.getElem_mem (show o < S'.length by omega))
  rw [ew] at Iw
  rw [eo] at Io
  obtain ⟨σ₉, g₉, s₉⟩ := sound_ok lo _ g1 r1 i1 zlo (hp.filter _) (n := m) Iw.at_ (by omega)
  have R9 := item_at (fun e => .ref e.2.1) (show o < S'.length by omega) (g₉.get h8.rows)
  obtain ⟨σ', g', s'⟩ := sound_ok hi _ g2 r2 i2 zhi (hp.filter _) (n := m) (g₉.get Io.at_) (by omega)
  have R8 := item_at (fun e => .ref e.2.1) (show w < S'.length by omega) h8.rows
  rw [ew] at R8
  rw [eo] at R9
  refine ⟨σ', S', h8.grow (g₉.trans g'), ?_⟩
  rw [qbE_of (it3_0 _ _ _ _), qbE_of (R8), qkE_of (s₉), qbE_of (tr_bool _ _), bq_true, qbE_of (it3_2 _ _ _ _), qbE_of (R9), qkE_of (s')]
end Mine.L

/- M19 -/
set_option tactic.hygienic false
/-! Mine: the law's own statements. -/
namespace Mine.L
open PySem Tr
set_option linter.unusedVariables false
set_option maxRecDepth 100000
set_option linter.unusedSimpArgs false
set_option exponentiation.threshold 1100

noncomputable def base (sc : AV) : Loc := [("_law_script", sc), ("_law_trees", .ref 0), ("_law_rows", .ref 4), ("_law_elder", .ref 5)]
noncomputable def basec (sc v : AV) : Loc := [("_law_script", sc), ("_law_trees", .ref 0), ("_law_rows", .ref 4), ("_law_elder", .ref 5), ("_law_cell", v)]
noncomputable def basek (sc v : AV) : Loc := [("_law_script", sc), ("_law_trees", .ref 0), ("_law_rows", .ref 4), ("_law_elder", .ref 5), ("_law_k", v)]
noncomputable def lw (sc c k w o r : AV) (tail : Loc) : Loc := ("_law_script", sc) :: ("_law_trees", .ref 0) :: ("_law_rows", .ref 4) :: ("_law_elder", .ref 5) :: ("_law_cell", c) :: ("_law_kind", k) :: ("_law_which", w) :: ("_law_other", o) :: ("_law_rest", r) :: tail
noncomputable def tl2 (d r : AV) : Loc := [("_law_due_here", d), ("_law_refused", r)]
noncomputable def tl3 (d r t : AV) : Loc := [("_law_due_here", d), ("_law_refused", r), ("_law_told", t)]
noncomputable def tk (v : AV) : Loc := [("_law_k", v)]
noncomputable def TL (tail : Loc) : Prop := tail = [] ∨ (∃ d r, tail = tl2 d r) ∨ ∃ d r t, tail = tl3 d r t
noncomputable def Tl (d r : AV) (tail : Loc) : Prop := tail = tl2 d r ∨ ∃ t, tail = tl3 d r t
noncomputable def σ0 : Sto := [.list [.none, .none, .none], .list [], .list [], .list [], .list [.ref 1, .ref 2, .ref 3], .list []]
noncomputable def wh (c : Int) : Int := (c.fdiv 14).fmod 3
noncomputable def ot (c : Int) : Int := (wh c + 1 + (c.fdiv 42).fmod 2).fmod 3
noncomputable def dv (sc : AV) (c : Int) (tail : Loc) : Loc := lw sc (.int c) (.int (c.fmod 14)) (.int (wh c)) (.int (ot c)) (.int (c.fdiv 84)) tail

theorem law_K (cf : Calls) (sc : AV) : callBody PP cf "law" [sc] [] = @qb _ _ (eE AV) (srcOf sc σ0) (.mk fun s σ => sk ktO (forS (fun v l σ => restS "law" [3, 0] cf (setL "_law_cell" v l) σ) s bigN 0 (base sc) σ) fun l σ => restK "law" [4] cf l σ) := by
  kernel_rfl
theorem law_H1 (cf : Calls) (sc : AV) (c : Int) (σ : Sto) : restS "law" [3, 0] cf (basec sc (.int c)) σ = restS "law" [3, 4] cf (dv sc c []) σ := by
  kernel_rfl
theorem law_H2 (cf : Calls) (sc : AV) (c : Int) (k w o r : AV) (tail : Loc) (σ : Sto) : restS "law" [3, 0] cf (lw sc (.int c) k w o r tail) σ = restS "law" [3, 4] cf (dv sc c tail) σ := by
  kernel_rfl
theorem law_S4 (cf : Calls) (sc c k w o r : AV) (tail : Loc) (σ : Sto) : restS "law" [3, 4] cf (lw sc c k w o r tail) σ =
    @qk _ _ (ktS.e (lw sc c k w o r tail)) (@qb _ _ (eE Bool) (lenA [.ref 5] σ) (.mk fun v σ => @qb _ _ (eE Bool) (cmpop .Lt v (.int 4) σ) (.mk fun v σ => @qb _ _ (eE Bool) (truthO v σ) (.mk fun b σ => @bq _ b (.mk (@qb _ _ (eE Bool) (binop .Mod r (.int 5) σ) (.mk fun v σ => @qb _ _ (eE Bool) (cmpop .Eq v (.int 0) σ) (.mk fun v σ => @qb _ _ (eE Bool) (truthO v σ) (.mk fun b σ => @bq _ b (.mk (.ok true σ)) (.mk (.ok false σ))))))) (.mk (.ok false σ)))))) (.mk fun b σ => @bq _ b (.mk (@qb _ _ (ktS.e (lw sc c k w o r tail)) (lstR σ (.ref 5) fun _ => .ok () σ) (.mk fun _ σ => @qb _ _ (ktS.e (lw sc c k w o r tail)) (item (.ref 0) w σ) (.mk fun a σ => @qb _ _ (ktS.e (lw sc c k w o r tail)) (item (.ref 4) w σ) (.mk fun b σ => @qb _ _ (ktS.e (lw sc c k w o r tail)) (append (.ref 5) (.tup [a, b]) σ) (.mk fun _ σ => restS "law" [3, 5] cf (lw sc c k w o r tail) σ)))))) (.mk (restS "law" [3, 5] cf (lw sc c k w o r tail) σ))) := by
  kernel_rfl
theorem law_S5 (cf : Calls) (sc c k w o r : AV) (tail : Loc) (σ : Sto) : restS "law" [3, 5] cf (lw sc c k w o r tail) σ =
    @qk _ _ (ktS.e (lw sc c k w o r tail)) (@qb _ _ (eE Bool) (cmpop .Eq k (.int 13) σ) (.mk fun v σ => @qb _ _ (eE Bool) (truthO v σ) (.mk fun b σ => .ok b σ))) (.mk fun b σ => @bq _ b (.mk (@qk _ _ (ktS.e (lw sc c k w o r tail)) (@qk _ _ (eE Bool) (cf "_law_cut" [.ref 0, .ref 4, w, o, r] σ) (.mk fun v σ => @qb _ _ (eE Bool) (truthO v σ) (.mk fun b σ => .ok (!b) σ))) (.mk fun b σ => @bq _ b (.mk (.ok (.ret (.bool false)) (lw sc c k w o r tail) σ)) (.mk (.ok .next (lw sc c k w o r tail) σ))))) (.mk (restS "law" [3, 105, 0] cf (lw sc c k w o r tail) σ))) := by
  kernel_rfl
theorem law_E0 (cf : Calls) (sc c k w o r : AV) (tail : Loc) (σ : Sto) : restS "law" [3, 105, 0] cf (lw sc c k w o r tail) σ =
    @qb _ _ (ktS.e (lw sc c k w o r tail)) (item (.ref 4) w σ) (.mk fun a σ => @qb _ _ (ktS.e (lw sc c k w o r tail)) (item (.ref 4) o σ) (.mk fun b σ => @qk _ _ (ktS.e (lw sc c k w o r tail)) (cf "_law_due" [k, a, b, r] σ) (.mk fun d σ => restS "law" [3, 105, 2] cf (lw sc c k w o r (setL "_law_refused" (.bool false) (setL "_law_due_here" d tail))) σ))) := by
  kernel_rfl
theorem law_T (cf : Calls) (sc c k w o r : AV) (tail : Loc) (σ : Sto) : restS "law" [3, 105, 2] cf (lw sc c k w o r tail) σ =
    (sk ktS (tryO (restS "law" [3, 105, 2, 0] cf (lw sc c k w o r tail) σ) fun l σ => .ok .next (setL "_law_refused" (.bool true) l) σ) fun l σ => restS "law" [3, 105, 3] cf l σ) := by
  kernel_rfl
theorem law_T0 (cf : Calls) (sc c k w o r : AV) (tail : Loc) (σ : Sto) : restS "law" [3, 105, 2, 0] cf (lw sc c k w o r tail) σ =
    @qb _ _ (ktS.e (lw sc c k w o r tail)) (item (.ref 0) w σ) (.mk fun a σ => @qb _ _ (ktS.e (lw sc c k w o r tail)) (item (.ref 0) o σ) (.mk fun b σ => @qk _ _ (ktS.e (lw sc c k w o r tail)) (cf "_law_done" [k, a, b, r] σ) (.mk fun v σ => .ok .next (lw sc c k w o r (setL "_law_told" v tail)) σ))) := by
  kernel_rfl
theorem law_S3 (cf : Calls) (sc c k w o r : AV) {d rf : AV} {tail : Loc} (h : Tl d rf tail) (σ : Sto) : restS "law" [3, 105, 3] cf (lw sc c k w o r tail) σ =
    @qk _ _ (ktS.e (lw sc c k w o r tail)) (@qb _ _ (eE Bool) (cmpop .Is d .none σ) (.mk fun v σ => @qb _ _ (eE Bool) (cmpop .NotEq rf v σ) (.mk fun v σ => @qb _ _ (eE Bool) (truthO v σ) (.mk fun b σ => .ok b σ)))) (.mk fun b σ => @bq _ b (.mk (.ok (.ret (.bool false)) (lw sc c k w o r tail) σ)) (.mk (restS "law" [3, 105, 4] cf (lw sc c k w o r tail) σ))) := by
  rcases h with rfl | ⟨t, rfl⟩ <;> kernel_rfl
theorem law_S4r (cf : Calls) (sc c k w o r : AV) {d : AV} {tail : Loc} (h : Tl d (.bool true) tail) (σ : Sto) : restS "law" [3, 105, 4] cf (lw sc c k w o r tail) σ = .ok .next (lw sc c k w o r tail) σ := by
  rcases h with rfl | ⟨t, rfl⟩ <;> kernel_rfl
theorem law_S4d (cf : Calls) (sc c k w o r d t : AV) (σ : Sto) : restS "law" [3, 105, 4] cf (lw sc c k w o r (tl3 d (.bool false) t)) σ =
    @qk _ _ (ktS.e (lw sc c k w o r (tl3 d (.bool false) t))) (@qb _ _ (eE Bool) (lenA [d] σ) (.mk fun v σ => @qb _ _ (eE Bool) (cmpop .Lt v (.int 24) σ) (.mk fun v σ => @qb _ _ (eE Bool) (truthO v σ) (.mk fun b σ => @bq _ b (.mk (@qk _ _ (eE Bool) (cf "_law_sound" [t, d] σ) (.mk fun v σ => @qb _ _ (eE Bool) (truthO v σ) (.mk fun b σ => @bq _ (!b) (.mk (.ok true σ)) (.mk (.ok false σ)))))) (.mk (.ok false σ)))))) (.mk fun b σ => @bq _ b (.mk (.ok (.ret (.bool false)) (lw sc c k w o r (tl3 d (.bool false) t)) σ)) (.mk (@qb _ _ (ktS.e (lw sc c k w o r (tl3 d (.bool false) t))) (setItem (.ref 0) w t σ) (.mk fun _ σ => @qb _ _ (ktS.e (lw sc c k w o r (tl3 d (.bool false) t))) (setItem (.ref 4) w d σ) (.mk fun _ σ => .ok .next (lw sc c k w o r (tl3 d (.bool false) t)) σ))))) := by
  kernel_rfl
/-- the names at the end of the loop -/
noncomputable def LawL (sc : AV) (l : Loc) : Prop := l = base sc ∨ ∃ c k w o r tail, l = lw sc c k w o r tail ∧ TL tail
noncomputable def LawK (sc v : AV) (l : Loc) : Prop := l = basek sc v ∨ ∃ c k w o r tail, l = lw sc c k w o r (tail ++ tk v) ∧ TL tail
theorem law_R4 (cf : Calls) {sc : AV} {l : Loc} (h : LawL sc l) (σ : Sto) : restK "law" [4] cf l σ = sk ktO (forS (fun v l σ => restS "law" [4, 0] cf (setL "_law_k" v l) σ) (.items [.int 0, .int 1, .int 2]) bigN 0 l σ) fun l σ => restK "law" [5] cf l σ := by
  rcases h with rfl | ⟨c, k, w, o, r, tail, rfl, rfl | ⟨d, e, rfl⟩ | ⟨d, e, t, rfl⟩⟩ <;> kernel_rfl
theorem law_B4 (cf : Calls) {sc v : AV} {l : Loc} (h : LawK sc v l) (σ : Sto) : restS "law" [4, 0] cf l σ =
    @qb _ _ (ktS.e l) (lstR σ (.ref 5) fun _ => .ok () σ) (.mk fun _ σ => @qb _ _ (ktS.e l) (item (.ref 0) v σ) (.mk fun a σ => @qb _ _ (ktS.e l) (item (.ref 4) v σ) (.mk fun b σ => @qb _ _ (ktS.e l) (append (.ref 5) (.tup [a, b]) σ) (.mk fun _ σ => .ok .next l σ)))) := by
  rcases h with rfl | ⟨c, k, w, o, r, tail, rfl, rfl | ⟨d, e, rfl⟩ | ⟨d, e, t, rfl⟩⟩ <;> kernel_rfl
theorem law_R5 (cf : Calls) {sc v : AV} {l : Loc} (h : LawK sc v l) (σ : Sto) : restK "law" [5] cf l σ =
    @qb _ _ (eE AV) (srcOf (.ref 5) σ) (.mk fun s σ => @qb _ _ (eE AV) (cpS (fun x σ => @qb _ _ (eE (Option AV)) (item x (.int 0) σ) (.mk fun a σ => @qb _ _ (eE (Option AV)) (item x (.int 1) σ) (.mk fun b σ => @qk _ _ (eE (Option AV)) (cf "_law_sound" [a, b] σ) (.mk fun v σ => .ok (some v) σ)))) s bigN 0 [] σ) (.mk fun xs σ => @qb _ _ (eE AV) (newL xs σ) (.mk fun v σ => @qb _ _ (eE AV) (newL [.bool true] σ) (.mk fun u σ => @qb _ _ (eE AV) (lenA [.ref 5] σ) (.mk fun n σ => @qb _ _ (eE AV) (binop .Mult u n σ) (.mk fun u σ => @qb _ _ (eE AV) (cmpop .Eq v u σ) (.mk fun v σ => .ok v σ))))))) := by
  rcases h with rfl | ⟨c, k, w, o, r, tail, rfl, rfl | ⟨d, e, rfl⟩ | ⟨d, e, t, rfl⟩⟩ <;> kernel_rfl
end Mine.L

/- M20 -/
set_option tactic.hygienic false
/-! Mine: the law. -/
namespace Mine.L
open PySem Tr
set_option linter.unusedVariables false
set_option maxRecDepth 100000
set_option linter.unusedSimpArgs false
set_option exponentiation.threshold 1100

theorem qkS {α : Type} (l : Loc) (a : α) (σ : Sto) (f : α → Sto → OutS) : @qk _ _ (ktS.e l) (.ok a σ) (.mk f) = f a σ := rfl
theorem neB (a b : Bool) (σ : Sto) : cmpop .NotEq (.bool a) (.bool b) σ = .ok (.bool (!(a == b))) σ := by
  show Out.ok (AV.bool (!PyData.eqv (.bool a) (.bool b))) σ = _
  simp only [PyData.eqv]

section
variable {sc : AV} {σ : Sto} {K : List Int} {S E : List Ent} {c : Int} {tail : Loc} {w o m : Nat}
/-- the elder -/
theorem turn_elder (H : St σ K S E) (hE : E.length ≤ 4) (cf : Calls) (hw : wh c = w) (hw3 : w < 3) (tail : Loc) : ∃ σ' E', St σ' K S E' ∧ E'.length ≤ 4 ∧ restS "law" [3, 4] cf (dv sc c tail) σ = restS "law" [3, 5] cf (dv sc c tail) σ' := by
  have lw' : w < S.length := by rw [H.len]; exact hw3
  unfold dv
  rw [law_S4, qbE_of (len_lst H.elder), qbE_of (cmp_lt _ _ _), qbE_of (tr_bool _ _), qbE_of (b_mod _ 5 σ (by decide)), qbE_of (cmp_eq _ _ _), qbE_of (tr_bool _ _), List.length_map]
  by_cases h : (E.length : Int) < 4 ∧ (c.fdiv 84).fmod 5 = 0
  · refine ⟨σ.set 5 (.list (elL E ++ [.tup [enc S[w].1, .ref S[w].2.1]])), E ++ [S[w]], ?_, by rw [List.length_append]; simp only [List.length_cons, List.length_nil]; omega, ?_⟩
    rotate_left
    · rw [decide_eq_true h.1, bq_true, decide_eq_true h.2, bq_true, qkS, bq_true, qbS_of (lstR_ok H.elder _), hw, qbS_of (item_at (fun e => enc e.1) lw' H.trees), qbS_of (item_at (fun e => .ref e.2.1) lw' H.rows), qbS_of (append_ok _ H.elder (by rw [List.length_map]; unfold bigN; omega))]
    · refine ⟨(get_ne _ (show 0 ≠ 5 by decide)).trans H.trees, (get_ne _ (show 4 ≠ 5 by decide)).trans H.rows, (get_set H.elder).trans (by rw [elL, elL, List.map_append]; rfl), H.len, fun e he => (H.items e he).mono (.set5 _ _) fun _ q => q, fun e he => ?_⟩
      rcases List.mem_append.mp he with he | he
      · exact (H.elders e he).mono (.set5 _ _) fun _ q => q
      · rw [List.mem_singleton.mp he]; exact (H.items _ (List.getElem_mem _)).mono (.set5 _ _) fun _ q => q
  · refine ⟨σ, E, H, hE, ?_⟩
    by_cases h1 : (E.length : Int) < 4
    · have h2 : ¬ (c.fdiv 84).fmod 5 = 0 := fun q => h ⟨h1, q⟩
      rw [decide_eq_true h1, bq_true, decide_eq_false h2, bq_false, qkS, bq_false]
    · rw [decide_eq_false h1, bq_false, qkS, bq_false]

/-- a cell of any kind -/
theorem turn_kind (H : St σ K S E) (hm : 93 ≤ m) (hc : Bit c) (hK : K.length ≤ 3717) (hw : wh c = w) (ho : ot c = o) (hw3 : w < 3) (ho3 : o < 3) (hne : w ≠ o) (ht : TL tail) :
    ∃ tail' σ' K' S', TL tail' ∧ St σ' K' S' E ∧ K'.length ≤ K.length + 59 ∧ restS "law" [3, 5] (callN PP (m + 1)) (dv sc c tail) σ = .ok .next (dv sc c tail') σ' := by
  have lw' : w < S.length := by rw [H.len]; exact hw3
  have lo' : o < S.length := by rw [H.len]; exact ho3
  unfold dv
  rw [law_S5, qbE_of (cmp_eq _ _ _), qbE_of (tr_bool _ _), qkS, hw, ho]
  by_cases h13 : c.fmod 14 = 13
  · obtain ⟨σ', S', H', e⟩ := cut_ok H hw3 ho3 hne (c.fdiv 84) hm (by omega)
    refine ⟨tail, σ', K, S', ht, H', by omega, ?_⟩
    rw [decide_eq_true h13, bq_true, qkE_of (e), qbE_of (tr_bool _ _), qkS]
    rfl
  · rw [decide_eq_false h13, bq_false, law_E0]
    have Iw := H.items _ (List.getElem_mem lw')
    have Io := H.items _ (List.getElem_mem lo')
    have zw := Iw.len
    have zo := Io.len
    obtain ⟨D, ks, k1, k2, hdue, hdone⟩ := deed_ok (κ := c.fmod 14) (c := c.fdiv 84) (by have := fmod_hi c (b := 14) (by decide); omega) (hc.div (by decide)) Iw.fit Io.fit Iw.plain (by omega)
    rw [qbS_of (item_at (fun e => .ref e.2.1) lw' H.rows), qbS_of (item_at (fun e => .ref e.2.1) lo' H.rows)]
    have hd := hdue m σ S[w].2.1 S[o].2.1 hm Iw.at_ Io.at_
    have trs : ∀ σ', Grow σ σ' → ∀ nx, restS "law" [3, 105, 2, 0] (callN PP (m + 1)) (lw sc (.int c) (.int (c.fmod 14)) (.int (w : Int)) (.int (o : Int)) (.int (c.fdiv 84)) nx) σ' =
        @qk _ _ (ktS.e (lw sc (.int c) (.int (c.fmod 14)) (.int (w : Int)) (.int (o : Int)) (.int (c.fdiv 84)) nx)) (callN PP (m + 1) "_law_done" [.int (c.fmod 14), enc S[w].1, enc S[o].1, .int (c.fdiv 84)] σ') (.mk fun v σ => .ok .next (lw sc (.int c) (.int (c.fmod 14)) (.int (w : Int)) (.int (o : Int)) (.int (c.fdiv 84)) (setL "_law_told" v nx)) σ) := fun σ' g nx => by
      rw [law_T0, qbS_of (item_at (fun e => enc e.1) lw' (g.get H.trees)), qbS_of (item_at (fun e => enc e.1) lo' (g.get H.trees))]
    cases D with
    | none =>
      obtain ⟨σ₁, g₁, e₁⟩ := hd
      obtain ⟨σ₂, g₂, x, e₂⟩ := hdone m σ₁ hm
      rw [qkS_of (e₁), law_T, trs σ₁ g₁, e₂]
      have hT : Tl .none (.bool true) (setL "_law_refused" (.bool true) (setL "_law_refused" (.bool false) (setL "_law_due_here" .none tail))) := by
        rcases ht with rfl | ⟨d, r, rfl⟩ | ⟨d, r, t, rfl⟩
        · exact .inl rfl
        · exact .inl rfl
        · exact .inr ⟨_, rfl⟩
      refine ⟨setL "_law_refused" (.bool true) (setL "_law_refused" (.bool false) (setL "_law_due_here" .none tail)), σ₂, K, S, ?_, H.grow (g₁.trans g₂), by omega, ?_⟩
      rotate_left
      · show restS "law" [3, 105, 3] (callN PP (m + 1)) (lw sc (.int c) (.int (c.fmod 14)) (.int (w : Int)) (.int (o : Int)) (.int (c.fdiv 84)) (setL "_law_refused" (.bool true) (setL "_law_refused" (.bool false) (setL "_law_due_here" .none tail)))) σ₂ = _
        rw [law_S3 _ _ _ _ _ _ _ hT, qbE_of (cmp_is _ _), qbE_of (neB _ _ _), qbE_of (tr_bool _ _), qkS]
        show restS "law" [3, 105, 4] _ _ _ = _
        rw [law_S4r _ _ _ _ _ _ _ hT]
      · rcases hT with q | ⟨t, q⟩
        · exact .inr (.inl ⟨_, _, q⟩)
        · exact .inr (.inr ⟨_, _, _, q⟩)
    | some N =>
      obtain ⟨σ₁, q, g₁, ⟨hq1, hq2⟩, e₁⟩ := hd
      obtain ⟨σ₂, g₂, t, e₂, ft⟩ := hdone m σ₁ hm
      have hN := k2 N rfl
      have hT : setL "_law_told" (enc t) (setL "_law_refused" (.bool false) (setL "_law_due_here" (.ref q) tail)) = tl3 (.ref q) (.bool false) (enc t) := by
        rcases ht with rfl | ⟨d, r, rfl⟩ | ⟨d, r, t, rfl⟩ <;> rfl
      have b5 := H.big
      have It : ∀ σ', Grow σ₂ σ' → Item σ' (K ++ ks) (t, q, N) := fun σ' g => by
        refine ⟨g.get (g₂.get hq2), fresh (Nat.lt_of_lt_of_le b5 hq1), ft, fun x hx => ?_, fun x hx => ?_⟩
        · rcases hN x hx with h | h | h
          · exact Iw.plain x h
          · exact Io.plain x h
          · exact h.2
        · rcases hN x hx with h | h | h
          · exact List.mem_append_left _ (Iw.keys x h)
          · exact List.mem_append_left _ (Io.keys x h)
          · exact List.mem_append_right _ h.1
      have zN := (It σ₂ (.refl _)).len
      rw [List.length_append] at zN
      rw [qkS_of (e₁), law_T, trs σ₁ g₁, qkS_of (e₂), hT]
      have cond : ∃ σ₃, Grow σ₂ σ₃ ∧ restS "law" [3, 105, 4] (callN PP (m + 1)) (lw sc (.int c) (.int (c.fmod 14)) (.int (w : Int)) (.int (o : Int)) (.int (c.fdiv 84)) (tl3 (.ref q) (.bool false) (enc t))) σ₂ =
          @qb _ _ (ktS.e (lw sc (.int c) (.int (c.fmod 14)) (.int (w : Int)) (.int (o : Int)) (.int (c.fdiv 84)) (tl3 (.ref q) (.bool false) (enc t)))) (setItem (.ref 0) (.int (w : Int)) (enc t) σ₃) (.mk fun _ σ =>
          @qb _ _ (ktS.e (lw sc (.int c) (.int (c.fmod 14)) (.int (w : Int)) (.int (o : Int)) (.int (c.fdiv 84)) (tl3 (.ref q) (.bool false) (enc t)))) (setItem (.ref 4) (.int (w : Int)) (.ref q) σ) (.mk fun _ σ => .ok .next (lw sc (.int c) (.int (c.fmod 14)) (.int (w : Int)) (.int (o : Int)) (.int (c.fdiv 84)) (tl3 (.ref q) (.bool false) (enc t))) σ)) := by
        rw [law_S4d, qbE_of (len_lst (g₂.get hq2)), qbE_of (cmp_lt _ _ _), qbE_of (tr_bool _ _), List.length_map]
        by_cases h24 : (N.length : Int) < 24
        · obtain ⟨σ₃, g₃, e₃⟩ := sound_ok t N ft.good ft.red ft.io (by omega) (It σ₂ (.refl _)).plain (n := m + 1) (g₂.get hq2) (by omega)
          refine ⟨σ₃, g₃, ?_⟩
          rw [decide_eq_true h24, bq_true, qkE_of (e₃), qbE_of (tr_bool _ _), Bool.not_true, bq_false, qkS, bq_false]
        · refine ⟨σ₂, .refl _, ?_⟩
          rw [decide_eq_false h24, bq_false, qkS, bq_false]
      obtain ⟨σ₃, g₃, e₃⟩ := cond
      have H₃ := H.grow (g₁.trans (g₂.trans g₃))
      refine ⟨tl3 (.ref q) (.bool false) (enc t), (σ₃.set 0 (.list ((trL S).set w (enc t)))).set 4 (.list ((roL S).set w (.ref q))), K ++ ks, S.set w (t, q, N), .inr (.inr ⟨_, _, _, rfl⟩), ?_, by rw [List.length_append]; omega, ?_⟩
      rotate_left
      · show restS "law" [3, 105, 3] (callN PP (m + 1)) (lw sc (.int c) (.int (c.fmod 14)) (.int (w : Int)) (.int (o : Int)) (.int (c.fdiv 84)) (tl3 (.ref q) (.bool false) (enc t))) σ₂ = _
        rw [law_S3 _ _ _ _ _ _ _ (.inr ⟨_, rfl⟩), qbE_of (cmp_is _ _), qbE_of (neB _ _ _), qbE_of (tr_bool _ _), qkS, show (!(false == isNone (.ref q))) = false from rfl, bq_false, e₃, qbS_of (set_lst _ H₃.trees (by rw [List.length_map]; exact lw')), qbS_of (set_lst _ ((get_ne _ (show 4 ≠ 0 by decide)).trans H₃.rows) (by rw [List.length_map]; exact lw'))]
      · have u := (Up.set0 σ₃ (.list ((trL S).set w (enc t)))).trans (.set4 _ (.list ((roL S).set w (.ref q))))
        refine ⟨?_, ?_, ?_, by rw [List.length_set]; exact H.len, fun e he => ?_, fun e he => (H₃.elders e he).mono u fun _ h => List.mem_append_left _ h⟩
        · rw [get_ne _ (show 0 ≠ 4 by decide), get_set H₃.trees, trL, trL, List.map_set]
        · rw [get_set ((get_ne _ (show 4 ≠ 0 by decide)).trans H₃.rows), roL, roL, List.map_set]
        · rw [get_ne _ (show 5 ≠ 4 by decide), get_ne _ (show 5 ≠ 0 by decide)]; exact H₃.elder
        · rcases List.mem_or_eq_of_mem_set he with he | rfl
          · exact (H₃.items e he).mono u fun _ h => List.mem_append_left _ h
          · exact (It σ₃ g₃).mono u fun _ h => h
end
end Mine.L

/- M21 -/
set_option tactic.hygienic false
/-! Mine: the law answers True. -/
namespace Mine.L
open PySem Tr
set_option linter.unusedVariables false
set_option maxRecDepth 100000
set_option linter.unusedSimpArgs false
set_option exponentiation.threshold 1100

section
variable {sc : AV} {σ : Sto} {K : List Int} {S E : List Ent} {c : Int} {l : Loc} {m : Nat}
theorem law_turn (H : St σ K S E) (hE : E.length ≤ 4) (hm : 93 ≤ m) (hc : Bit c) (hK : K.length ≤ 3717) (hl : LawL sc l) :
    ∃ l' σ' K' S' E', LawL sc l' ∧ St σ' K' S' E' ∧ K'.length ≤ K.length + 59 ∧ E'.length ≤ 4 ∧ restS "law" [3, 0] (callN PP (m + 1)) (setL "_law_cell" (.int c) l) σ = .ok .next l' σ' := by
  obtain ⟨tail, ht, e₀⟩ : ∃ tail, TL tail ∧ restS "law" [3, 0] (callN PP (m + 1)) (setL "_law_cell" (.int c) l) σ = restS "law" [3, 4] (callN PP (m + 1)) (dv sc c tail) σ := by
    rcases hl with rfl | ⟨c', k, w, o, r, tail, rfl, ht⟩
    · exact ⟨[], .inl rfl, law_H1 _ _ _ _⟩
    · exact ⟨tail, ht, law_H2 _ _ _ _ _ _ _ _ _⟩
  have w0 : 0 ≤ wh c := fmod_lo _ (by decide)
  have w1 : wh c < 3 := fmod_hi _ (by decide)
  have b0 := fmod_lo (c.fdiv 42) (b := 2) (by decide)
  have b1 := fmod_hi (c.fdiv 42) (b := 2) (by decide)
  have o2 : ot c = (wh c + 1 + (c.fdiv 42).fmod 2) % 3 := Int.fmod_eq_emod_of_nonneg _ (by decide)
  obtain ⟨w, hw⟩ : ∃ w : Nat, wh c = w := ⟨(wh c).toNat, by omega⟩
  obtain ⟨o, ho⟩ : ∃ o : Nat, ot c = o := ⟨(ot c).toNat, by omega⟩
  obtain ⟨σ₁, E', H₁, hE', e₁⟩ := turn_elder (sc := sc) (c := c) H hE (callN PP (m + 1)) hw (by omega) tail
  obtain ⟨tail', σ', K', S', ht', H', hK', e'⟩ := turn_kind (sc := sc) H₁ hm hc hK hw ho (by omega) (by omega) (by omega) ht
  exact ⟨dv sc c tail', σ', K', S', E', .inr ⟨_, _, _, _, _, tail', rfl, ht'⟩, H', hK', hE', by rw [e₀, e₁, e']⟩

theorem law_loop (hm : 93 ≤ m) : ∀ (ns : List Int) (j : Nat) {l : Loc} {σ : Sto} {K : List Int} {S E : List Ent}, (∀ x ∈ ns, Bit x) → ns.length + j ≤ 63 → K.length ≤ 59 * j → St σ K S E → E.length ≤ 4 → LawL sc l →
    ∃ l' σ' K' S' E', LawL sc l' ∧ St σ' K' S' E' ∧ K'.length ≤ 3717 ∧ E'.length ≤ 4 ∧ forItems (fun v l σ => restS "law" [3, 0] (callN PP (m + 1)) (setL "_law_cell" v l) σ) (ns.map .int) l σ = .ok .next l' σ'
  | [], j, l, σ, K, S, E, _, hz, hK, H, hE, hl => ⟨l, σ, K, S, E, hl, H, by omega, hE, rfl⟩
  | c :: ns, j, l, σ, K, S, E, hb, hz, hK, H, hE, hl => by
    rw [List.length_cons] at hz
    obtain ⟨l₁, σ₁, K₁, S₁, E₁, hl₁, H₁, hK₁, hE₁, e₁⟩ := law_turn H hE hm (hb c (.head _)) (by omega) hl
    obtain ⟨l₂, σ₂, K₂, S₂, E₂, hl₂, H₂, hK₂, hE₂, e₂⟩ := law_loop hm ns (j + 1) (fun x hx => hb x (.tail _ hx)) (by omega) (by omega) H₁ hE₁ hl₁
    refine ⟨l₂, σ₂, K₂, S₂, E₂, hl₂, H₂, hK₂, hE₂, ?_⟩
    show andThen (restS "law" [3, 0] (callN PP (m + 1)) (setL "_law_cell" (.int c) l) σ) _ = _
    rw [e₁]
    exact e₂

noncomputable def QL (sc : AV) (l : Loc) : Prop := LawL sc l ∨ ∃ v, LawK sc v l
theorem QL.k {v : AV} (h : QL sc l) : LawK sc v (setL "_law_k" v l) := by
  rcases h with (rfl | ⟨c, k, w, o, r, tail, rfl, rfl | ⟨d, e, rfl⟩ | ⟨d, e, t, rfl⟩⟩) | ⟨u, rfl | ⟨c, k, w, o, r, tail, rfl, rfl | ⟨d, e, rfl⟩ | ⟨d, e, t, rfl⟩⟩⟩
  · exact .inl rfl
  · exact .inr ⟨_, _, _, _, _, [], rfl, .inl rfl⟩
  · exact .inr ⟨_, _, _, _, _, tl2 d e, rfl, .inr (.inl ⟨_, _, rfl⟩)⟩
  · exact .inr ⟨_, _, _, _, _, tl3 d e t, rfl, .inr (.inr ⟨_, _, _, rfl⟩)⟩
  · exact .inl rfl
  · exact .inr ⟨_, _, _, _, _, [], rfl, .inl rfl⟩
  · exact .inr ⟨_, _, _, _, _, tl2 d e, rfl, .inr (.inl ⟨_, _, rfl⟩)⟩
  · exact .inr ⟨_, _, _, _, _, tl3 d e t, rfl, .inr (.inr ⟨_, _, _, rfl⟩)⟩
theorem fin_turn (H : St σ K S E) (hE : E.length ≤ 10) {k : Nat} (hk : k < 3) (h : QL sc l) (cf : Calls) :
    ∃ l' σ' E', LawK sc (.int (k : Int)) l' ∧ St σ' K S E' ∧ E'.length = E.length + 1 ∧ restS "law" [4, 0] cf (setL "_law_k" (.int (k : Int)) l) σ = .ok .next l' σ' := by
  have lk : k < S.length := by rw [H.len]; exact hk
  refine ⟨_, σ.set 5 (.list (elL E ++ [.tup [enc S[k].1, .ref S[k].2.1]])), E ++ [S[k]], h.k, ?_, by rw [List.length_append]; rfl, ?_⟩
  · refine ⟨(get_ne _ (show 0 ≠ 5 by decide)).trans H.trees, (get_ne _ (show 4 ≠ 5 by decide)).trans H.rows, (get_set H.elder).trans (by rw [elL, elL, List.map_append]; rfl), H.len, fun e he => (H.items e he).mono (.set5 _ _) fun _ q => q, fun e he => ?_⟩
    rcases List.mem_append.mp he with he | he
    · exact (H.elders e he).mono (.set5 _ _) fun _ q => q
    · rw [List.mem_singleton.mp he]; exact (H.items _ (List.getElem_mem _)).mono (.set5 _ _) fun _ q => q
  · rw [law_B4 cf h.k, qbS_of (lstR_ok H.elder _), qbS_of (item_at (fun e => enc e.1) lk H.trees), qbS_of (item_at (fun e => .ref e.2.1) lk H.rows), qbS_of (append_ok _ H.elder (by rw [List.length_map]; unfold bigN; omega))]

theorem mul_true {u n : Nat} (h : σ[u]? = some (.list [.bool true])) (hn : n ≤ 100) : binop .Mult (.ref u) (.int (n : Int)) σ = .ok (.ref σ.length) (σ ++ [.list (List.replicate n (.bool true))]) := by
  show lstR _ (.ref _) _ = _
  rw [lstR_ok h]
  show (bif Nat.ble 1 1 && decide (0 ≤ (n : Int)) && decide ((n : Int) ≤ 100) then _ else _) = _
  rw [decide_eq_true (by omega), decide_eq_true (by omega)]
  show newL (List.replicate (n : Int).toNat [AV.bool true]).flatten _ = _
  rw [Int.toNat_natCast, List.flatten_replicate_singleton, newL_ok' (by rw [List.length_replicate]; unfold bigN; omega)]
theorem law_end (H : St σ K S E) (hE : E.length ≤ 10) (hK : K.length ≤ 3717) (hm : 40 ≤ m) {v : AV} (h : LawK sc v l) : ∃ σ', restK "law" [5] (callN PP m) l σ = .ok (.bool true) σ' := by
  obtain ⟨σ₁, g₁, e₁⟩ := cp_lst (fun _ => some (.bool true)) (elt := fun x σ => @qb _ _ (eE (Option AV)) (item x (.int 0) σ) (.mk fun a σ => @qb _ _ (eE (Option AV)) (item x (.int 1) σ) (.mk fun b σ => @qk _ _ (eE (Option AV)) (callN PP m "_law_sound" [a, b] σ) (.mk fun v σ => .ok (some v) σ)))) H.elder (fun v hv σ' g => by
    obtain ⟨e, he, rfl⟩ := List.mem_map.mp hv
    have I := H.elders e he
    obtain ⟨σ'', g'', e''⟩ := sound_ok e.1 e.2.2 I.fit.good I.fit.red I.fit.io (Nat.le_trans I.len (by omega)) I.plain (n := m) (g.get I.at_) hm
    exact ⟨σ'', g'', by rw [qbE_of (it2_0 _ _ _), qbE_of (it2_1 _ _ _), qkE_of (e'')]⟩) (by rw [List.length_map]; unfold bigN; omega)
  have hx : (elL E).filterMap (fun _ => some (AV.bool true)) = List.replicate E.length (.bool true) := by
    rw [congrFun (List.filterMap_eq_map' (f := fun _ : AV => AV.bool true)) _, List.map_const', List.length_map]
  have hlen : (List.replicate E.length (AV.bool true)).length ≤ bigN := by rw [List.length_replicate]; unfold bigN; omega
  have hel := g₁.get H.elder
  have g₂ := Grow.app σ₁ [.list (List.replicate E.length (AV.bool true))]
  have g₃ := Grow.app (σ₁ ++ [.list (List.replicate E.length (AV.bool true))]) [.list [.bool true]]
  apply Exists.intro
  rw [law_R5 _ h, qbE_of (src_lst H.elder), qbE_of (e₁), hx, qbE_of (newL_ok' hlen _), qbE_of (newL_ok' (by simp [bigN]) _), qbE_of (len_lst (g₃.get (g₂.get hel))), List.length_map, qbE_of (mul_true (get_new _ _) (by omega)), cmpEq, eqv_seq (fun x hx => by rw [List.eq_of_mem_replicate hx]; exact .bool _ _) (Grow.get (.app _ _) (g₃.get (get_new _ _))) (get_new _ _), optR_some, qbE_ok]
end

theorem leaf_item (q : Nat) (h : q ≠ 0 ∧ q ≠ 4 ∧ q ≠ 5) (hq : σ0[q]? = some (.list [])) : Item σ0 [] (.leaf, q, []) := ⟨hq, h, ⟨⟨trivial, 0, rfl⟩, .nil, rfl, rfl⟩, fun _ h => (nomatch h), fun _ h => (nomatch h)⟩
theorem st0 : St σ0 [] [(.leaf, 1, []), (.leaf, 2, []), (.leaf, 3, [])] [] := by
  refine ⟨rfl, rfl, rfl, rfl, fun e he => ?_, fun e he => (nomatch he)⟩
  simp only [List.mem_cons, List.not_mem_nil, or_false] at he
  rcases he with rfl | rfl | rfl <;> exact leaf_item _ (by decide) rfl

theorem law_ok (ns : List Int) (hz : ns.length ≤ 63) (hb : ∀ x ∈ ns, Bit x) : ∃ σ', callN PP 100 "law" [scr ns] [] = .ok (.bool true) σ' := by
  obtain ⟨l₁, σ₁, K₁, S₁, E₁, hl₁, H₁, hK₁, hE₁, e₁⟩ := law_loop (sc := scr ns) (m := 98) (by decide) ns 0 hb (by omega) (Nat.zero_le _) st0 (Nat.zero_le _) (.inl rfl)
  obtain ⟨l₂, σ₂, E₂, hl₂, H₂, hE₂, e₂⟩ := fin_turn (k := 0) H₁ (by omega) (by decide) (.inl hl₁) (callN PP 99)
  obtain ⟨l₃, σ₃, E₃, hl₃, H₃, hE₃, e₃⟩ := fin_turn (k := 1) H₂ (by omega) (by decide) (.inr ⟨_, hl₂⟩) (callN PP 99)
  obtain ⟨l₄, σ₄, E₄, hl₄, H₄, hE₄, e₄⟩ := fin_turn (k := 2) H₃ (by omega) (by decide) (.inr ⟨_, hl₃⟩) (callN PP 99)
  obtain ⟨σ', e'⟩ := law_end (m := 99) H₄ (by omega) hK₁ (by decide) hl₄
  refine ⟨σ', ?_⟩
  have hs : srcOf (scr ns) σ0 = .ok (.items (ns.map .int)) σ0 := rfl
  rw [cN, law_K, qbE_of (hs), forS_all _ _ _ (by rw [List.length_map]; unfold bigN; omega), e₁, skn, law_R4 _ hl₁, forS_all _ _ _ (by decide +kernel)]
  have hf : forItems (fun v l σ => restS "law" [4, 0] (callN PP 99) (setL "_law_k" v l) σ) [.int 0, .int 1, .int 2] l₁ σ₁ = .ok .next l₄ σ₄ := by
    show andThen (restS "law" [4, 0] (callN PP 99) (setL "_law_k" (.int ((0 : Nat) : Int)) l₁) σ₁) _ = _
    rw [e₂]
    show andThen (restS "law" [4, 0] (callN PP 99) (setL "_law_k" (.int ((1 : Nat) : Int)) l₂) σ₂) _ = _
    rw [e₃]
    show andThen (restS "law" [4, 0] (callN PP 99) (setL "_law_k" (.int ((2 : Nat) : Int)) l₃) σ₃) _ = _
    rw [e₄]; rfl
  rw [hf, skn, e']
end Mine.L

/- B1 -/
set_option tactic.hygienic false
namespace Mine
open PySem PySem.Calls PyProof.Rows
theorem lookup_zip : ∀ (ps : List Str) (vs : List Value), vs.length = ps.length → ∀ n ∈ ps, ((ps.zip vs).lookup n).isNone = false
  | [], _, _, _, h => by simp at h
  | p :: ps, [], h, _, _ => by simp at h
  | p :: ps, v :: vs, h, n, hn => by
    rw [List.zip_cons_cons, List.lookup_cons]
    cases q : n == p with
    | true => rfl
    | false =>
      rcases List.mem_cons.mp hn with e | hn
      · rw [e] at q; simp at q
      · exact lookup_zip ps vs (by simpa using h) n hn
theorem List.filterMap_congr' {α β : Type} {f g : α → Option β} : ∀ {l : List α}, (∀ x ∈ l, f x = g x) → l.filterMap f = l.filterMap g
  | [], _ => rfl
  | x :: r, h => by
    rw [List.filterMap_cons, List.filterMap_cons, h x (.head _), List.filterMap_congr' fun y hy => h y (.tail _ hy)]
theorem lookup_none_zip : ∀ (ps : List Str) (vs : List Value) (n : Str), n ∉ ps → (ps.zip vs).lookup n = none
  | [], _, _, _ => by simp
  | p :: ps, [], _, _ => by simp
  | p :: ps, v :: vs, n, h => by
    rw [List.mem_cons, not_or] at h
    rw [List.zip_cons_cons, List.lookup_cons, show (n == p) = false by simpa using h.1]
    exact lookup_none_zip ps vs n h.2
theorem zip_back : ∀ (ps : List Str) (vs : List Value), vs.length = ps.length → ps.Nodup → ps.filterMap (fun n => ((ps.zip vs).lookup n).map (n, ·)) = ps.zip vs
  | [], _, _, _ => by simp
  | p :: ps, [], h, _ => by simp at h
  | p :: ps, v :: vs, h, hd => by
    rw [List.nodup_cons] at hd
    rw [List.zip_cons_cons, List.filterMap_cons, List.lookup_cons]
    simp only [beq_self_eq_true, Option.map_some]
    congr 1
    rw [← zip_back ps vs (by simpa using h) hd.2]
    apply List.filterMap_congr'
    intro n hn
    rw [List.lookup_cons]
    have : (n == p) = false := by
      cases q : n == p with
      | false => rfl
      | true => exact absurd (beq_iff_eq.mp q ▸ hn) hd.1
    rw [this, zip_back ps vs (by simpa using h) hd.2]
theorem bind_plain {name : Str} {params : Arguments} {body : List Stmt} {scope : Scope} {pm cd doc : Value} (h1 : params.posonlyargs = []) (h2 : params.kwonlyargs = []) (h3 : params.vararg = none) (h4 : params.kwarg = none)
    (hnd : (params.args.map (·.arg)).Nodup) (vals : List Value) (hl : vals.length = params.args.length) : bindArgs (docDef name params body scope pm cd doc) ⟨vals, []⟩ = pure ((params.args.map (·.arg)).zip vals) := by
  obtain ⟨po, ar, va, kwo, kd, kwa, df⟩ := params
  simp only at h1 h2 h3 h4 hl hnd
  subst h1 h2 h3 h4
  have hm : ((ar.map (·.arg)).take (ar.map (·.arg)).length).filter (fun n => (((ar.map (·.arg)).zip vals).lookup n).isNone) = [] := by
    rw [List.take_length, List.filter_eq_nil_iff]
    intro n hn
    rw [lookup_zip _ _ (by simpa using hl) n hn]; simp
  have hg : ¬ (vals.length > (ar.map (·.arg)).length) := by rw [List.length_map]; omega
  have hb : (ar.map (·.arg)).filterMap (fun n => (((ar.map (·.arg)).zip vals).lookup n).map (n, ·)) = (ar.map (·.arg)).zip vals := zip_back _ _ (by simpa using hl) hnd
  have hs : seqItems? .none = pure none := rfl
  have e0 : ((none : Option (Array Value)).getD #[]).toList = [] := rfl
  unfold bindArgs docDef
  simp only [List.map_nil, List.nil_append, List.forIn_nil, pure_bind, hs, e0, hg, decide_false, Bool.false_and, Bool.false_eq_true, if_false, List.length_nil, List.drop_nil, Nat.sub_zero, hm, List.isEmpty_nil, Bool.not_true, List.drop_length, List.zip_nil_right, List.append_nil, hb, List.zip_nil_left]
end Mine

/- G1 -/
set_option tactic.hygienic false
/-! Mine: the sort of two rising runs: gallop. -/
namespace Mine.G
open PySem PyProof.Rows
set_option linter.unusedVariables false

abbrev M := StateT SortSt Sem
noncomputable def gallop' : Bool → Keyed → Array Keyed → Nat → Nat → Nat → M (Option Nat) := sortPriv% PySem.Builtin.gallop
noncomputable def bey (left : Bool) (key : Keyed) (arr : Array Keyed) (base i : Nat) : M (Option Bool) := do
  let x ← elem' arr (base + i)
  if left then lt' x key else return (← lt' key x).map (!·)
noncomputable def bsr (b : Nat → M (Option Bool)) (n lo hi : Nat) : M (Option Nat) := do
  let mut lo := lo
  let mut hi := hi
  for _ in [0:n] do
    if lo ≥ hi then break
    let m := lo + (hi - lo) / 2
    let some more ← b m | return none
    if more then lo := m + 1 else hi := m
  return some hi
noncomputable def outR (b : Nat → M (Option Bool)) (n hint maxofs : Nat) : M (Option Nat) := do
  let mut lastofs := 0
  let mut ofs := 1
  for _ in [0:n] do
    if ofs ≥ maxofs then break
    let some more ← b (hint + ofs) | return none
    if !more then break
    lastofs := ofs
    ofs := 2 * ofs + 1
  bsr b n (hint + lastofs + 1) (hint + min ofs maxofs)
noncomputable def outL (b : Nat → M (Option Bool)) (n hint maxofs : Nat) : M (Option Nat) := do
  let mut lastofs := 0
  let mut ofs := 1
  for _ in [0:n] do
    if ofs ≥ maxofs then break
    let some found ← b (hint - ofs) | return none
    if found then break
    lastofs := ofs
    ofs := 2 * ofs + 1
  bsr b n (hint + 1 - min ofs maxofs) (hint - lastofs)
theorem gallop'_eq (left : Bool) (key : Keyed) (arr : Array Keyed) (base n hint : Nat) : gallop' left key arr base n hint = (do
  let some right ← bey left key arr base hint | return none
  if right then outR (bey left key arr base) n hint (n - hint) else outL (bey left key arr base) n hint (hint + 1)) := rfl

section
variable {prog : Program} {w : World} {A : Around} {E : Value → Shared → Prop} {s : Shared}

theorem wpS_lt {st : SortSt} {a b : Int} {t u : Tok} {p q : Value} {Q : Option Bool → SortSt → Prop} (hk : kindOf st = oneType') (h : Q (some (decide (a < b))) st) : wpS (model prog w) A E s (lt' (.int a t, p) (.int b u, q)) Q st := by
  rw [lt'_eq]
  refine wpS_bind (wpS_get ?_)
  rw [hk, keyLt'_oneType]
  exact wpS_bind (wpS_lift (wpAny_attempt (oneLt_int ⟨rfl, wpS_pure h⟩)))

/-- an element of a place, by its number -/
noncomputable def IsK (x : Keyed) (n : Int) : Prop := ∃ t q, x = (.int n t, q)
theorem wpS_ltK' {st : SortSt} {x y : Keyed} {a b : Int} {Q : Option Bool → SortSt → Prop} (hk : kindOf st = oneType') (hx : IsK x a) (hy : IsK y b) (h : Q (some (decide (a < b))) st) : wpS (model prog w) A E s (lt' x y) Q st := by
  obtain ⟨t, p, rfl⟩ := hx
  obtain ⟨u, q, rfl⟩ := hy
  exact wpS_lt hk h
theorem wpS_elem {st : SortSt} {arr : Array Keyed} {i : Nat} {x : Keyed} {Q : Keyed → SortSt → Prop} (hx : arr[i]? = some x) (h : Q x st) : wpS (model prog w) A E s (elem' arr i) Q st := by
  rw [elem'_eq, hx]; exact wpS_pure h

/-- what is asked of the keys: they lie before -/
noncomputable def bef (left : Bool) (k x : Int) : Bool := bif left then decide (x < k) else !decide (k < x)
theorem wpS_bey {st : SortSt} {left : Bool} {key : Keyed} {k : Int} {arr : Array Keyed} {base i : Nat} {Q : Option Bool → SortSt → Prop} (hk : kindOf st = oneType') (hkey : IsK key k) {x : Keyed} {n : Int} (hx : arr[base + i]? = some x) (hn : IsK x n)
    (h : Q (some (bef left k n)) st) : wpS (model prog w) A E s (bey left key arr base i) Q st := by
  unfold bey
  refine wpS_bind (wpS_elem hx ?_)
  cases left with
  | true => exact wpS_ltK' hk hn hkey h
  | false => exact wpS_bind (wpS_ltK' hk hkey hn (wpS_pure h))

section
variable {b : Nat → M (Option Bool)} {p : Nat → Bool} {n : Nat} {st : SortSt} {Q : Option Nat → SortSt → Prop}

theorem wpS_bsr (hb : ∀ i, i < n → ∀ Q : Option Bool → SortSt → Prop, Q (some (p i)) st → wpS (model prog w) A E s (b i) Q st) (hp : ∀ i j, i ≤ j → j < n → p j = true → p i = true)
    {lo hi : Nat} (h1 : lo ≤ hi) (h2 : hi ≤ n) (h3 : ∀ i, i < lo → p i = true) (h4 : ∀ i, hi ≤ i → i < n → p i = false)
    (h : ∀ k, k ≤ n → (∀ i, i < k → p i = true) → (∀ i, k ≤ i → i < n → p i = false) → Q (some k) st) : wpS (model prog w) A E s (bsr b n lo hi) Q st := by
  unfold bsr
  refine wpS_bind (wpS_mono (wpS_forRange (I := fun x c st' => st' = st ∧ ∃ l r, c = (none, l, r) ∧ l ≤ r ∧ r ≤ n ∧ r - l ≤ n - x ∧ (∀ i, i < l → p i = true) ∧ (∀ i, r ≤ i → i < n → p i = false))
    (Q := fun c st' => st' = st ∧ ∃ l r, c = (none, l, r) ∧ r ≤ n ∧ (∀ i, i < r → p i = true) ∧ (∀ i, r ≤ i → i < n → p i = false)) ?step ?fin ⟨rfl, lo, hi, rfl, h1, h2, by omega, h3, h4⟩) ?post)
  case fin =>
    rintro c st' ⟨rfl, l, r, rfl, a1, a2, a3, a4, a5⟩
    have : l = r := by omega
    subst this
    exact ⟨rfl, l, l, rfl, a2, a4, a5⟩
  case post =>
    rintro c st' ⟨rfl, l, r, rfl, a2, a4, a5⟩
    exact wpS_pure (h r a2 a4 a5)
  case step =>
    rintro x c st' _ hx ⟨rfl, l, r, rfl, a1, a2, a3, a4, a5⟩
    dsimp only
    by_cases hge : l ≥ r
    · rw [if_pos hge]
      have : l = r := by omega
      subst this
      exact wpS_pure ⟨rfl, l, l, rfl, a2, a4, a5⟩
    · rw [if_neg hge]
      have hm : l + (r - l) / 2 < n := by omega
      refine wpS_bind (hb _ hm _ ?_)
      cases q : p (l + (r - l) / 2) with
      | true =>
        refine wpS_pure ⟨rfl, l + (r - l) / 2 + 1, r, rfl, by omega, a2, by omega, fun i hi => ?_, a5⟩
        exact hp i _ (by omega) hm q
      | false =>
        refine wpS_pure ⟨rfl, l, l + (r - l) / 2, rfl, by omega, by omega, by omega, a4, fun i hi hn => ?_⟩
        cases z : p i with
        | false => rfl
        | true => rw [hp _ i hi hn z] at q; cases q

theorem wpS_outR (hb : ∀ i, i < n → ∀ Q : Option Bool → SortSt → Prop, Q (some (p i)) st → wpS (model prog w) A E s (b i) Q st) (hp : ∀ i j, i ≤ j → j < n → p j = true → p i = true)
    {hint : Nat} (hh : hint < n) (h0 : p hint = true)
    (h : ∀ k, k ≤ n → (∀ i, i < k → p i = true) → (∀ i, k ≤ i → i < n → p i = false) → Q (some k) st) : wpS (model prog w) A E s (outR b n hint (n - hint)) Q st := by
  unfold outR
  refine wpS_bind (wpS_mono (wpS_forRange (I := fun x c st' => st' = st ∧ ∃ l o, c = (none, l, o) ∧ l < o ∧ l < n - hint ∧ x < o ∧ p (hint + l) = true)
    (Q := fun c st' => st' = st ∧ ∃ l o, c = (none, l, o) ∧ l < o ∧ l < n - hint ∧ p (hint + l) = true ∧ (o < n - hint → p (hint + o) = false)) ?step ?fin ⟨rfl, 0, 1, rfl, by omega, by omega, by omega, h0⟩) ?post)
  case fin =>
    rintro c st' ⟨rfl, l, o, rfl, a1, a2, a3, a4⟩
    exact ⟨rfl, l, o, rfl, a1, a2, a4, fun z => by omega⟩
  case post =>
    rintro c st' ⟨rfl, l, o, rfl, a1, a2, a4, a5⟩
    dsimp only
    refine wpS_bsr hb hp (by omega) (by omega) (fun i hi => hp i (hint + l) (by omega) (by omega) a4) (fun i hi hn => ?_) h
    cases z : p i with
    | false => rfl
    | true =>
      have e := a5 (by omega)
      rw [hp (hint + o) i (by omega) hn z] at e; cases e
  case step =>
    rintro x c st' _ hx ⟨rfl, l, o, rfl, a1, a2, a3, a4⟩
    dsimp only
    by_cases hge : o ≥ n - hint
    · rw [if_pos hge]
      exact wpS_pure ⟨rfl, l, o, rfl, a1, a2, a4, fun z => by omega⟩
    · rw [if_neg hge]
      refine wpS_bind (hb _ (by omega) _ ?_)
      cases q : p (hint + o) with
      | true => exact wpS_pure ⟨rfl, o, 2 * o + 1, rfl, by omega, by omega, by omega, q⟩
      | false => exact wpS_pure ⟨rfl, l, o, rfl, a1, a2, a4, fun _ => q⟩

theorem wpS_outL (hb : ∀ i, i < n → ∀ Q : Option Bool → SortSt → Prop, Q (some (p i)) st → wpS (model prog w) A E s (b i) Q st) (hp : ∀ i j, i ≤ j → j < n → p j = true → p i = true)
    {hint : Nat} (hh : hint < n) (h0 : p hint = false)
    (h : ∀ k, k ≤ n → (∀ i, i < k → p i = true) → (∀ i, k ≤ i → i < n → p i = false) → Q (some k) st) : wpS (model prog w) A E s (outL b n hint (hint + 1)) Q st := by
  have down : ∀ j i, p j = false → j ≤ i → i < n → p i = false := fun j i e hj hn => by
    cases z : p i with
    | false => rfl
    | true => rw [hp j i hj hn z] at e; cases e
  unfold outL
  refine wpS_bind (wpS_mono (wpS_forRange (I := fun x c st' => st' = st ∧ ∃ l o, c = (none, l, o) ∧ l < o ∧ l < hint + 1 ∧ x < o ∧ p (hint - l) = false)
    (Q := fun c st' => st' = st ∧ ∃ l o, c = (none, l, o) ∧ l < o ∧ l < hint + 1 ∧ p (hint - l) = false ∧ (o < hint + 1 → p (hint - o) = true)) ?step ?fin ⟨rfl, 0, 1, rfl, by omega, by omega, by omega, h0⟩) ?post)
  case fin =>
    rintro c st' ⟨rfl, l, o, rfl, a1, a2, a3, a4⟩
    exact ⟨rfl, l, o, rfl, a1, a2, a4, fun z => by omega⟩
  case post =>
    rintro c st' ⟨rfl, l, o, rfl, a1, a2, a4, a5⟩
    dsimp only
    refine wpS_bsr hb hp (by omega) (by omega) (fun i hi => ?_) (fun i hi hn => down _ i a4 hi hn) h
    exact hp i (hint - o) (by omega) (by omega) (a5 (by omega))
  case step =>
    rintro x c st' _ hx ⟨rfl, l, o, rfl, a1, a2, a3, a4⟩
    dsimp only
    by_cases hge : o ≥ hint + 1
    · rw [if_pos hge]
      exact wpS_pure ⟨rfl, l, o, rfl, a1, a2, a4, fun z => by omega⟩
    · rw [if_neg hge]
      refine wpS_bind (hb _ (by omega) _ ?_)
      cases q : p (hint - o) with
      | true => exact wpS_pure ⟨rfl, l, o, rfl, a1, a2, a4, fun _ => q⟩
      | false => exact wpS_pure ⟨rfl, o, 2 * o + 1, rfl, by omega, by omega, by omega, q⟩
end

/-- gallop finds how many of a rising stretch lie before the key -/
theorem wpS_gallop {st : SortSt} {left : Bool} {key : Keyed} {k : Int} {arr : Array Keyed} {f : Nat → Int} {base n hint : Nat} {Q : Option Nat → SortSt → Prop} (hk : kindOf st = oneType') (hkey : IsK key k)
    (ha : ∀ i, i < n → ∃ x, arr[base + i]? = some x ∧ IsK x (f i)) (hs : ∀ i j, i ≤ j → j < n → f i ≤ f j) (hh : hint < n)
    (h : ∀ c, c ≤ n → (∀ i, i < c → bef left k (f i) = true) → (∀ i, c ≤ i → i < n → bef left k (f i) = false) → Q (some c) st) : wpS (model prog w) A E s (gallop' left key arr base n hint) Q st := by
  have hb : ∀ i, i < n → ∀ Q : Option Bool → SortSt → Prop, Q (some (bef left k (f i))) st → wpS (model prog w) A E s (bey left key arr base i) Q st := fun i hi Q hq => by
    obtain ⟨x, e, hx⟩ := ha i hi
    exact wpS_bey hk hkey e hx hq
  have hp : ∀ i j, i ≤ j → j < n → bef left k (f j) = true → bef left k (f i) = true := fun i j hi hj e => by
    have := hs i j hi hj
    cases left with
    | true => have := of_decide_eq_true (show decide (f j < k) = true from e); exact decide_eq_true (show f i < k by omega)
    | false =>
      have e' : decide (k < f j) = false := by simpa [bef] using e
      have := of_decide_eq_false e'
      show (!decide (k < f i)) = true
      rw [decide_eq_false (show ¬ k < f i by omega)]; rfl
  rw [gallop'_eq]
  refine wpS_bind (hb hint hh _ ?_)
  cases q : bef left k (f hint) with
  | true => exact wpS_outR hb hp hh q h
  | false => exact wpS_outL hb hp hh q h
end
end Mine.G

/- G2 -/
set_option tactic.hygienic false
/-! Mine: the sort of two rising runs: what a merge keeps. -/
namespace Mine.G
open PySem PyProof.Rows
set_option linter.unusedVariables false

noncomputable def kap (x : Keyed) : Int := numOf x.1
abbrev Le (x y : Keyed) : Prop := kap x ≤ kap y
noncomputable def Ints (c : List Keyed) : Prop := ∀ x ∈ c, IsK x (kap x)
noncomputable def Good (c l : List Keyed) : Prop := l.Perm c ∧ l.Pairwise Le
/-- o is out, ra and rb are left -/
structure Ok (c o ra rb : List Keyed) : Prop where
  perm : (o ++ ra ++ rb).Perm c
  so : o.Pairwise Le
  sa : ra.Pairwise Le
  sb : rb.Pairwise Le
  xa : ∀ x ∈ o, ∀ y ∈ ra, Le x y
  xb : ∀ x ∈ o, ∀ y ∈ rb, Le x y
theorem Ok.swap {c o ra rb : List Keyed} (h : Ok c o ra rb) : Ok c o rb ra :=
  ⟨(by rw [List.append_assoc]; exact (List.perm_append_comm.append_left o).trans (by rw [← List.append_assoc]; exact h.perm)), h.so, h.sb, h.sa, h.xb, h.xa⟩
theorem Ok.take {c o ra rb : List Keyed} (h : Ok c o ra rb) (k : Nat) (hk : ∀ x ∈ ra.take k, ∀ y ∈ rb, Le x y) : Ok c (o ++ ra.take k) (ra.drop k) rb := by
  have e := List.take_append_drop k ra
  have hs : (ra.take k ++ ra.drop k).Pairwise Le := by rw [e]; exact h.sa
  obtain ⟨s1, s2, s3⟩ := List.pairwise_append.mp hs
  refine ⟨?_, ?_, s2, h.sb, fun x hx y hy => ?_, fun x hx y hy => ?_⟩
  · rw [List.append_assoc o, e]; exact h.perm
  · exact List.pairwise_append.mpr ⟨h.so, s1, fun x hx y hy => h.xa x hx y (List.mem_of_mem_take hy)⟩
  · rcases List.mem_append.mp hx with z | z
    · exact h.xa x z y (List.mem_of_mem_drop hy)
    · exact s3 x z y hy
  · rcases List.mem_append.mp hx with z | z
    · exact h.xb x z y hy
    · exact hk x z y hy
theorem Ok.one {c o ra rb : List Keyed} {x : Keyed} (h : Ok c o (x :: ra) rb) (hk : ∀ y ∈ rb, Le x y) : Ok c (o ++ [x]) ra rb :=
  h.take 1 (by rintro z hz y hy; cases List.mem_singleton.mp hz; exact hk y hy)
theorem Ok.fin {c o ra : List Keyed} (h : Ok c o ra []) : Good c (o ++ ra) :=
  ⟨(by have := h.perm; rwa [List.append_nil] at this), List.pairwise_append.mpr ⟨h.so, h.sa, h.xa⟩⟩
/-- the rest of b, then the rest of a -/
theorem Ok.fin2 {c o ra rb : List Keyed} (h : Ok c o ra rb) (hk : ∀ x ∈ rb, ∀ y ∈ ra, Le x y) : Good c (o ++ rb ++ ra) := by
  have := h.swap.take rb.length (fun x hx y hy => hk x (List.mem_of_mem_take hx) y hy)
  rw [List.take_length, List.drop_length] at this
  exact this.swap.fin

theorem at_drop {a : Array Keyed} {i : Nat} (h : i < a.size) : ∃ x, a[i]? = some x ∧ a.toList.drop i = x :: a.toList.drop (i + 1) :=
  ⟨a[i], getElem?_pos a i h, by rw [List.drop_eq_getElem_cons (by simpa using h)]; rfl⟩

section
variable {prog : Program} {w : World} {A : Around} {E : Value → Shared → Prop} {s : Shared}

theorem wpS_gallopL {st : SortSt} {left : Bool} {key : Keyed} {arr : Array Keyed} {base n hint : Nat} {Q : Option Nat → SortSt → Prop} {r : List Keyed} (hk : kindOf st = oneType') (hkey : IsK key (kap key))
    (hr : (arr.toList.drop base).take n = r) (hn : r.length = n) (hi : Ints r) (hs : r.Pairwise Le) (hh : hint < n)
    (h : ∀ c, c ≤ n → (∀ x ∈ r.take c, bef left (kap key) (kap x) = true) → (∀ x ∈ r.drop c, bef left (kap key) (kap x) = false) → Q (some c) st) : wpS (model prog w) A E s (gallop' left key arr base n hint) Q st := by
  have hat : ∀ i, ∀ (hi : i < n), arr[base + i]? = some (r[i]'(by omega)) := fun i hi => by
    rw [← Array.getElem?_toList, ← List.getElem?_drop]
    have e : ((arr.toList.drop base).take n)[i]? = r[i]? := by rw [hr]
    rw [List.getElem?_take_of_lt hi] at e
    rw [e, List.getElem?_eq_getElem]
  refine wpS_gallop (f := fun i => kap (r.getD i default)) hk hkey (fun i hi' => ⟨_, hat i hi', ?_⟩) (fun i j hij hj => ?_) hh fun c hc h1 h2 => h c hc (fun x hx => ?_) fun x hx => ?_
  · have hl : i < r.length := by omega
    show IsK _ (kap (r.getD i default))
    rw [List.getD_eq_getElem?_getD, List.getElem?_eq_getElem hl]
    exact hi _ (List.getElem_mem hl)
  · have hl : j < r.length := by omega
    have hl' : i < r.length := by omega
    show kap (r.getD i default) ≤ kap (r.getD j default)
    rw [List.getD_eq_getElem?_getD, List.getD_eq_getElem?_getD, List.getElem?_eq_getElem hl, List.getElem?_eq_getElem hl']
    by_cases e : i = j
    · subst e; exact Int.le_refl _
    · exact List.pairwise_iff_getElem.mp hs i j hl' hl (by omega)
  · obtain ⟨i, hi1, rfl⟩ := List.mem_iff_getElem.mp hx
    have hl : i < c := by rw [List.length_take] at hi1; omega
    have := h1 i hl
    simp only [List.getD_eq_getElem?_getD, List.getElem?_eq_getElem (show i < r.length by omega), Option.getD_some] at this
    rw [List.getElem_take]; exact this
  · obtain ⟨i, hi1, rfl⟩ := List.mem_iff_getElem.mp hx
    rw [List.length_drop] at hi1
    have := h2 (c + i) (by omega) (by omega)
    simp only [List.getD_eq_getElem?_getD, List.getElem?_eq_getElem (show c + i < r.length by omega), Option.getD_some] at this
    rw [List.getElem_drop]; exact this
end
theorem bef_true_r {k x : Int} (h : bef false k x = true) : x ≤ k := by
  have : decide (k < x) = false := by simpa [bef] using h
  have := of_decide_eq_false this
  omega
theorem bef_false_r {k x : Int} (h : bef false k x = false) : k < x := by
  have : decide (k < x) = true := by simpa [bef] using h
  exact of_decide_eq_true this
theorem bef_true_l {k x : Int} (h : bef true k x = true) : x < k := of_decide_eq_true h
theorem bef_false_l {k x : Int} (h : bef true k x = false) : k ≤ x := by
  have := of_decide_eq_false (show decide (x < k) = false from h)
  omega
end Mine.G

/- G3 -/
set_option tactic.hygienic false
/-! Mine: the sort of two rising runs: mergeLo. -/
namespace Mine.G
open PySem PyProof.Rows
set_option linter.unusedVariables false

noncomputable def setMin' : Nat → M Unit := sortPriv% PySem.Builtin.setMinGallop
noncomputable def mergeLo' : Array Keyed → Array Keyed → M (Array Keyed) := sortPriv% PySem.Builtin.mergeLo
noncomputable def doneL (a b out : Array Keyed) (ia ib : Nat) : Array Keyed := out ++ a.extract ia a.size ++ b.extract ib b.size
noncomputable def lastL (a b out : Array Keyed) (ia ib : Nat) : Array Keyed := out ++ b.extract ib b.size ++ a.extract ia a.size
abbrev S6 := Option (Array Keyed) × Array Keyed × Nat × Nat × Nat × Nat
abbrev S7 := Option (Array Keyed) × Array Keyed × Nat × Nat × Nat × Nat × Nat
noncomputable def lo1 (a b : Array Keyed) (mg : Nat) (out : Array Keyed) (ia ib acount bcount : Nat) : M (ForInStep S6) := do
  let x ← lt' (← elem' b ib) (← elem' a ia)
  match x with
  | some bWins =>
    if bWins then do
      let y ← elem' b ib
      if ib + 1 == b.size then pure (.done (some (doneL a b (out.push y) ia (ib + 1)), out.push y, ia, ib + 1, 0, bcount + 1))
      else if bcount + 1 ≥ mg then pure (.done (none, out.push y, ia, ib + 1, 0, bcount + 1)) else pure (.yield (none, out.push y, ia, ib + 1, 0, bcount + 1))
    else do
      let y ← elem' a ia
      if ia + 1 + 1 == a.size then pure (.done (some (lastL a b (out.push y) (ia + 1) ib), out.push y, ia + 1, ib, acount + 1, 0))
      else if acount + 1 ≥ mg then pure (.done (none, out.push y, ia + 1, ib, acount + 1, 0)) else pure (.yield (none, out.push y, ia + 1, ib, acount + 1, 0))
  | _ => pure (.done (some (doneL a b out ia ib), out, ia, ib, acount, bcount))
/-- the end of a turn of the gallop: one of a goes out -/
noncomputable def lo4 (a b : Array Keyed) (mg ac bc : Nat) (ia : Nat) (out : Array Keyed) (ib : Nat) : M (ForInStep S7) := do
  let y ← elem' a ia
  if ia + 1 + 1 == a.size then pure (.done (some (lastL a b (out.push y) (ia + 1) ib), out.push y, ia + 1, ib, mg, ac, bc))
  else if acs ac bc then pure (.done (none, out.push y, ia + 1, ib, mg, ac, bc)) else pure (.yield (none, out.push y, ia + 1, ib, mg, ac, bc))
where acs (ac bc : Nat) : Bool := decide (ac < 7) && decide (bc < 7)
noncomputable def lo3 (a b : Array Keyed) (mg ac bc : Nat) (ib : Nat) (out : Array Keyed) (ia : Nat) : M (ForInStep S7) := do
  let y ← elem' b ib
  if ib + 1 == b.size then pure (.done (some (doneL a b (out.push y) ia (ib + 1)), out.push y, ia, ib + 1, mg, ac, bc))
  else do
    let k ← gallop' true (← elem' a ia) b (ib + 1) (b.size - (ib + 1)) 0
    match k with
    | some k =>
      if k > 0 then
        if ib + 1 + k == b.size then pure (.done (some (doneL a b (out.push y ++ b.extract (ib + 1) (ib + 1 + k)) ia (ib + 1 + k)), out.push y ++ b.extract (ib + 1) (ib + 1 + k), ia, ib + 1 + k, mg, ac, k))
        else lo4 a b mg ac k ia (out.push y ++ b.extract (ib + 1) (ib + 1 + k)) (ib + 1 + k)
      else lo4 a b mg ac k ia (out.push y) (ib + 1)
    | _ => pure (.done (some (doneL a b (out.push y) ia (ib + 1)), out.push y, ia, ib + 1, mg, ac, bc))
noncomputable def lo2 (a b : Array Keyed) (out : Array Keyed) (ia ib ac bc : Nat) (mg : Nat) : M (ForInStep S7) := do
  setMin' mg
  let k ← gallop' false (← elem' b ib) a ia (a.size - ia) 0
  match k with
  | some k =>
    if k > 0 then
      if ia + k + 1 == a.size then pure (.done (some (lastL a b (out ++ a.extract ia (ia + k)) (ia + k) ib), out ++ a.extract ia (ia + k), ia + k, ib, mg, k, bc))
      else if ia + k == a.size then pure (.done (some (doneL a b (out ++ a.extract ia (ia + k)) (ia + k) ib), out ++ a.extract ia (ia + k), ia + k, ib, mg, k, bc))
      else lo3 a b mg k bc ib (out ++ a.extract ia (ia + k)) (ia + k)
    else lo3 a b mg k bc ib out ia
  | _ => pure (.done (some (doneL a b out ia ib), out, ia, ib, mg, ac, bc))
abbrev S5 := Option (Array Keyed) × Array Keyed × Nat × Nat × Nat
noncomputable def loTurn (a b : Array Keyed) (out : Array Keyed) (ia ib mg : Nat) : M (ForInStep S5) := do
  let s ← forIn [0:a.size + b.size] ((none, out, ia, ib, 0, 0) : S6) fun _ s => lo1 a b mg s.2.1 s.2.2.1 s.2.2.2.1 s.2.2.2.2.1 s.2.2.2.2.2
  match s.1 with
  | some r => pure (.done (some r, s.2.1, s.2.2.1, s.2.2.2.1, mg))
  | none => do
    rule "list.sort.gallop"
    let s ← forIn [0:a.size + b.size] ((none, s.2.1, s.2.2.1, s.2.2.2.1, mg + 1, s.2.2.2.2.1, s.2.2.2.2.2) : S7) fun _ s =>
      if s.2.2.2.2.1 > 1 then lo2 a b s.2.1 s.2.2.1 s.2.2.2.1 s.2.2.2.2.2.1 s.2.2.2.2.2.2 (s.2.2.2.2.1 - 1) else lo2 a b s.2.1 s.2.2.1 s.2.2.2.1 s.2.2.2.2.2.1 s.2.2.2.2.2.2 s.2.2.2.2.1
    match s.1 with
    | some r => pure (.done (some r, s.2.1, s.2.2.1, s.2.2.2.1, s.2.2.2.2.1))
    | none => do
      setMin' (s.2.2.2.2.1 + 1)
      pure (.yield (none, s.2.1, s.2.2.1, s.2.2.2.1, s.2.2.2.2.1 + 1))
theorem mergeLo'_eq (a b : Array Keyed) : mergeLo' a b = (do
  rule "list.sort.merge-lo"
  let y ← elem' b 0
  if 1 == b.size then return doneL a b #[y] 0 1
  if 0 + 1 == a.size then return lastL a b #[y] 0 1
  let mg := gallopOf (← get)
  let s ← forIn [0:a.size + b.size] ((none, #[y], 0, 1, mg) : S5) fun _ s => loTurn a b s.2.1 s.2.2.1 s.2.2.2.1 s.2.2.2.2
  match s.1 with
  | some r => pure r
  | none => unsupported "internal:list.sort.merge-bound") := by kernel_rfl
end Mine.G

/- G4 -/
set_option tactic.hygienic false
/-! Mine: the sort of two rising runs: mergeLo gives the sorted whole. -/
namespace Mine.G
open PySem PyProof.Rows
set_option linter.unusedVariables false

structure Same (st st' : SortSt) : Prop where
  kind : kindOf st' = kindOf st
  arr : arrOf st' = arrOf st
  pend : pendingOf st' = pendingOf st
  fail : failedOf st' = failedOf st
theorem Same.refl (st : SortSt) : Same st st := ⟨rfl, rfl, rfl, rfl⟩
theorem Same.trans {a b c : SortSt} (h : Same a b) (k : Same b c) : Same a c := ⟨k.kind.trans h.kind, k.arr.trans h.arr, k.pend.trans h.pend, k.fail.trans h.fail⟩

theorem ext_list (a : Array Keyed) (i : Nat) : (a.extract i a.size).toList = a.toList.drop i := by
  rw [Array.toList_extract, List.extract_eq_take_drop]
  exact List.take_of_length_le (by simp)
theorem ext_list2 (a : Array Keyed) (i k : Nat) : (a.extract i (i + k)).toList = (a.toList.drop i).take k := by
  rw [Array.toList_extract, List.extract_eq_take_drop, Nat.add_sub_cancel_left]
theorem doneL_list (a b out : Array Keyed) (ia ib : Nat) : (doneL a b out ia ib).toList = out.toList ++ a.toList.drop ia ++ b.toList.drop ib := by
  unfold doneL; rw [Array.toList_append, Array.toList_append, ext_list, ext_list]
theorem lastL_list (a b out : Array Keyed) (ia ib : Nat) : (lastL a b out ia ib).toList = out.toList ++ b.toList.drop ib ++ a.toList.drop ia := by
  unfold lastL; rw [Array.toList_append, Array.toList_append, ext_list, ext_list]
theorem drop_all {a : Array Keyed} {i : Nat} (h : i = a.size) : a.toList.drop i = [] := by subst h; exact List.drop_of_length_le (by simp)

section
variable {prog : Program} {w : World} {A : Around} {E : Value → Shared → Prop} {s : Shared} {a b : Array Keyed} {c : List Keyed}

theorem wpS_setMin {g : Nat} {st : SortSt} {Q : Unit → SortSt → Prop} (h : ∀ st', Same st st' → Q () st') : wpS (model prog w) A E s (setMin' g) Q st := by
  show wpS _ _ _ _ (modify fun s => SortSt.mk' (kindOf s) (arrOf s) (pendingOf s) g (failedOf s)) Q st
  exact wpS_modify (h _ ⟨rfl, rfl, rfl, rfl⟩)

noncomputable def Inv (a b : Array Keyed) (c : List Keyed) (out : Array Keyed) (ia ib : Nat) : Prop := Ok c out.toList (a.toList.drop ia) (b.toList.drop ib) ∧ ia + 1 < a.size ∧ ib < b.size
/-- a loop's state at its end: the whole, or farther on -/
noncomputable def R (a b : Array Keyed) (c : List Keyed) (n : Nat) (r : Option (Array Keyed)) (out : Array Keyed) (ia ib : Nat) : Prop :=
  (∃ z, r = some z ∧ Good c z.toList) ∨ (r = none ∧ Inv a b c out ia ib ∧ n < ia + ib)
noncomputable def Y (a b : Array Keyed) (c : List Keyed) (n : Nat) (r : Option (Array Keyed)) (out : Array Keyed) (ia ib : Nat) : Prop := r = none ∧ Inv a b c out ia ib ∧ n < ia + ib

theorem done_b {out : Array Keyed} {ia ib : Nat} (h : Ok c out.toList (a.toList.drop ia) (b.toList.drop ib)) (e : ib = b.size) : Good c (doneL a b out ia ib).toList := by
  rw [doneL_list]
  rw [drop_all e] at h ⊢
  rw [List.append_nil]; exact h.fin
theorem done_a {out : Array Keyed} {ia ib : Nat} (h : Ok c out.toList (a.toList.drop ia) (b.toList.drop ib)) (e : ia = a.size) : Good c (doneL a b out ia ib).toList := by
  rw [doneL_list]
  rw [drop_all e] at h ⊢
  rw [List.append_nil]; exact h.swap.fin
theorem last_a (hl : ∀ y ∈ b.toList, ∀ x ∈ a.toList.drop (a.size - 1), Le y x) {out : Array Keyed} {ia ib : Nat} (h : Ok c out.toList (a.toList.drop ia) (b.toList.drop ib)) (e : ia + 1 = a.size) : Good c (lastL a b out ia ib).toList := by
  rw [lastL_list]
  refine h.fin2 fun x hx y hy => hl x (List.mem_of_mem_drop hx) y ?_
  rwa [show a.size - 1 = ia by omega]

theorem Ok.ia {o ra rb : List Keyed} (h : Ok c o ra rb) (hI : Ints c) {x : Keyed} (hx : x ∈ ra) : IsK x (kap x) := hI x (h.perm.mem_iff.mp (List.mem_append_left _ (List.mem_append_right _ hx)))
theorem Ok.pushB {out : Array Keyed} {ra rb : List Keyed} {y : Keyed} (h : Ok c out.toList ra (y :: rb)) (hk : ∀ x ∈ ra, Le y x) : Ok c (out.push y).toList ra rb := by
  rw [Array.toList_push]; exact (h.swap.one hk).swap
theorem Ok.pushA {out : Array Keyed} {ra rb : List Keyed} {x : Keyed} (h : Ok c out.toList (x :: ra) rb) (hk : ∀ y ∈ rb, Le x y) : Ok c (out.push x).toList ra rb := by
  rw [Array.toList_push]; exact h.one hk
theorem head_le {x : Keyed} {l : List Keyed} (h : (x :: l).Pairwise Le) {k : Int} (hk : k ≤ kap x) : ∀ y ∈ x :: l, k ≤ kap y := fun y hy => by
  rcases List.mem_cons.mp hy with rfl | z
  · exact hk
  · exact Int.le_trans hk ((List.pairwise_cons.mp h).1 y z)

theorem wpS_lo1 {st : SortSt} (hk : kindOf st = oneType') (hI : Ints c) (hl : ∀ y ∈ b.toList, ∀ x ∈ a.toList.drop (a.size - 1), Le y x) {mg : Nat} {out : Array Keyed} {ia ib ac bc : Nat} (h : Inv a b c out ia ib) :
    wpS (model prog w) A E s (lo1 a b mg out ia ib ac bc) (fun r st' => st' = st ∧ match r with
      | .done q => R a b c (ia + ib) q.1 q.2.1 q.2.2.1 q.2.2.2.1
      | .yield q => Y a b c (ia + ib) q.1 q.2.1 q.2.2.1 q.2.2.2.1) st := by
  obtain ⟨h, h1, h2⟩ := h
  obtain ⟨x, ex, dx⟩ := at_drop (show ia < a.size by omega)
  obtain ⟨y, ey, dy⟩ := at_drop h2
  rw [dx, dy] at h
  have ix := h.ia hI (List.mem_cons_self ..)
  have iy := h.swap.ia hI (List.mem_cons_self ..)
  unfold lo1
  refine wpS_bind (wpS_elem ey (wpS_bind (wpS_elem ex (wpS_bind (wpS_ltK' hk iy ix ?_)))))
  by_cases hlt : kap y < kap x
  · rw [decide_eq_true hlt]
    show wpS _ _ _ _ (elem' b ib >>= _) _ _
    have h := h.pushB (head_le h.sa (Int.le_of_lt hlt))
    rw [← dx] at h
    refine wpS_bind (wpS_elem ey ?_)
    by_cases e : ib + 1 = b.size
    · rw [if_pos (by simpa using e)]
      exact wpS_pure ⟨rfl, .inl ⟨_, rfl, done_b h e⟩⟩
    · rw [if_neg (by simpa using e)]
      have lt1 : ia + ib < ia + (ib + 1) := by omega
      have : Inv a b c (out.push y) ia (ib + 1) := ⟨h, h1, by omega⟩
      by_cases e2 : bc + 1 ≥ mg
      · rw [if_pos e2]; exact wpS_pure ⟨rfl, .inr ⟨rfl, this, lt1⟩⟩
      · rw [if_neg e2]; exact wpS_pure ⟨rfl, rfl, this, lt1⟩
  · rw [decide_eq_false hlt]
    show wpS _ _ _ _ (elem' a ia >>= _) _ _
    have h := h.pushA (head_le h.sb (Int.not_lt.mp hlt))
    rw [← dy] at h
    refine wpS_bind (wpS_elem ex ?_)
    by_cases e : ia + 1 + 1 = a.size
    · rw [if_pos (by simpa using e)]
      exact wpS_pure ⟨rfl, .inl ⟨_, rfl, last_a hl h e⟩⟩
    · rw [if_neg (by simpa using e)]
      have lt1 : ia + ib < ia + 1 + ib := by omega
      have : Inv a b c (out.push x) (ia + 1) ib := ⟨h, by omega, h2⟩
      by_cases e2 : ac + 1 ≥ mg
      · rw [if_pos e2]; exact wpS_pure ⟨rfl, .inr ⟨rfl, this, lt1⟩⟩
      · rw [if_neg e2]; exact wpS_pure ⟨rfl, rfl, this, lt1⟩

/-- what a turn of the gallop leaves -/
noncomputable def G7 (a b : Array Keyed) (c : List Keyed) (n : Nat) (st : SortSt) (r : ForInStep S7) (st' : SortSt) : Prop := Same st st' ∧ match r with
  | .done q => R a b c n q.1 q.2.1 q.2.2.1 q.2.2.2.1
  | .yield q => Y a b c n q.1 q.2.1 q.2.2.1 q.2.2.2.1
theorem wpS_lo4 {st : SortSt} (hI : Ints c) (hl : ∀ y ∈ b.toList, ∀ x ∈ a.toList.drop (a.size - 1), Le y x) {mg ac bc n : Nat} {out : Array Keyed} {ia ib : Nat} (h : Ok c out.toList (a.toList.drop ia) (b.toList.drop ib)) (h1 : ia + 1 < a.size) (h2 : ib < b.size) (hn : n ≤ ia + ib)
    (hx : ∀ x, a[ia]? = some x → ∀ y ∈ b.toList.drop ib, Le x y) : wpS (model prog w) A E s (lo4 a b mg ac bc ia out ib) (G7 a b c n st) st := by
  obtain ⟨x, ex, dx⟩ := at_drop (show ia < a.size by omega)
  rw [dx] at h
  have h := h.pushA (hx x ex)
  unfold lo4
  refine wpS_bind (wpS_elem ex ?_)
  by_cases e : ia + 1 + 1 = a.size
  · rw [if_pos (by simpa using e)]
    exact wpS_pure ⟨.refl _, .inl ⟨_, rfl, last_a hl h e⟩⟩
  · rw [if_neg (by simpa using e)]
    have lt1 : n < ia + 1 + ib := by omega
    have : Inv a b c (out.push x) (ia + 1) ib := ⟨h, by omega, h2⟩
    cases lo4.acs ac bc with
    | true => rw [if_pos rfl]; exact wpS_pure ⟨.refl _, .inr ⟨rfl, this, lt1⟩⟩
    | false => rw [if_neg (by decide)]; exact wpS_pure ⟨.refl _, rfl, this, lt1⟩
theorem wpS_lo3 {st : SortSt} (hk : kindOf st = oneType') (hI : Ints c) (hl : ∀ y ∈ b.toList, ∀ x ∈ a.toList.drop (a.size - 1), Le y x) {mg ac bc n : Nat} {out : Array Keyed} {ia ib : Nat} (h : Ok c out.toList (a.toList.drop ia) (b.toList.drop ib)) (h1 : ia + 1 < a.size) (h2 : ib < b.size) (hn : n ≤ ia + ib)
    (hy : ∀ y, b[ib]? = some y → ∀ x ∈ a.toList.drop ia, Le y x) : wpS (model prog w) A E s (lo3 a b mg ac bc ib out ia) (G7 a b c n st) st := by
  obtain ⟨x, ex, dx⟩ := at_drop (show ia < a.size by omega)
  obtain ⟨y, ey, dy⟩ := at_drop h2
  rw [dy] at h
  have h := h.pushB (hy y ey)
  unfold lo3
  refine wpS_bind (wpS_elem ey ?_)
  by_cases e : ib + 1 = b.size
  · rw [if_pos (by simpa using e)]
    exact wpS_pure ⟨.refl _, .inl ⟨_, rfl, done_b h e⟩⟩
  · rw [if_neg (by simpa using e)]
    have ix : IsK x (kap x) := h.ia hI (by rw [dx]; exact List.mem_cons_self ..)
    refine wpS_bind (wpS_elem ex (wpS_bind (wpS_gallopL hk ix (r := b.toList.drop (ib + 1)) (List.take_of_length_le (by simp)) (by simp) (fun z hz => h.swap.ia hI hz) h.sb (by omega) fun k hk2 g1 g2 => ?_)))
    show wpS _ _ _ _ (if k > 0 then _ else _) _ _
    have xk : ∀ z, a[ia]? = some z → ∀ y ∈ (b.toList.drop (ib + 1)).drop k, Le z y := fun z hz y hy => by
      rw [ex] at hz; cases hz
      exact bef_false_l (g2 y hy)
    by_cases k0 : k > 0
    · rw [if_pos k0]
      have h := h.swap.take k fun z hz y hy => Int.le_of_lt (Int.lt_of_lt_of_le (bef_true_l (g1 z hz)) (by rw [dx] at hy; exact head_le (dx ▸ h.sa) (Int.le_refl _) y hy))
      have e3 : (out.push y).toList ++ (b.toList.drop (ib + 1)).take k = (out.push y ++ b.extract (ib + 1) (ib + 1 + k)).toList := by rw [Array.toList_append, ext_list2]
      rw [List.drop_drop] at h xk
      rw [e3] at h
      by_cases e4 : ib + 1 + k = b.size
      · rw [if_pos (by simpa using e4)]
        exact wpS_pure ⟨.refl _, .inl ⟨_, rfl, done_b h.swap e4⟩⟩
      · rw [if_neg (by simpa using e4)]
        exact wpS_lo4 hI hl h.swap h1 (by omega) (by omega) xk
    · rw [if_neg k0]
      have : k = 0 := by omega
      subst this
      exact wpS_lo4 hI hl h h1 (by omega) (by omega) xk
theorem wpS_lo2 {st : SortSt} (hk : kindOf st = oneType') (hI : Ints c) (hl : ∀ y ∈ b.toList, ∀ x ∈ a.toList.drop (a.size - 1), Le y x) {mg ac bc : Nat} {out : Array Keyed} {ia ib : Nat} (h : Inv a b c out ia ib) :
    wpS (model prog w) A E s (lo2 a b out ia ib ac bc mg) (G7 a b c (ia + ib) st) st := by
  obtain ⟨h, h1, h2⟩ := h
  obtain ⟨y, ey, dy⟩ := at_drop h2
  unfold lo2
  refine wpS_bind (wpS_setMin fun st1 z1 => ?_)
  have hk1 : kindOf st1 = oneType' := z1.kind.trans hk
  have iy : IsK y (kap y) := h.swap.ia hI (by rw [dy]; exact List.mem_cons_self ..)
  have up : ∀ r st', G7 a b c (ia + ib) st1 r st' → G7 a b c (ia + ib) st r st' := fun r st' g => ⟨z1.trans g.1, g.2⟩
  refine wpS_bind (wpS_elem ey (wpS_bind (wpS_gallopL hk1 iy (r := a.toList.drop ia) (List.take_of_length_le (by simp)) (by simp) (fun z hz => h.ia hI hz) h.sa (by omega) fun k hk2 g1 g2 => ?_)))
  show wpS _ _ _ _ (if k > 0 then _ else _) _ _
  have yk : ∀ z, b[ib]? = some z → ∀ x ∈ (a.toList.drop ia).drop k, Le z x := fun z hz x hx => by
    rw [ey] at hz; cases hz
    exact Int.le_of_lt (bef_false_r (g2 x hx))
  by_cases k0 : k > 0
  · rw [if_pos k0]
    have h := h.take k fun z hz y' hy => Int.le_trans (bef_true_r (g1 z hz)) (by rw [dy] at hy; exact head_le (dy ▸ h.sb) (Int.le_refl _) y' hy)
    have e3 : out.toList ++ (a.toList.drop ia).take k = (out ++ a.extract ia (ia + k)).toList := by rw [Array.toList_append, ext_list2]
    rw [List.drop_drop] at h yk
    rw [e3] at h
    by_cases e4 : ia + k + 1 = a.size
    · rw [if_pos (by simpa using e4)]
      exact wpS_pure ⟨z1, .inl ⟨_, rfl, last_a hl h e4⟩⟩
    · rw [if_neg (by simpa using e4)]
      by_cases e5 : ia + k = a.size
      · rw [if_pos (by simpa using e5)]
        exact wpS_pure ⟨z1, .inl ⟨_, rfl, done_a h e5⟩⟩
      · rw [if_neg (by simpa using e5)]
        exact wpS_mono (wpS_lo3 hk1 hI hl h (by omega) h2 (by omega) yk) up
  · rw [if_neg k0]
    have : k = 0 := by omega
    subst this
    exact wpS_mono (wpS_lo3 hk1 hI hl h h1 h2 (by omega) yk) up
end
end Mine.G

/- G5 -/
set_option tactic.hygienic false
/-! Mine: the sort of two rising runs: mergeLo, whole. -/
namespace Mine.G
open PySem PyProof.Rows
set_option linter.unusedVariables false
section
variable {prog : Program} {w : World} {A : Around} {E : Value → Shared → Prop} {s : Shared} {a b : Array Keyed} {c : List Keyed}

theorem R.le {n m : Nat} {r : Option (Array Keyed)} {out : Array Keyed} {ia ib : Nat} (h : R a b c n r out ia ib) (hm : m ≤ n) : R a b c m r out ia ib :=
  h.elim .inl fun ⟨h1, h2, h3⟩ => .inr ⟨h1, h2, Nat.lt_of_le_of_lt hm h3⟩
theorem Inv.far {out : Array Keyed} {ia ib n : Nat} {P : Prop} (h : Inv a b c out ia ib) (hn : a.size + b.size + n ≤ ia + ib) : P := by
  obtain ⟨_, h1, h2⟩ := h; omega

theorem wpS_in1 {st : SortSt} (hk : kindOf st = oneType') (hI : Ints c) (hl : ∀ y ∈ b.toList, ∀ x ∈ a.toList.drop (a.size - 1), Le y x) {mg : Nat} {out : Array Keyed} {ia ib ac bc : Nat} (h : Inv a b c out ia ib) :
    wpS (model prog w) A E s (forIn [0:a.size + b.size] ((none, out, ia, ib, ac, bc) : S6) fun _ q => lo1 a b mg q.2.1 q.2.2.1 q.2.2.2.1 q.2.2.2.2.1 q.2.2.2.2.2)
      (fun q st' => st' = st ∧ R a b c (ia + ib) q.1 q.2.1 q.2.2.1 q.2.2.2.1) st := by
  refine wpS_forRange (I := fun x q st' => st' = st ∧ q.1 = none ∧ Inv a b c q.2.1 q.2.2.1 q.2.2.2.1 ∧ x + (ia + ib) ≤ q.2.2.1 + q.2.2.2.1) ?step ?fin ⟨rfl, rfl, h, Nat.le_of_eq (Nat.zero_add _)⟩
  case fin =>
    rintro q st' ⟨_, _, h1, h2⟩
    rw [Nat.zero_max] at h2
    exact h1.far h2
  case step =>
    rintro x q st' _ _ ⟨rfl, _, h1, h2⟩
    refine wpS_mono (wpS_lo1 hk hI hl h1) fun r st' hr => ?_
    obtain ⟨rfl, hr⟩ := hr
    cases r with
    | done q' => exact ⟨rfl, R.le hr (by omega)⟩
    | yield q' => exact ⟨rfl, hr.1, hr.2.1, by have := hr.2.2; omega⟩

theorem wpS_in2 {st : SortSt} (hk : kindOf st = oneType') (hI : Ints c) (hl : ∀ y ∈ b.toList, ∀ x ∈ a.toList.drop (a.size - 1), Le y x) {mg : Nat} {out : Array Keyed} {ia ib ac bc : Nat} (h : Inv a b c out ia ib) :
    wpS (model prog w) A E s (forIn [0:a.size + b.size] ((none, out, ia, ib, mg, ac, bc) : S7) fun _ s =>
      if s.2.2.2.2.1 > 1 then lo2 a b s.2.1 s.2.2.1 s.2.2.2.1 s.2.2.2.2.2.1 s.2.2.2.2.2.2 (s.2.2.2.2.1 - 1) else lo2 a b s.2.1 s.2.2.1 s.2.2.2.1 s.2.2.2.2.2.1 s.2.2.2.2.2.2 s.2.2.2.2.1)
      (fun q st' => Same st st' ∧ R a b c (ia + ib) q.1 q.2.1 q.2.2.1 q.2.2.2.1) st := by
  refine wpS_forRange (I := fun x q st' => Same st st' ∧ q.1 = none ∧ Inv a b c q.2.1 q.2.2.1 q.2.2.2.1 ∧ x + (ia + ib) ≤ q.2.2.1 + q.2.2.2.1) ?step ?fin ⟨.refl _, rfl, h, Nat.le_of_eq (Nat.zero_add _)⟩
  case fin =>
    rintro q st' ⟨_, _, h1, h2⟩
    rw [Nat.zero_max] at h2
    exact h1.far h2
  case step =>
    rintro x q st' _ _ ⟨z, _, h1, h2⟩
    have go : ∀ mg, wpS (model prog w) A E s (lo2 a b q.2.1 q.2.2.1 q.2.2.2.1 q.2.2.2.2.2.1 q.2.2.2.2.2.2 mg) (fun r st' => match r with
        | .done c' => Same st st' ∧ R a b c (ia + ib) c'.1 c'.2.1 c'.2.2.1 c'.2.2.2.1
        | .yield c' => Same st st' ∧ c'.1 = none ∧ Inv a b c c'.2.1 c'.2.2.1 c'.2.2.2.1 ∧ x + 1 + (ia + ib) ≤ c'.2.2.1 + c'.2.2.2.1) st' := fun mg => by
      refine wpS_mono (wpS_lo2 (z.kind.trans hk) hI hl h1) fun r st'' hr => ?_
      obtain ⟨z2, hr⟩ := hr
      cases r with
      | done q' => exact ⟨z.trans z2, R.le hr (by omega)⟩
      | yield q' => exact ⟨z.trans z2, hr.1, hr.2.1, by have := hr.2.2; omega⟩
    show wpS _ _ _ _ (if q.2.2.2.2.1 > 1 then _ else _) _ _
    split
    · exact wpS_mono (go _) fun r st' h => by cases r <;> exact h
    · exact wpS_mono (go _) fun r st' h => by cases r <;> exact h

theorem wpS_loTurn {st : SortSt} (hk : kindOf st = oneType') (hI : Ints c) (hl : ∀ y ∈ b.toList, ∀ x ∈ a.toList.drop (a.size - 1), Le y x) {mg : Nat} {out : Array Keyed} {ia ib : Nat} (h : Inv a b c out ia ib) :
    wpS (model prog w) A E s (loTurn a b out ia ib mg) (fun r st' => Same st st' ∧ match r with
      | .done q => ∃ z, q.1 = some z ∧ Good c z.toList
      | .yield q => q.1 = none ∧ Inv a b c q.2.1 q.2.2.1 q.2.2.2.1 ∧ ia + ib < q.2.2.1 + q.2.2.2.1) st := by
  unfold loTurn
  refine wpS_bind (wpS_mono (wpS_in1 hk hI hl h) fun q st' hq => ?_)
  obtain ⟨rfl, hq⟩ := hq
  rcases hq with ⟨z, e, g⟩ | ⟨e, h1, h2⟩
  · rw [e]; exact wpS_pure ⟨.refl _, z, rfl, g⟩
  · rw [e]
    refine wpS_bind (wpS_lift (wpAny_rule ⟨rfl, ?_⟩))
    refine wpS_bind (wpS_mono (wpS_in2 hk hI hl h1) fun q' st'' hq' => ?_)
    obtain ⟨z2, hq'⟩ := hq'
    rcases hq' with ⟨z, e', g⟩ | ⟨e', h3, h4⟩
    · rw [e']; exact wpS_pure ⟨z2, z, rfl, g⟩
    · rw [e']
      exact wpS_bind (wpS_setMin fun st3 z3 => wpS_pure ⟨z2.trans z3, rfl, h3, by show ia + ib < q'.2.2.1 + q'.2.2.2.1; omega⟩)

theorem wpS_mergeLo {st : SortSt} {Q : Array Keyed → SortSt → Prop} (hk : kindOf st = oneType') (hI : Ints (a.toList ++ b.toList)) (hl : ∀ y ∈ b.toList, ∀ x ∈ a.toList.drop (a.size - 1), Le y x) (sa : a.toList.Pairwise Le) (sb : b.toList.Pairwise Le)
    (ha : 0 < a.size) (hb : 0 < b.size) (h0 : ∀ y, b[0]? = some y → ∀ x ∈ a.toList, Le y x)
    (h : ∀ r st', Same st st' → Good (a.toList ++ b.toList) r.toList → Q r st') : wpS (model prog w) A E s (mergeLo' a b) Q st := by
  obtain ⟨y, ey, dy⟩ := at_drop hb
  have k0 : Ok (a.toList ++ b.toList) (#[] : Array Keyed).toList a.toList (b.toList.drop 0) := ⟨.refl _, .nil, sa, sb, fun _ z => (nomatch z), fun _ z => (nomatch z)⟩
  rw [dy] at k0
  have k1 : Ok (a.toList ++ b.toList) (#[y] : Array Keyed).toList (a.toList.drop 0) (b.toList.drop 1) := k0.pushB (h0 y ey)
  rw [mergeLo'_eq]
  refine wpS_bind (wpS_lift (wpAny_rule ⟨rfl, ?_⟩))
  refine wpS_bind (wpS_elem ey ?_)
  by_cases e1 : 1 = b.size
  · rw [if_pos (by simpa using e1)]
    exact wpS_pure (h _ _ (.refl _) (done_b k1 e1))
  · rw [if_neg (by simpa using e1)]
    by_cases e2 : 0 + 1 = a.size
    · rw [if_pos (by simpa using e2)]
      exact wpS_pure (h _ _ (.refl _) (last_a hl k1 e2))
    · rw [if_neg (by simpa using e2)]
      refine wpS_bind (wpS_get ?_)
      have i0 : Inv a b (a.toList ++ b.toList) #[y] 0 1 := ⟨k1, by omega, by omega⟩
      refine wpS_bind (wpS_mono (wpS_forRange (I := fun x q st' => Same st st' ∧ q.1 = none ∧ Inv a b (a.toList ++ b.toList) q.2.1 q.2.2.1 q.2.2.2.1 ∧ x + (0 + 1) ≤ q.2.2.1 + q.2.2.2.1)
        (Q := fun q st' => Same st st' ∧ ∃ z, q.1 = some z ∧ Good (a.toList ++ b.toList) z.toList) ?step ?fin ⟨.refl _, rfl, i0, Nat.le_of_eq (Nat.zero_add _)⟩) ?post)
      case post =>
        rintro q st' ⟨z, r, e, g⟩
        show wpS _ _ _ _ (match q.1 with | some r => _ | none => _) _ _
        rw [e]
        exact wpS_pure (h _ _ z g)
      case fin =>
        rintro q st' ⟨_, _, h1, h2⟩
        rw [Nat.zero_max] at h2
        exact h1.far h2
      case step =>
        rintro x q st' _ _ ⟨z, _, h1, h2⟩
        refine wpS_mono (wpS_loTurn (z.kind.trans hk) hI hl h1) fun r st'' hr => ?_
        obtain ⟨z2, hr⟩ := hr
        cases r with
        | done q' => exact ⟨z.trans z2, hr⟩
        | yield q' => exact ⟨z.trans z2, hr.1, hr.2.1, by have := hr.2.2; omega⟩
end
end Mine.G

/- G6 -/
set_option tactic.hygienic false
/-! Mine: the sort of two rising runs: mergeHi. -/
namespace Mine.G
open PySem PyProof.Rows
set_option linter.unusedVariables false

abbrev H6 := Option (Array Keyed) × Nat × Nat × Array Keyed × Nat × Nat
abbrev H7 := Option (Array Keyed) × Nat × Nat × Array Keyed × Nat × Nat × Nat
abbrev H5 := Option (Array Keyed) × Nat × Nat × Array Keyed × Nat
noncomputable def mergeHi' : Array Keyed → Array Keyed → M (Array Keyed) := sortPriv% PySem.Builtin.mergeHi
noncomputable def doneH (a b out : Array Keyed) (na nb : Nat) : Array Keyed := a.extract 0 na ++ b.extract 0 nb ++ out.reverse
noncomputable def firstH (a b out : Array Keyed) (na nb : Nat) : Array Keyed := b.extract 0 nb ++ a.extract 0 na ++ out.reverse
noncomputable def hi1 (a b : Array Keyed) (mg : Nat) (out : Array Keyed) (na nb acount bcount : Nat) : M (ForInStep H6) := do
  let x ← lt' (← elem' b (nb - 1)) (← elem' a (na - 1))
  match x with
  | some aWins =>
    if aWins then do
      let y ← elem' a (na - 1)
      if na - 1 == 0 then pure (.done (some (doneH a b (out.push y) (na - 1) nb), na - 1, nb, out.push y, acount + 1, 0))
      else if acount + 1 ≥ mg then pure (.done (none, na - 1, nb, out.push y, acount + 1, 0)) else pure (.yield (none, na - 1, nb, out.push y, acount + 1, 0))
    else do
      let y ← elem' b (nb - 1)
      if nb - 1 == 1 then pure (.done (some (firstH a b (out.push y) na (nb - 1)), na, nb - 1, out.push y, 0, bcount + 1))
      else if bcount + 1 ≥ mg then pure (.done (none, na, nb - 1, out.push y, 0, bcount + 1)) else pure (.yield (none, na, nb - 1, out.push y, 0, bcount + 1))
  | _ => pure (.done (some (doneH a b out na nb), na, nb, out, acount, bcount))
noncomputable def hi4 (a b : Array Keyed) (mg ac bc : Nat) (na : Nat) (out : Array Keyed) (nb : Nat) : M (ForInStep H7) := do
  let y ← elem' a (na - 1)
  if na - 1 == 0 then pure (.done (some (doneH a b (out.push y) (na - 1) nb), na - 1, nb, out.push y, mg, ac, bc))
  else if lo4.acs ac bc then pure (.done (none, na - 1, nb, out.push y, mg, ac, bc)) else pure (.yield (none, na - 1, nb, out.push y, mg, ac, bc))
noncomputable def hi3 (a b : Array Keyed) (mg ac bc : Nat) (nb : Nat) (out : Array Keyed) (na : Nat) : M (ForInStep H7) := do
  let y ← elem' b (nb - 1)
  if nb - 1 == 1 then pure (.done (some (firstH a b (out.push y) na (nb - 1)), na, nb - 1, out.push y, mg, ac, bc))
  else do
    let k ← gallop' true (← elem' a (na - 1)) b 0 (nb - 1) (nb - 1 - 1)
    match k with
    | some k =>
      if nb - 1 - k > 0 then
        if k == 1 then pure (.done (some (firstH a b (out.push y ++ (b.extract k (nb - 1)).reverse) na k), na, k, out.push y ++ (b.extract k (nb - 1)).reverse, mg, ac, nb - 1 - k))
        else if k == 0 then pure (.done (some (doneH a b (out.push y ++ (b.extract k (nb - 1)).reverse) na k), na, k, out.push y ++ (b.extract k (nb - 1)).reverse, mg, ac, nb - 1 - k))
        else hi4 a b mg ac (nb - 1 - k) na (out.push y ++ (b.extract k (nb - 1)).reverse) k
      else hi4 a b mg ac (nb - 1 - k) na (out.push y) (nb - 1)
    | _ => pure (.done (some (doneH a b (out.push y) na (nb - 1)), na, nb - 1, out.push y, mg, ac, bc))
noncomputable def hi2 (a b : Array Keyed) (out : Array Keyed) (na nb ac bc : Nat) (mg : Nat) : M (ForInStep H7) := do
  setMin' mg
  let k ← gallop' false (← elem' b (nb - 1)) a 0 na (na - 1)
  match k with
  | some k =>
    if na - k > 0 then
      if k == 0 then pure (.done (some (doneH a b (out ++ (a.extract k na).reverse) k nb), k, nb, out ++ (a.extract k na).reverse, mg, na - k, bc))
      else hi3 a b mg (na - k) bc nb (out ++ (a.extract k na).reverse) k
    else hi3 a b mg (na - k) bc nb out na
  | _ => pure (.done (some (doneH a b out na nb), na, nb, out, mg, ac, bc))
noncomputable def hiTurn (a b : Array Keyed) (out : Array Keyed) (na nb mg : Nat) : M (ForInStep H5) := do
  let s ← forIn [0:a.size + b.size] ((none, na, nb, out, 0, 0) : H6) fun _ s => hi1 a b mg s.2.2.2.1 s.2.1 s.2.2.1 s.2.2.2.2.1 s.2.2.2.2.2
  match s.1 with
  | some r => pure (.done (some r, s.2.1, s.2.2.1, s.2.2.2.1, mg))
  | none => do
    rule "list.sort.gallop"
    let s ← forIn [0:a.size + b.size] ((none, s.2.1, s.2.2.1, s.2.2.2.1, mg + 1, s.2.2.2.2.1, s.2.2.2.2.2) : H7) fun _ s =>
      if s.2.2.2.2.1 > 1 then hi2 a b s.2.2.2.1 s.2.1 s.2.2.1 s.2.2.2.2.2.1 s.2.2.2.2.2.2 (s.2.2.2.2.1 - 1) else hi2 a b s.2.2.2.1 s.2.1 s.2.2.1 s.2.2.2.2.2.1 s.2.2.2.2.2.2 s.2.2.2.2.1
    match s.1 with
    | some r => pure (.done (some r, s.2.1, s.2.2.1, s.2.2.2.1, s.2.2.2.2.1))
    | none => do
      setMin' (s.2.2.2.2.1 + 1)
      pure (.yield (none, s.2.1, s.2.2.1, s.2.2.2.1, s.2.2.2.2.1 + 1))
theorem mergeHi'_eq (a b : Array Keyed) : mergeHi' a b = (do
  rule "list.sort.merge-hi"
  let y ← elem' a (a.size - 1)
  if a.size - 1 == 0 then return doneH a b #[y] (a.size - 1) b.size
  if b.size == 1 then return firstH a b #[y] (a.size - 1) b.size
  let mg := gallopOf (← get)
  let s ← forIn [0:a.size + b.size] ((none, a.size - 1, b.size, #[y], mg) : H5) fun _ s => hiTurn a b s.2.2.2.1 s.2.1 s.2.2.1 s.2.2.2.2
  match s.1 with
  | some r => pure r
  | none => unsupported "internal:list.sort.merge-bound") := by kernel_rfl
end Mine.G

/- G7 -/
set_option tactic.hygienic false
/-! Mine: the sort of two rising runs: mergeHi gives the sorted whole. -/
namespace Mine.G
open PySem PyProof.Rows
set_option linter.unusedVariables false

structure OkH (c o ra rb : List Keyed) : Prop where
  perm : (ra ++ rb ++ o).Perm c
  so : o.Pairwise Le
  sa : ra.Pairwise Le
  sb : rb.Pairwise Le
  xa : ∀ x ∈ ra, ∀ y ∈ o, Le x y
  xb : ∀ x ∈ rb, ∀ y ∈ o, Le x y
theorem OkH.swap {c o ra rb : List Keyed} (h : OkH c o ra rb) : OkH c o rb ra :=
  ⟨(List.perm_append_comm.append_right o).trans h.perm, h.so, h.sb, h.sa, h.xb, h.xa⟩
theorem OkH.drop {c o ra rb : List Keyed} (h : OkH c o ra rb) (k : Nat) (hk : ∀ x ∈ ra.drop k, ∀ y ∈ rb, Le y x) : OkH c (ra.drop k ++ o) (ra.take k) rb := by
  have e := List.take_append_drop k ra
  have hs : (ra.take k ++ ra.drop k).Pairwise Le := by rw [e]; exact h.sa
  obtain ⟨s1, s2, s3⟩ := List.pairwise_append.mp hs
  refine ⟨?_, ?_, s1, h.sb, fun x hx y hy => ?_, fun x hx y hy => ?_⟩
  · have p1 : (ra.take k ++ rb ++ ra.drop k).Perm (ra.take k ++ ra.drop k ++ rb) := by
      rw [List.append_assoc, List.append_assoc]; exact List.perm_append_comm.append_left _
    rw [← List.append_assoc]
    refine (p1.append_right o).trans ?_
    rw [e]; exact h.perm
  · exact List.pairwise_append.mpr ⟨s2, h.so, fun x hx y hy => h.xa x (List.mem_of_mem_drop hx) y hy⟩
  · rcases List.mem_append.mp hy with z | z
    · exact s3 x hx y z
    · exact h.xa x (List.mem_of_mem_take hx) y z
  · rcases List.mem_append.mp hy with z | z
    · exact hk y z x hx
    · exact h.xb x hx y z
theorem OkH.one {c o l rb : List Keyed} {x : Keyed} (h : OkH c o (l ++ [x]) rb) (hk : ∀ y ∈ rb, Le y x) : OkH c (x :: o) l rb := by
  have := h.drop l.length (fun z hz y hy => by rw [List.drop_left] at hz; cases List.mem_singleton.mp hz; exact hk y hy)
  rwa [List.drop_left, List.take_left] at this
theorem OkH.fin {c o ra : List Keyed} (h : OkH c o ra []) : Good c (ra ++ o) :=
  ⟨(by have := h.perm; rwa [List.append_nil] at this), List.pairwise_append.mpr ⟨h.sa, h.so, h.xa⟩⟩
theorem OkH.fin2 {c o ra rb : List Keyed} (h : OkH c o ra rb) (hk : ∀ x ∈ rb, ∀ y ∈ ra, Le x y) : Good c (rb ++ ra ++ o) := by
  have := h.drop 0 (fun x hx y hy => hk y hy x hx)
  rw [List.drop_zero, List.take_zero] at this
  rw [List.append_assoc]; exact this.swap.fin

theorem at_take {a : Array Keyed} {i : Nat} (h : i - 1 < a.size) (h0 : 0 < i) : ∃ x, a[i - 1]? = some x ∧ a.toList.take i = a.toList.take (i - 1) ++ [x] :=
  ⟨a[i - 1], getElem?_pos a (i - 1) h, by
    have := List.take_append_getElem (l := a.toList) (i := i - 1) (by simpa using h)
    rw [show i - 1 + 1 = i by omega] at this
    exact this.symm⟩
theorem last_ge {y : Keyed} {l : List Keyed} (h : (l ++ [y]).Pairwise Le) {k : Int} (hk : kap y ≤ k) : ∀ z ∈ l ++ [y], kap z ≤ k := fun z hz => by
  rcases List.mem_append.mp hz with q | q
  · exact Int.le_trans ((List.pairwise_append.mp h).2.2 z q y (List.mem_singleton_self y)) hk
  · cases List.mem_singleton.mp q; exact hk
theorem ext0 (a : Array Keyed) (n : Nat) : (a.extract 0 n).toList = a.toList.take n := by
  rw [Array.toList_extract, List.extract_eq_take_drop]; rfl
theorem extR (a : Array Keyed) (out : Array Keyed) (k n : Nat) : (out ++ (a.extract k n).reverse).toList.reverse = (a.toList.take n).drop k ++ out.toList.reverse := by
  rw [Array.toList_append, Array.toList_reverse, List.reverse_append, List.reverse_reverse, Array.toList_extract, List.extract_eq_take_drop, List.drop_take]
theorem doneH_list (a b out : Array Keyed) (na nb : Nat) : (doneH a b out na nb).toList = a.toList.take na ++ b.toList.take nb ++ out.toList.reverse := by
  unfold doneH; rw [Array.toList_append, Array.toList_append, ext0, ext0, Array.toList_reverse]
theorem firstH_list (a b out : Array Keyed) (na nb : Nat) : (firstH a b out na nb).toList = b.toList.take nb ++ a.toList.take na ++ out.toList.reverse := by
  unfold firstH; rw [Array.toList_append, Array.toList_append, ext0, ext0, Array.toList_reverse]

section
variable {prog : Program} {w : World} {A : Around} {E : Value → Shared → Prop} {s : Shared} {a b : Array Keyed} {c : List Keyed}

noncomputable def InvH (a b : Array Keyed) (c : List Keyed) (na nb : Nat) (out : Array Keyed) : Prop := OkH c out.toList.reverse (a.toList.take na) (b.toList.take nb) ∧ 0 < na ∧ na ≤ a.size ∧ 1 < nb ∧ nb ≤ b.size
noncomputable def RH (a b : Array Keyed) (c : List Keyed) (n : Nat) (r : Option (Array Keyed)) (na nb : Nat) (out : Array Keyed) : Prop :=
  (∃ z, r = some z ∧ Good c z.toList) ∨ (r = none ∧ InvH a b c na nb out ∧ na + nb < n)
noncomputable def YH (a b : Array Keyed) (c : List Keyed) (n : Nat) (r : Option (Array Keyed)) (na nb : Nat) (out : Array Keyed) : Prop := r = none ∧ InvH a b c na nb out ∧ na + nb < n

theorem done_ha {out : Array Keyed} {na nb : Nat} (h : OkH c out.toList.reverse (a.toList.take na) (b.toList.take nb)) (e : na = 0) : Good c (doneH a b out na nb).toList := by
  subst e
  rw [doneH_list]
  exact h.swap.fin
theorem done_hb {out : Array Keyed} {na nb : Nat} (h : OkH c out.toList.reverse (a.toList.take na) (b.toList.take nb)) (e : nb = 0) : Good c (doneH a b out na nb).toList := by
  subst e
  rw [doneH_list, List.take_zero, List.append_nil]
  exact h.fin
theorem first_h (hl : ∀ y ∈ b.toList.take 1, ∀ x ∈ a.toList, Le y x) {out : Array Keyed} {na nb : Nat} (h : OkH c out.toList.reverse (a.toList.take na) (b.toList.take nb)) (e : nb = 1) : Good c (firstH a b out na nb).toList := by
  subst e
  rw [firstH_list]
  exact h.fin2 fun x hx y hy => hl x hx y (List.mem_of_mem_take hy)
theorem OkH.ia {o ra rb : List Keyed} (h : OkH c o ra rb) (hI : Ints c) {x : Keyed} (hx : x ∈ ra) : IsK x (kap x) := hI x (h.perm.mem_iff.mp (List.mem_append_left _ (List.mem_append_left _ hx)))
theorem OkH.push {out : Array Keyed} {l rb : List Keyed} {x : Keyed} (h : OkH c out.toList.reverse (l ++ [x]) rb) (hk : ∀ y ∈ rb, Le y x) : OkH c (out.push x).toList.reverse l rb := by
  rw [Array.toList_push, List.reverse_append]; exact h.one hk

theorem wpS_hi1 {st : SortSt} (hk : kindOf st = oneType') (hI : Ints c) (hl : ∀ y ∈ b.toList.take 1, ∀ x ∈ a.toList, Le y x) {mg : Nat} {out : Array Keyed} {na nb ac bc : Nat} (h : InvH a b c na nb out) :
    wpS (model prog w) A E s (hi1 a b mg out na nb ac bc) (fun r st' => st' = st ∧ match r with
      | .done q => RH a b c (na + nb) q.1 q.2.1 q.2.2.1 q.2.2.2.1
      | .yield q => YH a b c (na + nb) q.1 q.2.1 q.2.2.1 q.2.2.2.1) st := by
  obtain ⟨h, h1, h2, h3, h4⟩ := h
  obtain ⟨x, ex, dx⟩ := at_take (a := a) (i := na) (by omega) h1
  obtain ⟨y, ey, dy⟩ := at_take (a := b) (i := nb) (by omega) (by omega)
  rw [dx, dy] at h
  have ix := h.ia hI (List.mem_append_right _ (List.mem_singleton_self x))
  have iy := h.swap.ia hI (List.mem_append_right _ (List.mem_singleton_self y))
  unfold hi1
  refine wpS_bind (wpS_elem ey (wpS_bind (wpS_elem ex (wpS_bind (wpS_ltK' hk iy ix ?_)))))
  by_cases hlt : kap y < kap x
  · rw [decide_eq_true hlt]
    show wpS _ _ _ _ (elem' a (na - 1) >>= _) _ _
    have h := h.push (last_ge h.sb (Int.le_of_lt hlt))
    rw [← dy] at h
    refine wpS_bind (wpS_elem ex ?_)
    by_cases e : na - 1 = 0
    · rw [if_pos (by simpa using e)]
      exact wpS_pure ⟨rfl, .inl ⟨_, rfl, done_ha h e⟩⟩
    · rw [if_neg (by simpa using e)]
      have lt1 : na - 1 + nb < na + nb := by omega
      have : InvH a b c (na - 1) nb (out.push x) := ⟨h, by omega, by omega, h3, h4⟩
      by_cases e2 : ac + 1 ≥ mg
      · rw [if_pos e2]; exact wpS_pure ⟨rfl, .inr ⟨rfl, this, lt1⟩⟩
      · rw [if_neg e2]; exact wpS_pure ⟨rfl, rfl, this, lt1⟩
  · rw [decide_eq_false hlt]
    show wpS _ _ _ _ (elem' b (nb - 1) >>= _) _ _
    have h := (h.swap.push (last_ge h.sa (Int.not_lt.mp hlt))).swap
    rw [← dx] at h
    refine wpS_bind (wpS_elem ey ?_)
    by_cases e : nb - 1 = 1
    · rw [if_pos (by simpa using e)]
      exact wpS_pure ⟨rfl, .inl ⟨_, rfl, first_h hl h e⟩⟩
    · rw [if_neg (by simpa using e)]
      have lt1 : na + (nb - 1) < na + nb := by omega
      have : InvH a b c na (nb - 1) (out.push y) := ⟨h, h1, h2, by omega, by omega⟩
      by_cases e2 : bc + 1 ≥ mg
      · rw [if_pos e2]; exact wpS_pure ⟨rfl, .inr ⟨rfl, this, lt1⟩⟩
      · rw [if_neg e2]; exact wpS_pure ⟨rfl, rfl, this, lt1⟩

noncomputable def GH (a b : Array Keyed) (c : List Keyed) (n : Nat) (st : SortSt) (r : ForInStep H7) (st' : SortSt) : Prop := Same st st' ∧ match r with
  | .done q => RH a b c n q.1 q.2.1 q.2.2.1 q.2.2.2.1
  | .yield q => YH a b c n q.1 q.2.1 q.2.2.1 q.2.2.2.1
theorem wpS_hi4 {st : SortSt} {mg ac bc n : Nat} {out : Array Keyed} {na nb : Nat} (h : OkH c out.toList.reverse (a.toList.take na) (b.toList.take nb)) (h1 : 0 < na) (h2 : na ≤ a.size) (h3 : 1 < nb) (h4 : nb ≤ b.size) (hn : na + nb ≤ n)
    (hx : ∀ x, a[na - 1]? = some x → ∀ y ∈ b.toList.take nb, Le y x) : wpS (model prog w) A E s (hi4 a b mg ac bc na out nb) (GH a b c n st) st := by
  obtain ⟨x, ex, dx⟩ := at_take (a := a) (i := na) (by omega) h1
  rw [dx] at h
  have h := h.push (hx x ex)
  unfold hi4
  refine wpS_bind (wpS_elem ex ?_)
  by_cases e : na - 1 = 0
  · rw [if_pos (by simpa using e)]
    exact wpS_pure ⟨.refl _, .inl ⟨_, rfl, done_ha h e⟩⟩
  · rw [if_neg (by simpa using e)]
    have lt1 : na - 1 + nb < n := by omega
    have : InvH a b c (na - 1) nb (out.push x) := ⟨h, by omega, by omega, h3, h4⟩
    cases lo4.acs ac bc with
    | true => rw [if_pos rfl]; exact wpS_pure ⟨.refl _, .inr ⟨rfl, this, lt1⟩⟩
    | false => rw [if_neg (by decide)]; exact wpS_pure ⟨.refl _, rfl, this, lt1⟩
theorem wpS_hi3 {st : SortSt} (hk : kindOf st = oneType') (hI : Ints c) (hl : ∀ y ∈ b.toList.take 1, ∀ x ∈ a.toList, Le y x) {mg ac bc n : Nat} {out : Array Keyed} {na nb : Nat} (h : OkH c out.toList.reverse (a.toList.take na) (b.toList.take nb)) (h1 : 0 < na) (h2 : na ≤ a.size) (h3 : 1 < nb) (h4 : nb ≤ b.size) (hn : na + nb ≤ n)
    (hy : ∀ y, b[nb - 1]? = some y → ∀ x ∈ a.toList.take na, Le x y) : wpS (model prog w) A E s (hi3 a b mg ac bc nb out na) (GH a b c n st) st := by
  obtain ⟨x, ex, dx⟩ := at_take (a := a) (i := na) (by omega) h1
  obtain ⟨y, ey, dy⟩ := at_take (a := b) (i := nb) (by omega) (by omega)
  rw [dy] at h
  have h := (h.swap.push (hy y ey)).swap
  unfold hi3
  refine wpS_bind (wpS_elem ey ?_)
  by_cases e : nb - 1 = 1
  · rw [if_pos (by simpa using e)]
    exact wpS_pure ⟨.refl _, .inl ⟨_, rfl, first_h hl h e⟩⟩
  · rw [if_neg (by simpa using e)]
    have ix : IsK x (kap x) := h.ia hI (by rw [dx]; exact List.mem_append_right _ (List.mem_singleton_self x))
    refine wpS_bind (wpS_elem ex (wpS_bind (wpS_gallopL hk ix (r := b.toList.take (nb - 1)) rfl (by simp; omega) (fun z hz => h.swap.ia hI hz) h.sb (by omega) fun k hk2 g1 g2 => ?_)))
    show wpS _ _ _ _ (if nb - 1 - k > 0 then _ else _) _ _
    have tk : (b.toList.take (nb - 1)).take k = b.toList.take k := by rw [List.take_take, Nat.min_eq_left hk2]
    have xk : ∀ z, a[na - 1]? = some z → ∀ y ∈ b.toList.take k, Le y z := fun z hz y hy => by
      rw [ex] at hz; cases hz
      exact Int.le_of_lt (bef_true_l (g1 y (by rw [tk]; exact hy)))
    by_cases k0 : nb - 1 - k > 0
    · rw [if_pos k0]
      have h := h.swap.drop k fun z hz y hy => Int.le_trans (by rw [dx] at hy; exact last_ge (dx ▸ h.sa) (Int.le_refl _) y hy) (bef_false_l (g2 z hz))
      rw [tk, ← extR b (out.push y)] at h
      by_cases e4 : k = 1
      · rw [if_pos (by simpa using e4)]
        exact wpS_pure ⟨.refl _, .inl ⟨_, rfl, first_h hl h.swap e4⟩⟩
      · rw [if_neg (by simpa using e4)]
        by_cases e5 : k = 0
        · rw [if_pos (by simpa using e5)]
          exact wpS_pure ⟨.refl _, .inl ⟨_, rfl, done_hb h.swap e5⟩⟩
        · rw [if_neg (by simpa using e5)]
          exact wpS_hi4 h.swap h1 h2 (by omega) (by omega) (by omega) xk
    · rw [if_neg k0]
      have : k = nb - 1 := by omega
      subst this
      exact wpS_hi4 h h1 h2 (by omega) (by omega) (by omega) xk
theorem wpS_hi2 {st : SortSt} (hk : kindOf st = oneType') (hI : Ints c) (hl : ∀ y ∈ b.toList.take 1, ∀ x ∈ a.toList, Le y x) {mg ac bc : Nat} {out : Array Keyed} {na nb : Nat} (h : InvH a b c na nb out) :
    wpS (model prog w) A E s (hi2 a b out na nb ac bc mg) (GH a b c (na + nb) st) st := by
  obtain ⟨h, h1, h2, h3, h4⟩ := h
  obtain ⟨y, ey, dy⟩ := at_take (a := b) (i := nb) (by omega) (by omega)
  unfold hi2
  refine wpS_bind (wpS_setMin fun st1 z1 => ?_)
  have hk1 : kindOf st1 = oneType' := z1.kind.trans hk
  have iy : IsK y (kap y) := h.swap.ia hI (by rw [dy]; exact List.mem_append_right _ (List.mem_singleton_self y))
  have up : ∀ r st', GH a b c (na + nb) st1 r st' → GH a b c (na + nb) st r st' := fun r st' g => ⟨z1.trans g.1, g.2⟩
  refine wpS_bind (wpS_elem ey (wpS_bind (wpS_gallopL hk1 iy (r := a.toList.take na) rfl (by simp; omega) (fun z hz => h.ia hI hz) h.sa (by omega) fun k hk2 g1 g2 => ?_)))
  show wpS _ _ _ _ (if na - k > 0 then _ else _) _ _
  have tk : (a.toList.take na).take k = a.toList.take k := by rw [List.take_take, Nat.min_eq_left hk2]
  have yk : ∀ z, b[nb - 1]? = some z → ∀ x ∈ a.toList.take k, Le x z := fun z hz x hx => by
    rw [ey] at hz; cases hz
    exact bef_true_r (g1 x (by rw [tk]; exact hx))
  by_cases k0 : na - k > 0
  · rw [if_pos k0]
    have h := h.drop k fun z hz y' hy => Int.le_of_lt (Int.lt_of_le_of_lt (by rw [dy] at hy; exact last_ge (dy ▸ h.sb) (Int.le_refl _) y' hy) (bef_false_r (g2 z hz)))
    rw [tk, ← extR a out] at h
    by_cases e4 : k = 0
    · rw [if_pos (by simpa using e4)]
      exact wpS_pure ⟨z1, .inl ⟨_, rfl, done_ha h e4⟩⟩
    · rw [if_neg (by simpa using e4)]
      exact wpS_mono (wpS_hi3 hk1 hI hl h (by omega) (by omega) h3 h4 (by omega) yk) up
  · rw [if_neg k0]
    have : k = na := by omega
    subst this
    exact wpS_mono (wpS_hi3 hk1 hI hl h h1 h2 h3 h4 (Nat.le_refl _) yk) up
end
end Mine.G

/- G8 -/
set_option tactic.hygienic false
/-! Mine: the sort of two rising runs: mergeHi, whole. -/
namespace Mine.G
open PySem PyProof.Rows
set_option linter.unusedVariables false
section
variable {prog : Program} {w : World} {A : Around} {E : Value → Shared → Prop} {s : Shared} {a b : Array Keyed} {c : List Keyed}

theorem RH.le {n m : Nat} {r : Option (Array Keyed)} {out : Array Keyed} {na nb : Nat} (h : RH a b c n r na nb out) (hm : n ≤ m) : RH a b c m r na nb out :=
  h.elim .inl fun ⟨h1, h2, h3⟩ => .inr ⟨h1, h2, Nat.lt_of_lt_of_le h3 hm⟩
theorem InvH.far {out : Array Keyed} {na nb n : Nat} {P : Prop} (h : InvH a b c na nb out) (hn : a.size + b.size + (na + nb) ≤ n) (hm : n ≤ a.size + b.size) : P := by
  obtain ⟨_, h1, _, h2, _⟩ := h; omega
theorem InvH.le {out : Array Keyed} {na nb : Nat} (h : InvH a b c na nb out) : na + nb ≤ a.size + b.size := Nat.add_le_add h.2.2.1 h.2.2.2.2

theorem wpS_hin1 {st : SortSt} (hk : kindOf st = oneType') (hI : Ints c) (hl : ∀ y ∈ b.toList.take 1, ∀ x ∈ a.toList, Le y x) {mg : Nat} {out : Array Keyed} {na nb ac bc : Nat} (h : InvH a b c na nb out) :
    wpS (model prog w) A E s (forIn [0:a.size + b.size] ((none, na, nb, out, ac, bc) : H6) fun _ q => hi1 a b mg q.2.2.2.1 q.2.1 q.2.2.1 q.2.2.2.2.1 q.2.2.2.2.2)
      (fun q st' => st' = st ∧ RH a b c (na + nb) q.1 q.2.1 q.2.2.1 q.2.2.2.1) st := by
  refine wpS_forRange (I := fun x q st' => st' = st ∧ q.1 = none ∧ InvH a b c q.2.1 q.2.2.1 q.2.2.2.1 ∧ x + (q.2.1 + q.2.2.1) ≤ na + nb) ?step ?fin ⟨rfl, rfl, h, Nat.le_of_eq (Nat.zero_add _)⟩
  case fin =>
    rintro q st' ⟨_, _, h1, h2⟩
    rw [Nat.zero_max] at h2
    exact h1.far h2 h.le
  case step =>
    rintro x q st' _ _ ⟨rfl, _, h1, h2⟩
    refine wpS_mono (wpS_hi1 hk hI hl h1) fun r st' hr => ?_
    obtain ⟨rfl, hr⟩ := hr
    cases r with
    | done q' => exact ⟨rfl, RH.le hr (by omega)⟩
    | yield q' => exact ⟨rfl, hr.1, hr.2.1, by have := hr.2.2; omega⟩

theorem wpS_hin2 {st : SortSt} (hk : kindOf st = oneType') (hI : Ints c) (hl : ∀ y ∈ b.toList.take 1, ∀ x ∈ a.toList, Le y x) {mg : Nat} {out : Array Keyed} {na nb ac bc : Nat} (h : InvH a b c na nb out) :
    wpS (model prog w) A E s (forIn [0:a.size + b.size] ((none, na, nb, out, mg, ac, bc) : H7) fun _ s =>
      if s.2.2.2.2.1 > 1 then hi2 a b s.2.2.2.1 s.2.1 s.2.2.1 s.2.2.2.2.2.1 s.2.2.2.2.2.2 (s.2.2.2.2.1 - 1) else hi2 a b s.2.2.2.1 s.2.1 s.2.2.1 s.2.2.2.2.2.1 s.2.2.2.2.2.2 s.2.2.2.2.1)
      (fun q st' => Same st st' ∧ RH a b c (na + nb) q.1 q.2.1 q.2.2.1 q.2.2.2.1) st := by
  refine wpS_forRange (I := fun x q st' => Same st st' ∧ q.1 = none ∧ InvH a b c q.2.1 q.2.2.1 q.2.2.2.1 ∧ x + (q.2.1 + q.2.2.1) ≤ na + nb) ?step ?fin ⟨.refl _, rfl, h, Nat.le_of_eq (Nat.zero_add _)⟩
  case fin =>
    rintro q st' ⟨_, _, h1, h2⟩
    rw [Nat.zero_max] at h2
    exact h1.far h2 h.le
  case step =>
    rintro x q st' _ _ ⟨z, _, h1, h2⟩
    have go : ∀ mg, wpS (model prog w) A E s (hi2 a b q.2.2.2.1 q.2.1 q.2.2.1 q.2.2.2.2.2.1 q.2.2.2.2.2.2 mg) (fun r st' => match r with
        | .done c' => Same st st' ∧ RH a b c (na + nb) c'.1 c'.2.1 c'.2.2.1 c'.2.2.2.1
        | .yield c' => Same st st' ∧ c'.1 = none ∧ InvH a b c c'.2.1 c'.2.2.1 c'.2.2.2.1 ∧ x + 1 + (c'.2.1 + c'.2.2.1) ≤ na + nb) st' := fun mg => by
      refine wpS_mono (wpS_hi2 (z.kind.trans hk) hI hl h1) fun r st'' hr => ?_
      obtain ⟨z2, hr⟩ := hr
      cases r with
      | done q' => exact ⟨z.trans z2, RH.le hr (by omega)⟩
      | yield q' => exact ⟨z.trans z2, hr.1, hr.2.1, by have := hr.2.2; omega⟩
    show wpS _ _ _ _ (if q.2.2.2.2.1 > 1 then _ else _) _ _
    split
    · exact wpS_mono (go _) fun r st' h => by cases r <;> exact h
    · exact wpS_mono (go _) fun r st' h => by cases r <;> exact h

theorem wpS_hiTurn {st : SortSt} (hk : kindOf st = oneType') (hI : Ints c) (hl : ∀ y ∈ b.toList.take 1, ∀ x ∈ a.toList, Le y x) {mg : Nat} {out : Array Keyed} {na nb : Nat} (h : InvH a b c na nb out) :
    wpS (model prog w) A E s (hiTurn a b out na nb mg) (fun r st' => Same st st' ∧ match r with
      | .done q => ∃ z, q.1 = some z ∧ Good c z.toList
      | .yield q => q.1 = none ∧ InvH a b c q.2.1 q.2.2.1 q.2.2.2.1 ∧ q.2.1 + q.2.2.1 < na + nb) st := by
  unfold hiTurn
  refine wpS_bind (wpS_mono (wpS_hin1 hk hI hl h) fun q st' hq => ?_)
  obtain ⟨rfl, hq⟩ := hq
  rcases hq with ⟨z, e, g⟩ | ⟨e, h1, h2⟩
  · rw [e]; exact wpS_pure ⟨.refl _, z, rfl, g⟩
  · rw [e]
    refine wpS_bind (wpS_lift (wpAny_rule ⟨rfl, ?_⟩))
    refine wpS_bind (wpS_mono (wpS_hin2 hk hI hl h1) fun q' st'' hq' => ?_)
    obtain ⟨z2, hq'⟩ := hq'
    rcases hq' with ⟨z, e', g⟩ | ⟨e', h3, h4⟩
    · rw [e']; exact wpS_pure ⟨z2, z, rfl, g⟩
    · rw [e']
      exact wpS_bind (wpS_setMin fun st3 z3 => wpS_pure ⟨z2.trans z3, rfl, h3, Nat.lt_trans h4 h2⟩)

theorem wpS_mergeHi {st : SortSt} {Q : Array Keyed → SortSt → Prop} (hk : kindOf st = oneType') (hI : Ints (a.toList ++ b.toList)) (hl : ∀ y ∈ b.toList.take 1, ∀ x ∈ a.toList, Le y x) (sa : a.toList.Pairwise Le) (sb : b.toList.Pairwise Le)
    (ha : 0 < a.size) (hb : 0 < b.size) (h0 : ∀ x, a[a.size - 1]? = some x → ∀ y ∈ b.toList, Le y x)
    (h : ∀ r st', Same st st' → Good (a.toList ++ b.toList) r.toList → Q r st') : wpS (model prog w) A E s (mergeHi' a b) Q st := by
  obtain ⟨x, ex, dx⟩ := at_take (a := a) (i := a.size) (by omega) ha
  have ta : a.toList.take a.size = a.toList := List.take_of_length_le (by simp)
  have tb : b.toList.take b.size = b.toList := List.take_of_length_le (by simp)
  have k0 : OkH (a.toList ++ b.toList) (#[] : Array Keyed).toList.reverse (a.toList.take a.size) (b.toList.take b.size) := by
    rw [ta, tb]
    exact ⟨(by rw [show (#[] : Array Keyed).toList.reverse = [] from rfl, List.append_nil]), .nil, sa, sb, fun _ _ _ z => (nomatch z), fun _ _ _ z => (nomatch z)⟩
  rw [dx] at k0
  have k1 : OkH (a.toList ++ b.toList) (#[x] : Array Keyed).toList.reverse (a.toList.take (a.size - 1)) (b.toList.take b.size) := k0.push (by rw [tb]; exact h0 x ex)
  rw [mergeHi'_eq]
  refine wpS_bind (wpS_lift (wpAny_rule ⟨rfl, ?_⟩))
  refine wpS_bind (wpS_elem ex ?_)
  by_cases e1 : a.size - 1 = 0
  · rw [if_pos (by simpa using e1)]
    exact wpS_pure (h _ _ (.refl _) (done_ha k1 e1))
  · rw [if_neg (by simpa using e1)]
    by_cases e2 : b.size = 1
    · rw [if_pos (by simpa using e2)]
      exact wpS_pure (h _ _ (.refl _) (first_h hl k1 e2))
    · rw [if_neg (by simpa using e2)]
      refine wpS_bind (wpS_get ?_)
      have i0 : InvH a b (a.toList ++ b.toList) (a.size - 1) b.size #[x] := ⟨k1, by omega, by omega, by omega, Nat.le_refl _⟩
      refine wpS_bind (wpS_mono (wpS_forRange (I := fun n q st' => Same st st' ∧ q.1 = none ∧ InvH a b (a.toList ++ b.toList) q.2.1 q.2.2.1 q.2.2.2.1 ∧ n + (q.2.1 + q.2.2.1) ≤ a.size - 1 + b.size)
        (Q := fun q st' => Same st st' ∧ ∃ z, q.1 = some z ∧ Good (a.toList ++ b.toList) z.toList) ?step ?fin ⟨.refl _, rfl, i0, Nat.le_of_eq (Nat.zero_add _)⟩) ?post)
      case post =>
        rintro q st' ⟨z, r, e, g⟩
        show wpS _ _ _ _ (match q.1 with | some r => _ | none => _) _ _
        rw [e]
        exact wpS_pure (h _ _ z g)
      case fin =>
        rintro q st' ⟨_, _, h1, h2⟩
        rw [Nat.zero_max] at h2
        exact h1.far h2 (by omega)
      case step =>
        rintro n q st' _ _ ⟨z, _, h1, h2⟩
        refine wpS_mono (wpS_hiTurn (z.kind.trans hk) hI hl h1) fun r st'' hr => ?_
        obtain ⟨z2, hr⟩ := hr
        cases r with
        | done q' => exact ⟨z.trans z2, hr⟩
        | yield q' => exact ⟨z.trans z2, hr.1, hr.2.1, by have := hr.2.2; omega⟩
end
end Mine.G

/- G9 -/
set_option tactic.hygienic false
/-! Mine: the sort of two rising runs: mergeAt. -/
namespace Mine.G
open PySem PyProof.Rows
set_option linter.unusedVariables false

noncomputable def putAt (off : Nat) (m : List Keyed) (xs : Array Keyed) : Array Keyed := m.zipIdx.foldl (fun a (p, j) => a.setIfInBounds (off + j) p) xs
/-- the way of a merge behind its looks -/
noncomputable def mAt (xs : Array Keyed) (sa na sb nb : Nat) : M Bool := do
  let some k ← gallop' false (← elem' xs sb) xs sa na 0 | return false
  if na - k == 0 then return true
  let some nb ← gallop' true (← elem' xs (sa + k + (na - k) - 1)) xs sb nb (nb - 1) | return false
  if nb == 0 then return true
  let merged ← if na - k ≤ nb then mergeLo' (xs.extract (sa + k) sb) (xs.extract sb (sb + nb)) else mergeHi' (xs.extract (sa + k) sb) (xs.extract sb (sb + nb))
  modify fun s => setArr s (putAt (sa + k) merged.toList (arrOf s))
  return (failedOf (← get)).isNone
theorem mergeAt'_eq (i : Nat) : mergeAt' i = (do
  let s ← get
  let (some (sa, na, power), some (sb, nb, _)) := ((pendingOf s)[i]?, (pendingOf s)[i + 1]?) | unsupported "internal:list.sort.pending"
  set (setPending s (((pendingOf s).setIfInBounds i (sa, na + nb, power)).eraseIdxIfInBounds (i + 1)))
  mAt (arrOf s) sa na sb nb) := by kernel_rfl

theorem put_go : ∀ (m : List Keyed) (off n : Nat) (p q r : List Keyed) (xs : Array Keyed), xs.toList = p ++ q ++ r → p.length = off + n → q.length = m.length →
    ((m.zipIdx n).foldl (fun a (x : Keyed × Nat) => a.setIfInBounds (off + x.2) x.1) xs).toList = p ++ m ++ r
  | [], off, n, p, q, r, xs, h, hp, hq => by
    have : q = [] := List.length_eq_zero_iff.mp hq
    subst this
    exact h
  | x :: m, off, n, p, q, r, xs, h, hp, hq => by
    cases q with
    | nil => exact nomatch hq
    | cons y q =>
      rw [List.zipIdx_cons, List.foldl_cons]
      have := put_go m off (n + 1) (p ++ [x]) q r (xs.setIfInBounds (off + n) x) (by
        rw [Array.toList_setIfInBounds, h, ← hp, List.append_assoc p, List.set_append_right _ _ (Nat.le_refl _), Nat.sub_self]
        simp) (by rw [List.length_append, hp]; rfl) (by simpa using hq)
      rw [this]; simp
theorem put_list {m p q r : List Keyed} {off : Nat} {xs : Array Keyed} (h : xs.toList = p ++ q ++ r) (hp : p.length = off) (hq : q.length = m.length) : (putAt off m xs).toList = p ++ m ++ r :=
  put_go m off 0 p q r xs h hp hq

section
variable {prog : Program} {w : World} {A : Around} {E : Value → Shared → Prop} {s : Shared}

theorem good_app {c l1 l2 : List Keyed} (hp : (l1 ++ l2).Perm c) (s1 : l1.Pairwise Le) (s2 : l2.Pairwise Le) (h : ∀ x ∈ l1, ∀ y ∈ l2, Le x y) : Good c (l1 ++ l2) := ⟨hp, List.pairwise_append.mpr ⟨s1, s2, h⟩⟩

theorem wpS_mAt {st : SortSt} {xs : Array Keyed} {l1 l2 : List Keyed} {Q : Bool → SortSt → Prop} (hk : kindOf st = oneType') (hf : failedOf st = none) (hx : arrOf st = xs) (e : xs.toList = l1 ++ l2) (hI : Ints (l1 ++ l2)) (s1 : l1.Pairwise Le) (s2 : l2.Pairwise Le)
    (n1 : l1 ≠ []) (n2 : l2 ≠ [])
    (h : ∀ st', kindOf st' = oneType' → failedOf st' = none → pendingOf st' = pendingOf st → Good (l1 ++ l2) (arrOf st').toList → Q true st') : wpS (model prog w) A E s (mAt xs 0 l1.length l1.length l2.length) Q st := by
  have p1 : 0 < l1.length := List.length_pos_iff.mpr n1
  have p2 : 0 < l2.length := List.length_pos_iff.mpr n2
  have sz : xs.size = l1.length + l2.length := by rw [← Array.length_toList, e, List.length_append]
  have d1 : (xs.toList.drop 0).take l1.length = l1 := by rw [e]; exact List.take_left
  have d2 : xs.toList.drop l1.length = l2 := by rw [e]; exact List.drop_left
  obtain ⟨y, ey, dy⟩ := at_drop (a := xs) (i := l1.length) (by omega)
  rw [d2] at dy
  have iy : IsK y (kap y) := hI y (List.mem_append_right _ (by rw [dy]; exact List.mem_cons_self ..))
  have ymin : ∀ z ∈ l2, kap y ≤ kap z := fun z hz => head_le (dy ▸ s2) (Int.le_refl _) z (by rw [← dy]; exact hz)
  unfold mAt
  refine wpS_bind (wpS_elem ey (wpS_bind (wpS_gallopL hk iy d1 rfl (fun z hz => hI z (List.mem_append_left _ hz)) s1 p1 fun k hk1 g1 g2 => ?_)))
  show wpS _ _ _ _ (if (l1.length - k == 0) = true then _ else _) _ _
  by_cases e1 : l1.length - k = 0
  · rw [if_pos (by simpa using e1)]
    refine wpS_pure (h st hk hf rfl ?_)
    rw [hx, e]
    exact good_app (.refl _) s1 s2 fun x hx z hz => Int.le_trans (bef_true_r (g1 x (by rw [List.take_of_length_le (by omega)]; exact hx))) (ymin z hz)
  · rw [if_neg (by simpa using e1)]
    have hlast : 0 + k + (l1.length - k) - 1 = l1.length - 1 := by omega
    rw [hlast]
    obtain ⟨x, ex, dx⟩ := at_take (a := xs) (i := l1.length) (by omega) p1
    have t1 : xs.toList.take l1.length = l1 := by rw [e]; exact List.take_left
    rw [t1] at dx
    have hl0 : (xs.toList.take (l1.length - 1)).length = l1.length - 1 := by rw [List.length_take]; have : xs.toList.length = xs.size := Array.length_toList; omega
    have hxm : x ∈ l1 := by rw [dx]; exact List.mem_append_right _ (List.mem_singleton_self x)
    have xmax : ∀ z ∈ l1, kap z ≤ kap x := fun z hz => last_ge (dx ▸ s1) (Int.le_refl _) z (by rw [← dx]; exact hz)
    have ix : IsK x (kap x) := hI x (List.mem_append_left _ hxm)
    refine wpS_bind (wpS_elem ex (wpS_bind (wpS_gallopL hk ix (r := l2) (by rw [d2]; exact List.take_length) rfl (fun z hz => hI z (List.mem_append_right _ hz)) s2 (by omega) fun j hj f1 f2 => ?_)))
    show wpS _ _ _ _ (if (j == 0) = true then _ else _) _ _
    by_cases e2 : j = 0
    · rw [if_pos (by simpa using e2)]
      refine wpS_pure (h st hk hf rfl ?_)
      rw [hx, e]
      subst e2
      exact good_app (.refl _) s1 s2 fun z hz z' hz' => Int.le_trans (xmax z hz) (bef_false_l (f2 z' hz'))
    · rw [if_neg (by simpa using e2)]
      have xl : (xs.extract (0 + k) l1.length).toList = l1.drop k := by
        rw [Array.toList_extract, List.extract_eq_take_drop, Nat.zero_add, ← List.drop_take, t1]
      have yl : (xs.extract l1.length (l1.length + j)).toList = l2.take j := by rw [ext_list2, d2]
      have xsz : (xs.extract (0 + k) l1.length).size = l1.length - k := by rw [← Array.length_toList, xl, List.length_drop]
      have ysz : (xs.extract l1.length (l1.length + j)).size = j := by rw [← Array.length_toList, yl, List.length_take]; omega
      have sx : (l1.drop k).Pairwise Le := s1.sublist (List.drop_sublist _ _)
      have sy : (l2.take j).Pairwise Le := s2.sublist (List.take_sublist _ _)
      have hxd : x ∈ l1.drop k := by
        rw [dx, List.drop_append_of_le_length (by rw [hl0]; omega)]
        exact List.mem_append_right _ (List.mem_singleton_self x)
      have yx : ∀ z ∈ l2.take j, ∀ x' ∈ l1.drop k, x' = x → Le z x' := fun z hz x' hx' ee => by subst ee; exact Int.le_of_lt (bef_true_l (f1 z hz))
      have hIm : Ints ((xs.extract (0 + k) l1.length).toList ++ (xs.extract l1.length (l1.length + j)).toList) := fun z hz => by
        rw [xl, yl] at hz
        rcases List.mem_append.mp hz with q | q
        · exact hI z (List.mem_append_left _ (List.mem_of_mem_drop q))
        · exact hI z (List.mem_append_right _ (List.mem_of_mem_take q))
      have l1k : ∀ x' ∈ l1.drop k, kap y < kap x' := fun x' hx' => bef_false_r (g2 x' hx')
      have ytake : ∀ z ∈ l2.take 1, z = y := fun z hz => by rw [dy] at hz; exact List.mem_singleton.mp hz
      have fin : ∀ (r : Array Keyed) st', Same st st' → Good ((xs.extract (0 + k) l1.length).toList ++ (xs.extract l1.length (l1.length + j)).toList) r.toList →
          wpS (model prog w) A E s (do
            modify fun s => setArr s (putAt (0 + k) r.toList (arrOf s))
            return (failedOf (← get)).isNone) Q st' := fun r st' z g => by
        refine wpS_bind (wpS_modify (wpS_bind (wpS_get (wpS_pure ?_))))
        have hf' : failedOf st' = none := z.fail.trans hf
        show Q (failedOf st').isNone _
        rw [hf']
        refine h _ (z.kind.trans hk) hf' z.pend ?_
        show Good _ (putAt (0 + k) r.toList (arrOf st')).toList
        obtain ⟨gp, gs⟩ := g
        rw [xl, yl] at gp
        have ea : (arrOf st').toList = l1.take k ++ (l1.drop k ++ l2.take j) ++ l2.drop j := by
          rw [z.arr, hx, e]
          conv => lhs; rw [← List.take_append_drop k l1, ← List.take_append_drop j l2]
          simp only [List.append_assoc]
        rw [put_list ea (by rw [List.length_take]; omega) gp.length_eq.symm]
        refine ⟨?_, ?_⟩
        · refine (List.Perm.append_right _ (List.Perm.append_left _ gp)).trans ?_
          rw [← ea, z.arr, hx, e]
        · have mem : ∀ m ∈ r.toList, m ∈ l1.drop k ∨ m ∈ l2.take j := fun m hm => List.mem_append.mp (gp.mem_iff.mp hm)
          have lt1 : ∀ p ∈ l1.take k, ∀ m ∈ l2, Le p m := fun p hp m hm => Int.le_trans (bef_true_r (g1 p hp)) (ymin m hm)
          have ss : (l1.take k ++ l1.drop k).Pairwise Le := by rw [List.take_append_drop]; exact s1
          have ss2 : (l2.take j ++ l2.drop j).Pairwise Le := by rw [List.take_append_drop]; exact s2
          refine List.pairwise_append.mpr ⟨List.pairwise_append.mpr ⟨s1.sublist (List.take_sublist _ _), gs, fun p hp m hm => ?_⟩, s2.sublist (List.drop_sublist _ _), fun p hp m hm => ?_⟩
          · rcases mem m hm with q | q
            · exact (List.pairwise_append.mp ss).2.2 p hp m q
            · exact lt1 p hp m (List.mem_of_mem_take q)
          · rcases List.mem_append.mp hp with q | q
            · exact lt1 p q m (List.mem_of_mem_drop hm)
            · rcases mem p q with q | q
              · exact Int.le_trans (xmax p (List.mem_of_mem_drop q)) (bef_false_l (f2 m hm))
              · exact (List.pairwise_append.mp ss2).2.2 p q m hm
      have xlast : ∀ y ∈ (xs.extract l1.length (l1.length + j)).toList, ∀ x' ∈ (xs.extract (0 + k) l1.length).toList.drop ((xs.extract (0 + k) l1.length).size - 1), Le y x' := fun y hy x' hx' => by
        rw [yl] at hy
        rw [xl, xsz, List.drop_drop] at hx'
        have : k + (l1.length - k - 1) = l1.length - 1 := by omega
        rw [this] at hx'
        have hx2 : x' = x := by
          have hd : l1.drop (l1.length - 1) = [x] := by
            have := List.drop_left (l₁ := xs.toList.take (l1.length - 1)) (l₂ := [x])
            rw [hl0, ← dx] at this
            exact this
          rw [hd] at hx'
          exact List.mem_singleton.mp hx'
        subst hx2
        exact Int.le_of_lt (bef_true_l (f1 y hy))
      have ymn : ∀ y' ∈ (xs.extract l1.length (l1.length + j)).toList.take 1, ∀ x' ∈ (xs.extract (0 + k) l1.length).toList, Le y' x' := fun y' hy' x' hx' => by
        rw [yl, List.take_take, Nat.min_eq_left (by omega)] at hy'
        rw [xl] at hx'
        rw [ytake y' hy']
        exact Int.le_of_lt (l1k x' hx')
      dsimp only
      by_cases e3 : l1.length - k ≤ j
      · rw [if_pos e3]
        refine wpS_bind (wpS_mergeLo hk hIm xlast (xl ▸ sx) (yl ▸ sy) (by omega) (by omega) (fun y' hy' => ymn y' ?_) fin)
        obtain ⟨z, ez, dz⟩ := at_drop (a := xs.extract l1.length (l1.length + j)) (i := 0) (by omega)
        rw [hy'] at ez; cases ez
        rw [List.drop_zero] at dz
        rw [dz]; exact List.mem_cons_self ..
      · rw [if_neg e3]
        refine wpS_bind (wpS_mergeHi hk hIm ymn (xl ▸ sx) (yl ▸ sy) (by omega) (by omega) (fun x' hx' y' hy' => xlast y' hy' x' ?_) fin)
        obtain ⟨z, ez, dz⟩ := at_drop (a := xs.extract (0 + k) l1.length) (i := (xs.extract (0 + k) l1.length).size - 1) (by omega)
        rw [hx'] at ez; cases ez
        rw [dz]; exact List.mem_cons_self ..
end
end Mine.G

/- G10 -/
set_option tactic.hygienic false
/-! Mine: the sort of two rising runs: the first run. -/
namespace Mine.G
open PySem PyProof.Rows
set_option linter.unusedVariables false
section
variable {prog : Program} {w : World} {A : Around} {E : Value → Shared → Prop} {s : Shared} {a₀ : Array Keyed} {F : Nat → Option Keyed}

/-- what is known of the stretch behind the first k -/
noncomputable def Beh (xs : Array Keyed) (F : Nat → Option Keyed) (k : Nat) : Prop := ∀ i, k ≤ i → xs[i]? = F i
theorem SortedTo.one (xs : Array Keyed) : SortedTo xs 1 := fun i j hi hj => by
  have : i = j := by omega
  subst this; exact Int.le_refl _
theorem SortedTo.up {xs : Array Keyed} {k : Nat} (h : SortedTo xs k) (hk : K xs (k - 1) ≤ K xs k) : SortedTo xs (k + 1) := fun i j hij hj => by
  by_cases hjk : j < k
  · exact h i j hij hjk
  · have : j = k := by omega
    subst this
    by_cases e : i = j
    · subst e; exact Int.le_refl _
    · exact Int.le_trans (h i (j - 1) (by omega) (by omega)) hk

theorem ins_sorted {xs : Array Keyed} {k l : Nat} (hk : k < xs.size) (hlk : l ≤ k) (hs : SortedTo xs k) (hlo : ∀ i, i < l → K xs i ≤ K xs k) (hhi : ∀ i, l ≤ i → i < k → K xs k < K xs i) : SortedTo (bubble xs k (k - l)) (k + 1) := fun i j hij hj => by
  rw [K_bubble hk (Nat.sub_le _ _), K_bubble hk (Nat.sub_le _ _), show k - (k - l) = l by omega]
  by_cases i1 : i = l <;> by_cases j1 : j = l
  · rw [if_pos i1, if_pos j1]; exact Int.le_refl _
  · rw [if_pos i1, if_neg j1, if_pos (by omega)]; exact Int.le_of_lt (hhi _ (by omega) (by omega))
  · rw [if_neg i1, if_pos j1, if_neg (by omega)]; exact hlo _ (by omega)
  · rw [if_neg i1, if_neg j1]
    by_cases i2 : l < i ∧ i ≤ k
    · rw [if_pos i2, if_pos (by omega)]; exact hs _ _ (by omega) (by omega)
    · rw [if_neg i2]
      by_cases j2 : l < j ∧ j ≤ k
      · rw [if_pos j2]; exact hs _ _ (by omega) (by omega)
      · rw [if_neg j2]; exact hs _ _ hij (by omega)

theorem wpS_bin {st : SortSt} {n ok : Nat} {Q : Bool → SortSt → Prop} (h0 : IntKeys a₀) (hn : n ≤ a₀.size) (h1 : 1 ≤ ok) (hok : ok ≤ n) (hB : SBase a₀ st) (hs : SortedTo (arrOf st) ok) (hf : Beh (arrOf st) F ok)
    (h : ∀ st', SBase a₀ st' → SortedTo (arrOf st') n → Beh (arrOf st') F n → Q true st') : wpS (model prog w) A E s (binarySort' 0 n ok) Q st := by
  rw [binarySort'_eq, show max ok 1 = ok by omega]
  simp only [Nat.zero_add]
  refine wpS_bind (wpS_mono (wpS_forRange (I := fun k c st' => c = (none, ()) ∧ SBase a₀ st' ∧ SortedTo (arrOf st') k ∧ Beh (arrOf st') F k)
    (Q := fun c st' => c = (none, ()) ∧ SBase a₀ st' ∧ SortedTo (arrOf st') n ∧ Beh (arrOf st') F n) ?step ?fin ⟨rfl, hB, hs, hf⟩) ?post)
  case post =>
    rintro c st' ⟨rfl, hB', hs', hf'⟩
    exact wpS_pure (h st' hB' hs' hf')
  case fin =>
    rintro c st' hh
    rwa [show max ok n = n by omega] at hh
  case step =>
    rintro k c st' hak hkn ⟨rfl, hB', hs', hf'⟩
    have hk : k < a₀.size := by omega
    refine wpS_bind (wpS_mono (wpS_forRange (I := fun x c st'' => st'' = st' ∧ ∃ l r, c = (none, l, r) ∧ l ≤ r ∧ r ≤ k ∧ r - l ≤ k - x ∧
        (∀ i, i < l → K (arrOf st') i ≤ K (arrOf st') k) ∧ (∀ i, r ≤ i → i < k → K (arrOf st') k < K (arrOf st') i))
      (Q := fun c st'' => st'' = st' ∧ ∃ l r, c = (none, l, r) ∧ l ≤ k ∧
        (∀ i, i < l → K (arrOf st') i ≤ K (arrOf st') k) ∧ (∀ i, l ≤ i → i < k → K (arrOf st') k < K (arrOf st') i)) ?istep ?ifin ⟨rfl, 0, k, rfl, by omega, by omega, by omega, fun i hi => absurd hi (Nat.not_lt_zero _), fun i h1 h2 => by omega⟩) ?ipost)
    case ifin =>
      rintro c st'' ⟨rfl, l, r, rfl, hlr, hrk, hm, hlo, hhi⟩
      have : l = r := by omega
      subst this
      exact ⟨rfl, l, l, rfl, hrk, hlo, hhi⟩
    case istep =>
      rintro x c st'' _ hxk ⟨rfl, l, r, rfl, hlr, hrk, hm, hlo, hhi⟩
      dsimp only
      by_cases hge : l ≥ r
      · rw [if_pos hge]
        have : l = r := by omega
        subst this
        exact wpS_pure ⟨rfl, l, l, rfl, hrk, hlo, hhi⟩
      · rw [if_neg hge]
        refine wpS_bind (wpS_ltK hB' h0 hk (by omega) ?_)
        by_cases hless : K (arrOf st'') k < K (arrOf st'') ((l + r) / 2)
        · rw [decide_eq_true hless]
          exact wpS_pure ⟨rfl, l, (l + r) / 2, rfl, by omega, by omega, by omega, hlo, fun i h1 h2 => Int.lt_of_lt_of_le hless (hs' _ _ h1 h2)⟩
        · rw [decide_eq_false hless]
          exact wpS_pure ⟨rfl, (l + r) / 2 + 1, r, rfl, by omega, by omega, by omega, fun i h1 => Int.le_trans (hs' i ((l + r) / 2) (by omega) (by omega)) (Int.not_lt.mp hless), hhi⟩
    case ipost =>
      rintro c st'' ⟨rfl, l, r, rfl, hlk, hlo, hhi⟩
      show wpS _ _ _ _ (do moveDown' k l; pure (ForInStep.yield (none, ()))) _ _
      rw [moveDown'_eq]
      have hks : k < (arrOf st'').size := by rw [hB'.size]; exact hk
      refine wpS_bind (wpS_modify (wpS_pure ⟨rfl, hB'.setArr (bubble_perm _ _ _), ins_sorted hks hlk hs' hlo hhi, fun i hi => ?_⟩))
      show (bubble (arrOf st'') k (k - l))[i]? = _
      rw [getElem?_bubble hks _ (Nat.sub_le _ _), if_neg (by omega), if_neg (by omega)]
      exact hf' i (by omega)

/-- two rising stretches: the first of n1 -/
noncomputable def Two (xs : Array Keyed) (n1 : Nat) : Prop := (∀ i, 0 < i → i < n1 → K xs (i - 1) < K xs i) ∧ ∀ i, n1 < i → i < xs.size → K xs (i - 1) < K xs i

theorem wpS_run0 {st : SortSt} {n1 : Nat} {Q : Option Nat → SortSt → Prop} (h0 : IntKeys a₀) (h2 : 2 ≤ a₀.size) (hB : SBase a₀ st) (hT : Two (arrOf st) n1)
    (h : ∀ m st', SBase a₀ st' → 1 ≤ m → n1 ≤ m ∨ m = a₀.size → m ≤ a₀.size → SortedTo (arrOf st') m → Beh (arrOf st') ((arrOf st)[·]?) m → Q (some m) st') :
    wpS (model prog w) A E s (countRun' 0 a₀.size) Q st := by
  have sz := hB.size
  rw [countRun0_eq]
  refine wpS_bind (wpS_ascLoop h0 (Nat.le_refl _) (Nat.le_refl 1) (by omega) hB (SortedTo.one _) fun n hn1 hn2 hsn hor => ?_)
  dsimp only
  by_cases hnn : n = a₀.size
  · rw [if_pos (by simpa using hnn)]
    exact wpS_pure (h n st hB hn1 (.inr hnn) hn2 hsn fun _ _ => rfl)
  · rw [if_neg (by simpa using hnn)]
    have hlt : K (arrOf st) n < K (arrOf st) (n - 1) := hor.resolve_left hnn
    have hn : n = n1 := by
      rcases Nat.lt_trichotomy n n1 with z | z | z
      · have := hT.1 n (by omega) z; omega
      · exact z
      · have := hT.2 n z (by omega); omega
    by_cases hgt : n > 1
    · rw [if_pos hgt]
      refine wpS_bind (wpS_ltK hB h0 (by omega) (by omega) ?_)
      have hrose : K (arrOf st) 0 < K (arrOf st) (n - 1) := Int.lt_of_lt_of_le (hT.1 1 (by omega) (by omega)) (hsn 1 (n - 1) (by omega) (by omega))
      rw [decide_eq_true hrose]
      exact wpS_pure (h n st hB hn1 (.inl (by omega)) hn2 hsn fun _ _ => rfl)
    · rw [if_neg hgt]
      have hn1' : n = 1 := by omega
      subst hn1'
      subst hn
      unfold descPart
      refine wpS_bind (wpS_lift (wpAny_rule ⟨rfl, ?_⟩))
      have stop : wpS (model prog w) A E s (descLoop (1 + 1) a₀.size) (fun c st' => st' = st ∧ c = (none, 2, 0)) st := by
        unfold descLoop
        refine wpS_forRange (I := fun x c st' => st' = st ∧ c = (none, 2, 0) ∧ (x = 2 ∨ a₀.size ≤ 2)) ?_ (fun c st' hh => ⟨hh.1, hh.2.1⟩) ⟨rfl, rfl, .inl rfl⟩
        rintro x c st' hx1 hx2 ⟨rfl, rfl, hx⟩
        have : x = 2 := by omega
        subst this
        dsimp only
        have h12 := hT.2 2 (by omega) (by omega)
        refine wpS_bind (wpS_ltK hB h0 (by omega) (by omega) ?_)
        rw [decide_eq_false (show ¬ K (arrOf st') 2 < K (arrOf st') (2 - 1) by omega)]
        refine wpS_bind (wpS_ltK hB h0 (by omega) (by omega) ?_)
        rw [decide_eq_true h12]
        exact wpS_pure ⟨rfl, rfl⟩
      refine wpS_bind (wpS_mono stop fun c st' hc => ?_)
      obtain ⟨rfl, rfl⟩ := hc
      show wpS _ _ _ _ (tail3 2 a₀.size) _ _
      unfold tail3
      refine wpS_bind (wpS_reverse ?_)
      have hB2 : SBase a₀ (setArr st' (mirror (arrOf st') 0 2 ((2 - 0) / 2))) := hB.setArr (mirror_perm _ _ _ _)
      have s2 : SortedTo (mirror (arrOf st') 0 2 ((2 - 0) / 2)) (1 + 1) := SortedTo.up (SortedTo.one _) (by
        rw [K_mirror (by omega), K_mirror (by omega)]
        exact Int.le_of_lt hlt)
      refine wpS_bind (wpS_ascLoop h0 (Nat.le_refl _) (by omega) h2 hB2 s2 fun m hm1 hm2 hsm _ => wpS_pure (h m _ hB2 (by omega) (.inl (by omega)) hm2 hsm fun i hi => ?_))
      show (mirror (arrOf st') 0 2 ((2 - 0) / 2))[i]? = _
      rw [getElem?_mirror_all (by omega), if_neg (by omega)]
end
end Mine.G

/- G11 -/
set_option tactic.hygienic false
/-! Mine: the sort of two rising runs: the whole. -/
namespace Mine.G
open PySem PyProof.Rows
set_option linter.unusedVariables false
section
variable {prog : Program} {w : World} {A : Around} {E : Value → Shared → Prop} {s : Shared} {a₀ : Array Keyed}

/-- as SBase, whatever is pending -/
structure SB (a₀ : Array Keyed) (p : Array (Nat × Nat × Nat)) (st : SortSt) : Prop where
  perm : (arrOf st).Perm a₀
  kind : kindOf st = oneType'
  failed : failedOf st = none
  pend : pendingOf st = p
theorem SB.size {p : Array (Nat × Nat × Nat)} {st : SortSt} (h : SB a₀ p st) : (arrOf st).size = a₀.size := h.perm.size_eq
theorem SB.ltAt {p : Array (Nat × Nat × Nat)} {st : SortSt} (h : SB a₀ p st) (h0 : IntKeys a₀) {i j : Nat} {Q : Option Bool → SortSt → Prop} (hi : i < a₀.size) (hj : j < a₀.size)
    (hq : Q (some (decide (K (arrOf st) i < K (arrOf st) j))) st) : wpS (model prog w) A E s (ltAt' i j) Q st := by
  have at' : ∀ i, i < a₀.size → ∃ t q, (arrOf st)[i]? = some (.int (K (arrOf st) i) t, q) := fun i hi => by
    have hi' : i < (arrOf st).size := by rw [h.size]; exact hi
    have hm : (arrOf st)[i] ∈ a₀.toList := (Array.perm_iff_toList_perm.mp h.perm).mem_iff.mp (by simp)
    obtain ⟨n, t, hn⟩ := h0 _ hm
    refine ⟨t, (arrOf st)[i].2, ?_⟩
    have e : (arrOf st)[i]? = some (arrOf st)[i] := getElem?_pos _ i hi'
    have e2 : (arrOf st)[i] = (.int n t, (arrOf st)[i].2) := Prod.ext hn rfl
    unfold K
    rw [e, e2]
    rfl
  obtain ⟨t, q, e1⟩ := at' i hi
  obtain ⟨u, r, e2⟩ := at' j hj
  exact wpS_ltAt h.kind e1 e2 hq

theorem wpS_run1 {st : SortSt} {p : Array (Nat × Nat × Nat)} {lo : Nat} {Q : Option Nat → SortSt → Prop} (h0 : IntKeys a₀) (hB : SB a₀ p st) (hlo : lo < a₀.size) (hr : ∀ i, lo < i → i < a₀.size → K (arrOf st) (i - 1) ≤ K (arrOf st) i)
    (h : Q (some (a₀.size - lo)) st) : wpS (model prog w) A E s (countRun' lo (a₀.size - lo)) Q st := by
  rw [countRun'_eq]
  refine wpS_bind (wpS_mono (wpS_forRange (I := fun x c st' => st' = st ∧ c = (none, x)) (Q := fun c st' => st' = st ∧ c = (none, a₀.size - lo)) ?step ?fin ⟨rfl, rfl⟩) ?post)
  case fin =>
    rintro c st' ⟨rfl, rfl⟩
    exact ⟨rfl, by rw [show max 1 (a₀.size - lo) = a₀.size - lo by omega]⟩
  case step =>
    rintro x c st' hx1 hx2 ⟨rfl, rfl⟩
    dsimp only
    refine wpS_bind (hB.ltAt h0 (by omega) (by omega) ?_)
    rw [decide_eq_false (Int.not_lt.mpr (hr (lo + x) (by omega) (by omega)))]
    exact wpS_pure ⟨rfl, rfl⟩
  case post =>
    rintro c st' ⟨rfl, rfl⟩
    dsimp only
    rw [if_pos (by simp)]
    exact wpS_pure h
theorem wpS_bin1 {st : SortSt} {lo n : Nat} {Q : Bool → SortSt → Prop} (hn : 1 ≤ n) (h : Q true st) : wpS (model prog w) A E s (binarySort' lo n n) Q st := by
  rw [binarySort'_eq]
  refine wpS_bind (wpS_mono (wpS_forRange (I := fun x c st' => st' = st ∧ c = (none, ())) (Q := fun c st' => st' = st ∧ c = (none, ())) ?_ (fun _ _ z => z) ⟨rfl, rfl⟩) ?_)
  · rintro x c st' h1 h2 _; omega
  · rintro c st' ⟨rfl, rfl⟩
    exact wpS_pure h

theorem sorted_pair {xs : Array Keyed} {i n : Nat} (h : ∀ p q, i ≤ p → p ≤ q → q < i + n → K xs p ≤ K xs q) (hn : i + n ≤ xs.size) : ((xs.toList.drop i).take n).Pairwise Le := by
  rw [List.pairwise_iff_getElem]
  intro p q hp hq hpq
  rw [List.length_take, List.length_drop, Array.length_toList] at hp hq
  have e : ∀ p, (hp : p < n) → (h1 : p < ((xs.toList.drop i).take n).length) → kap ((xs.toList.drop i).take n)[p] = K xs (i + p) := fun p hp h1 => by
    rw [List.getElem_take, List.getElem_drop]
    unfold K
    rw [getElem?_pos xs (i + p) (by omega)]
    rfl
  show kap _ ≤ kap _
  rw [e p (by omega), e q (by omega)]
  exact h _ _ (by omega) (by omega) (by omega)
end
end Mine.G

/- G12 -/
set_option tactic.hygienic false
/-! Mine: the sort of two rising runs: sortRuns. -/
namespace Mine.G
open PySem PyProof.Rows
set_option linter.unusedVariables false
section
variable {prog : Program} {w : World} {A : Around} {E : Value → Shared → Prop} {s : Shared} {a₀ : Array Keyed}

theorem wpS_set {σ : Type} {Mo : Model} {st st' : σ} {Q : PUnit → σ → Prop} (h : Q ⟨⟩ st') : wpS Mo A E s (set st' : StateT σ Sem PUnit) Q st := by
  unfold wpS; rw [StateT.run_set]; exact wpAny_pure ⟨rfl, h⟩

/-- sorted to m, rising from m -/
structure Mid (N m : Nat) (xs : Array Keyed) : Prop where
  p1 : 1 ≤ m
  p2 : m < N
  so : SortedTo xs m
  up : ∀ i, m < i → i < N → K xs (i - 1) ≤ K xs i
theorem Mid.seg {N m : Nat} {xs : Array Keyed} (h : Mid N m xs) : ∀ p q, m ≤ p → p ≤ q → q < m + (N - m) → K xs p ≤ K xs q := fun p q hp hpq hq => by
  obtain ⟨d, rfl⟩ : ∃ d, q = p + d := ⟨q - p, by omega⟩
  induction d with
  | zero => exact Int.le_refl _
  | succ d ih => exact Int.le_trans (ih (by omega) (by omega)) (h.up (p + (d + 1)) (by omega) (by have := h.p2; omega))

theorem wpS_merge2 {st : SortSt} {m pw : Nat} {Q : Bool → SortSt → Prop} (h0 : IntKeys a₀) (hB : SB a₀ #[(0, m, pw), (m, a₀.size - m, 0)] st) (hM : Mid a₀.size m (arrOf st))
    (h : ∀ st' pw, SB a₀ #[(0, a₀.size, pw)] st' → SortedTo (arrOf st') a₀.size → Q true st') : wpS (model prog w) A E s (mergeAt' 0) Q st := by
  have sz := hB.size
  have m1 := hM.p1
  have m2 := hM.p2
  rw [mergeAt'_eq]
  refine wpS_bind (wpS_get ?_)
  rw [hB.pend]
  show wpS _ _ _ _ (set (setPending st ((#[(0, m, pw), (m, a₀.size - m, 0)].setIfInBounds 0 (0, m + (a₀.size - m), pw)).eraseIdxIfInBounds (0 + 1))) >>= fun _ => mAt (arrOf st) 0 m m (a₀.size - m)) _ _
  rw [show (#[(0, m, pw), (m, a₀.size - m, 0)].setIfInBounds 0 (0, m + (a₀.size - m), pw)).eraseIdxIfInBounds (0 + 1) = #[(0, m + (a₀.size - m), pw)] by simp]
  refine wpS_bind (wpS_set ?_)
  have e : (arrOf st).toList = (arrOf st).toList.take m ++ (arrOf st).toList.drop m := (List.take_append_drop _ _).symm
  have len1 : ((arrOf st).toList.take m).length = m := by rw [List.length_take, Array.length_toList]; omega
  have len2 : ((arrOf st).toList.drop m).length = a₀.size - m := by rw [List.length_drop, Array.length_toList]; omega
  have hI : Ints ((arrOf st).toList.take m ++ (arrOf st).toList.drop m) := fun x hx => by
    rw [← e] at hx
    obtain ⟨n, t, hn⟩ := h0 x ((Array.perm_iff_toList_perm.mp hB.perm).mem_iff.mp hx)
    exact ⟨t, x.2, Prod.ext (by show x.1 = .int (numOf x.1) t; rw [hn]; rfl) rfl⟩
  have s1 : ((arrOf st).toList.take m).Pairwise Le := sorted_pair (xs := arrOf st) (i := 0) (n := m) (fun p q _ hpq hq => hM.so p q hpq (by omega)) (by omega)
  have s2 : ((arrOf st).toList.drop m).Pairwise Le := by
    have := sorted_pair (xs := arrOf st) (i := m) (n := a₀.size - m) hM.seg (by omega)
    rwa [List.take_of_length_le (by omega)] at this
  have key := wpS_mAt (prog := prog) (w := w) (A := A) (E := E) (s := s) (st := setPending st #[(0, m + (a₀.size - m), pw)]) (Q := Q) hB.kind hB.failed rfl e hI s1 s2 (fun z => by rw [z] at len1; simp at len1; omega) (fun z => by rw [z] at len2; simp at len2; omega) fun st' k1 k2 k3 k4 => by
    rw [← e] at k4
    have hp : (arrOf st').Perm (arrOf st) := Array.perm_iff_toList_perm.mpr k4.1
    refine h st' pw ⟨hp.trans hB.perm, k1, k2, k3.trans ?_⟩ fun i j hij hj => ?_
    · show #[(0, m + (a₀.size - m), pw)] = _
      rw [show m + (a₀.size - m) = a₀.size by omega]
    · have hz : (arrOf st').size = a₀.size := (hp.trans hB.perm).size_eq
      by_cases ee : i = j
      · subst ee; exact Int.le_refl _
      · have := List.pairwise_iff_getElem.mp k4.2 i j (by simp; omega) (by simp; omega) (by omega)
        rw [K_eq (by omega), K_eq (by omega)]
        exact this
  rw [len1, len2] at key
  exact key

/-- one run, or two -/
noncomputable def Fin2 (a₀ : Array Keyed) (st : SortSt) : Prop := (SB a₀ #[(0, a₀.size, 0)] st ∧ SortedTo (arrOf st) a₀.size) ∨ ∃ m pw, SB a₀ #[(0, m, pw), (m, a₀.size - m, 0)] st ∧ Mid a₀.size m (arrOf st)
noncomputable def In1 (a₀ : Array Keyed) (st : SortSt) (x n : Nat) (st' : SortSt) : Prop := (x = 0 ∧ n = 0 ∧ st = st') ∨ (x = 1 ∧ SB a₀ #[(0, n, 0)] st' ∧ Mid a₀.size n (arrOf st')) ∨ (1 ≤ x ∧ n = a₀.size ∧ Fin2 a₀ st')
theorem In1.first {st st3 : SortSt} {n1 m n : Nat} (hT : Two (arrOf st) n1) (sz : (arrOf st).size = a₀.size) (hm1 : 1 ≤ m) (hm3 : n1 ≤ m ∨ m = a₀.size) (hB3 : SBase a₀ st3) (hmn : m ≤ n) (hn : n ≤ a₀.size) (hs3 : SortedTo (arrOf st3) n) (hf3 : Beh (arrOf st3) ((arrOf st)[·]?) n) :
    In1 a₀ st (0 + 1) (0 + n) (setPending st3 ((pendingOf st3).push (0, n, 0))) := by
  rw [Nat.zero_add, Nat.zero_add]
  have hS : SB a₀ #[(0, n, 0)] (setPending st3 ((pendingOf st3).push (0, n, 0))) := ⟨hB3.perm, hB3.kind, hB3.failed, by show (pendingOf st3).push _ = _; rw [hB3.pend]; rfl⟩
  by_cases hN : n = a₀.size
  · subst hN
    exact .inr (.inr ⟨Nat.le_refl _, rfl, .inl ⟨hS, hs3⟩⟩)
  · refine .inr (.inl ⟨rfl, hS, by omega, by omega, hs3, fun i hi hi2 => ?_⟩)
    have k1 : K (arrOf st3) (i - 1) = K (arrOf st) (i - 1) := K_congr (hf3 (i - 1) (by omega))
    have k2 : K (arrOf st3) i = K (arrOf st) i := K_congr (hf3 i (by omega))
    show K (arrOf st3) (i - 1) ≤ K (arrOf st3) i
    rw [k1, k2]
    exact Int.le_of_lt (hT.2 i (by omega) (by omega))

theorem wpS_sortTwo {st : SortSt} {n1 : Nat} {Q : Unit → SortSt → Prop} (h0 : IntKeys a₀) (hB : SBase a₀ st) (h2 : 2 ≤ a₀.size) (hT : Two (arrOf st) n1)
    (h : ∀ st', (arrOf st').Perm a₀ → failedOf st' = none → SortedTo (arrOf st') a₀.size → Q () st') : wpS (model prog w) A E s sortRuns' Q st := by
  rw [sortRuns'_eq]
  refine wpS_bind (wpS_get ?_)
  dsimp only
  have sz := hB.size
  simp only [hB.size]
  generalize minRun' a₀.size a₀.size 0 = mr
  refine wpS_bind (wpS_mono (wpS_forRange (I := fun x c st' => c.1 = none ∧ In1 a₀ st x c.2 st') (Q := fun c st' => c.1 = none ∧ Fin2 a₀ st') ?step ?fin ⟨rfl, .inl ⟨rfl, rfl, rfl⟩⟩) ?post)
  case fin =>
    rintro ⟨c1, c2⟩ st' ⟨hc, ⟨hx, _, _⟩ | ⟨hx, _⟩ | ⟨_, _, hD⟩⟩
    · omega
    · omega
    · exact ⟨hc, hD⟩
  case step =>
    rintro x ⟨c1, c2⟩ st' _ hx ⟨hc, ⟨hx0, hn, hst⟩ | ⟨hx1, hS, hM⟩ | ⟨hx1, hn, hD⟩⟩
    · dsimp only at hc hn ⊢
      subst hc hx0 hn hst
      rw [if_neg (by omega)]
      simp only [Nat.sub_zero]
      refine wpS_bind (wpS_run0 h0 h2 hB hT fun m st2 hB2 hm1 hm3 hm2 hs2 hf2 => ?_)
      dsimp only
      by_cases hlt : m < mr
      · rw [if_pos hlt]
        refine wpS_bind (wpS_lift (wpAny_rule ⟨rfl, ?_⟩))
        refine wpS_bind (wpS_bin (n := min a₀.size mr) h0 (by omega) hm1 (by omega) hB2 hs2 hf2 fun st3 hB3 hs3 hf3 => ?_)
        simp only [Bool.not_true, Bool.false_eq_true, if_false]
        refine wpS_bind (wpS_get ?_)
        have hb : (pendingOf st3).back? = none := by rw [hB3.pend]; rfl
        rw [hb]
        dsimp only
        exact wpS_bind (wpS_modify (wpS_pure ⟨rfl, In1.first hT sz hm1 hm3 hB3 (by omega) (by omega) hs3 hf3⟩))
      · rw [if_neg hlt]
        refine wpS_bind (wpS_get ?_)
        have hb : (pendingOf st2).back? = none := by rw [hB2.pend]; rfl
        rw [hb]
        dsimp only
        exact wpS_bind (wpS_modify (wpS_pure ⟨rfl, In1.first hT sz hm1 hm3 hB2 (Nat.le_refl _) hm2 hs2 hf2⟩))
    · dsimp only at hc hS hM ⊢
      subst hc hx1
      have m2 := hM.p2
      rw [if_neg (by omega)]
      refine wpS_bind (wpS_run1 h0 hS m2 hM.up ?_)
      dsimp only
      have hb : (#[(0, c2, 0)] : Array (Nat × Nat × Nat)).back? = some (0, c2, 0) := rfl
      by_cases hlt : a₀.size - c2 < mr
      · rw [if_pos hlt, show min (a₀.size - c2) mr = a₀.size - c2 by omega]
        refine wpS_bind (wpS_lift (wpAny_rule ⟨rfl, ?_⟩))
        refine wpS_bind (wpS_bin1 (by omega) ?_)
        simp only [Bool.not_true, Bool.false_eq_true, if_false]
        refine wpS_bind (wpS_get ?_)
        rw [hS.pend]
        show wpS _ _ _ _ (forIn [0:a₀.size] ((none, ()) : Option Unit × Unit) _ >>= _) _ _
        refine wpS_bind (wpS_mono (wpS_forRange (I := fun _ c st'' => st' = st'' ∧ c = (none, ())) (Q := fun c st'' => st' = st'' ∧ c = (none, ())) ?_ (fun _ _ z => z) ⟨rfl, rfl⟩) ?_)
        · rintro y c st'' _ _ ⟨rfl, rfl⟩
          refine wpS_bind (wpS_get ?_)
          rw [hS.pend]
          exact wpS_pure ⟨rfl, rfl⟩
        · rintro c st'' ⟨rfl, rfl⟩
          refine wpS_bind (wpS_modify (wpS_bind (wpS_modify (wpS_pure ⟨rfl, .inr (.inr ⟨by omega, by show c2 + (a₀.size - c2) = _; omega, .inr ⟨c2, power' a₀.size (2 * 0 + c2) (2 * 0 + c2 + c2 + (a₀.size - c2)) a₀.size, ⟨hS.perm, hS.kind, hS.failed, ?_⟩, hM⟩⟩)⟩))))
          show ((pendingOf st').modify ((pendingOf st').size - 1) _).push _ = _
          rw [hS.pend]
          rfl
      · rw [if_neg hlt]
        refine wpS_bind (wpS_get ?_)
        rw [hS.pend]
        show wpS _ _ _ _ (forIn [0:a₀.size] ((none, ()) : Option Unit × Unit) _ >>= _) _ _
        refine wpS_bind (wpS_mono (wpS_forRange (I := fun _ c st'' => st' = st'' ∧ c = (none, ())) (Q := fun c st'' => st' = st'' ∧ c = (none, ())) ?_ (fun _ _ z => z) ⟨rfl, rfl⟩) ?_)
        · rintro y c st'' _ _ ⟨rfl, rfl⟩
          refine wpS_bind (wpS_get ?_)
          rw [hS.pend]
          exact wpS_pure ⟨rfl, rfl⟩
        · rintro c st'' ⟨rfl, rfl⟩
          refine wpS_bind (wpS_modify (wpS_bind (wpS_modify (wpS_pure ⟨rfl, .inr (.inr ⟨by omega, by show c2 + (a₀.size - c2) = _; omega, .inr ⟨c2, power' a₀.size (2 * 0 + c2) (2 * 0 + c2 + c2 + (a₀.size - c2)) a₀.size, ⟨hS.perm, hS.kind, hS.failed, ?_⟩, hM⟩⟩)⟩))))
          show ((pendingOf st').modify ((pendingOf st').size - 1) _).push _ = _
          rw [hS.pend]
          rfl
    · dsimp only at hc hn ⊢
      subst hc hn
      rw [if_pos (Nat.le_refl _)]
      exact wpS_pure ⟨rfl, hD⟩
  case post =>
    rintro ⟨c1, c2⟩ st' ⟨hc, hD⟩
    dsimp only at hc ⊢
    subst hc
    refine wpS_bind (wpS_mono (wpS_forRange (I := fun x c st'' => c = (none, ()) ∧ ((x = 0 ∧ ∃ m pw, SB a₀ #[(0, m, pw), (m, a₀.size - m, 0)] st'' ∧ Mid a₀.size m (arrOf st'')) ∨ ∃ pw, SB a₀ #[(0, a₀.size, pw)] st'' ∧ SortedTo (arrOf st'') a₀.size))
      (Q := fun c st'' => c = (none, ()) ∧ ∃ pw, SB a₀ #[(0, a₀.size, pw)] st'' ∧ SortedTo (arrOf st'') a₀.size) ?step2 ?fin2 ⟨rfl, hD.elim (fun z => .inr ⟨0, z⟩) fun z => .inl ⟨rfl, z⟩⟩) ?post2)
    case fin2 =>
      rintro c st'' ⟨hc, ⟨hx, _⟩ | z⟩
      · omega
      · exact ⟨hc, z⟩
    case post2 =>
      rintro c st'' ⟨rfl, pw, hS, hs⟩
      exact wpS_pure (h st'' hS.perm hS.failed hs)
    case step2 =>
      rintro x c st'' _ _ ⟨rfl, ⟨rfl, m, pw, hS, hM⟩ | ⟨pw, hS, hs⟩⟩
      · refine wpS_bind (wpS_get ?_)
        rw [hS.pend]
        show wpS _ _ _ _ (mergeAt' 0 >>= _) _ _
        refine wpS_bind (wpS_merge2 h0 hS hM fun st3 pw3 hS3 hs3 => ?_)
        exact wpS_pure ⟨rfl, .inr ⟨pw3, hS3, hs3⟩⟩
      · refine wpS_bind (wpS_get ?_)
        rw [hS.pend]
        exact wpS_pure ⟨rfl, pw, hS, hs⟩
end
end Mine.G

/- G13 -/
set_option tactic.hygienic false
/-! Mine: the sort of two rising runs: the builtin sorted. -/
namespace Mine.G
open PySem PyProof.Rows
set_option linter.unusedVariables false
set_option maxRecDepth 100000
section
variable {prog : Program} {w : World} {A : Around} {E : Value → Shared → Prop} {s : Shared}

theorem sort_two {a : Addr} {v₁ v₂ : Value} {rest : List Value} {ns : List Int} {n n1 : Nat} {P : Fin → Shared → Prop} (ho : s.heap.get? a = some (seqObj "list" (v₁ :: v₂ :: rest).toArray n))
    (hI : IntsAre (v₁ :: v₂ :: rest) ns) (hz : (v₁ :: v₂ :: rest).length ≤ 2 ^ 20) (hT : Two (pairsOf (v₁ :: v₂ :: rest)) n1)
    (h : ∀ (out : Array Value) (ns' : List Int), IntsAre out.toList ns' → ns'.Perm ns → ns'.Pairwise (· ≤ ·) → P (.done (.ret .none)) { s with heap := sortedHeap s.heap a (v₁ :: v₂ :: rest) out }) :
    wpAny (model prog w) A (Builtin.«list.sort» ⟨[.ref a], []⟩) P E s := by
  rw [list_sort_plain]
  have ha : a < s.heap.objs.size := Heap.lt_size ho
  have line : (v₁ :: v₂ :: rest).length ≤ sizeLine := by rw [sizeLine_eq]; omega
  refine wpAny_bind (listItems_at ho rfl (wpAny_bind (listUpdate_at ho rfl ?_ (by simpa using line) (by simp))))
  obtain ⟨e1, ho1⟩ : ∃ e1, (s.heap.update a (Obj.mapSeq fun _ => #[])).get? a = some (seqObj "list" #[] e1) := ⟨_, get?_update_seq ho (fun _ => #[])⟩
  refine wpAny_bind (seqEpoch_at ho1 rfl (wpAny_bind (wpAny_newTuple (wpAny_bind (wpAny_newList (wpAny_holding ?_))))))
  have ho6 : (((s.heap.update a (Obj.mapSeq fun _ => #[])).push (seqObj "tuple" (v₁ :: v₂ :: rest).toArray 0)).push (seqObj "list" #[] 0)).get? a = some (seqObj "list" #[] e1) :=
    Heap.get?_push_of_some _ (Heap.get?_push_of_some _ ho1)
  show wpAny (model prog w) A _ P E { s with heap := ((s.heap.update a (Obj.mapSeq fun _ => #[])).push (seqObj "tuple" (v₁ :: v₂ :: rest).toArray 0)).push (seqObj "list" #[] 0) }
  dsimp only
  have h2 : ¬ (v₁ :: v₂ :: rest).toArray.size < 2 := by simp
  rw [if_neg h2, if_neg h2, keyKind_ints hI]
  refine wpAny_bind (wpAny_pure ?_)
  refine wpAny_bind (wpAny_mono (wpS_sortTwo (a₀ := pairsOf (v₁ :: v₂ :: rest)) (st := SortSt.mk' oneType' ((v₁ :: v₂ :: rest).toArray.zip (v₁ :: v₂ :: rest).toArray) #[] 7 none)
    (Q := fun _ st' => (arrOf st').Perm (pairsOf (v₁ :: v₂ :: rest)) ∧ failedOf st' = none ∧ SortedTo (arrOf st') (pairsOf (v₁ :: v₂ :: rest)).size)
    hI.intKeys ⟨Array.Perm.refl _, rfl, rfl, rfl⟩ (by rw [pairsOf_size]; simp) hT fun st' a1 a2 a3 => ⟨a1, a2, a3⟩) ?_ fun _ _ e => e)
  rintro ⟨⟨⟩, st'⟩ s' ⟨rfl, hp, hf, hs⟩
  dsimp only
  refine wpAny_bind (seqEpoch_at ho6 rfl ?_)
  refine wpAny_bind (listUpdate_at ho6 rfl ?_ (Nat.zero_le _) (by refine Nat.le_trans (Nat.le_of_eq ((Array.size_map ..).trans (hp.size_eq.trans (pairsOf_size _)))) (Nat.le_succ_of_le line)))
  rw [hf]
  simp only [bne_self_eq_false, Bool.false_eq_true, if_false]
  obtain ⟨ns', h1, h2, h3⟩ := sorted_out hI hp hs
  exact wpAny_pure (h _ ns' h1 h2 h3)

theorem sorted_two {l : Addr} {v₁ v₂ : Value} {rest : List Value} {ns : List Int} {n1 : Nat} {Q : Value → Shared → Prop} (hl : s.heap.IsList l (v₁ :: v₂ :: rest).toArray) (hI : IntsAre (v₁ :: v₂ :: rest) ns) (hz : (v₁ :: v₂ :: rest).length ≤ 2 ^ 20) (hT : Two (pairsOf (v₁ :: v₂ :: rest)) n1)
    (h : ∀ (out : Array Value) (ns' : List Int), IntsAre out.toList ns' → ns'.Perm ns → ns'.Pairwise (· ≤ ·) → Q (.ref (s.heap.objs.size + 1)) { s with heap := sortedAll s.heap (v₁ :: v₂ :: rest) out }) :
    wpAny (model prog w) A (call (.builtin "sorted") [.ref l]) Q E s := by
  have line : (v₁ :: v₂ :: rest).length ≤ sizeLine := by rw [sizeLine_eq]; omega
  refine Calls.call_function_entry kind_sorted plain_sorted entry_sorted (args_sorted1 _) ?_
  unfold Builtin.«sorted»
  refine wpAny_bind (m := checkCount "sorted" 1 1 _) (wpAny_pure ?_)
  refine wpAny_bind (collect_list hl (wpAny_bind (wpAny_newList ?_)) line)
  have hsz : ((s.heap.push (seqObj "list" #[] 0)).update s.heap.objs.size (Obj.mapSeq (· ++ (v₁ :: v₂ :: rest).toArray))).objs.size = s.heap.objs.size + 1 := by
    rw [Heap.size_update, size_push']
  have hoL : (((s.heap.push (seqObj "list" #[] 0)).update s.heap.objs.size (Obj.mapSeq (· ++ (v₁ :: v₂ :: rest).toArray))).push (seqObj "list" (v₁ :: v₂ :: rest).toArray 0)).get? (s.heap.objs.size + 1) = some (seqObj "list" (v₁ :: v₂ :: rest).toArray 0) := by
    rw [← hsz]; exact Heap.get?_push_size _ rfl
  show wpAny _ _ _ _ _ { s with heap := ((s.heap.push (seqObj "list" #[] 0)).update s.heap.objs.size (Obj.mapSeq (· ++ (v₁ :: v₂ :: rest).toArray))).push (seqObj "list" (v₁ :: v₂ :: rest).toArray 0) }
  rw [hsz]
  refine wpAny_bind (wpAny_holding (wpAny_call_entry slot_list_sort ⟨_, hoL, rfl⟩ entry_list_sort (sort_two hoL hI hz hT fun out ns' a1 a2 a3 => ⟨_, rfl, ?_⟩) (args_list_sort _)))
  exact wpAny_pure ⟨_, rfl, h out ns' a1 a2 a3⟩
end
end Mine.G

/- N1 -/
set_option tactic.hygienic false
/-! Mine: what the mini-interpreter's states mean in the model. -/
namespace Mine
open PySem PySem.Spec PySem.Calls PyProof.Rows

/-- what stands under the whole run: the program, the heap before the law's call, and which classes are its own exceptions -/
structure Cx where
  prog : Program
  w : World
  base : Heap
  own : Addr → Prop
abbrev Cx.M (X : Cx) : Model := model X.prog X.w

noncomputable def IsPartV (v : Value) : Option Int → Prop
  | Option.none => v = .none
  | some i => ∃ t, v = .int i t

mutual
/-- the value stands for the abstract one -/
noncomputable def Rep (X : Cx) (ρ : List Addr) (h : Heap) (v : Value) (a : AV) : Prop := match a with
  | .none => v = .none
  | .bool b => v = .bool b
  | .int i => ∃ t, v = .int i t
  | .str x => ∃ t, v = .str x t
  | .tup xs => ∃ a vs, v = .ref a ∧ vs.length ≤ bigN ∧ h.IsTuple a vs.toArray ∧ RepAll X ρ h vs xs
  | .ref n => ∃ a, v = .ref a ∧ ρ[n]? = some a
  | .frozen ns => ∃ a vs, v = .ref a ∧ X.base.IsList a vs.toArray ∧ IntsAre vs ns
  | .typ t => ∃ n : String, v = .type n ∧ t = (n : Str)
  | .sl p q => ∃ a o u u', v = .ref a ∧ h.get? a = some o ∧ o.cls = .type "slice" ∧ o.data = .fields #[u, u', .none] ∧ IsPartV u p ∧ IsPartV u' q
termination_by structural a
noncomputable def RepAll (X : Cx) (ρ : List Addr) (h : Heap) (vs : List Value) (xs : List AV) : Prop := match xs with
  | [] => vs = []
  | x :: r => ∃ v vs', vs = v :: vs' ∧ Rep X ρ h v x ∧ RepAll X ρ h vs' r
termination_by structural xs
end

/-- an object that is no tuple and no slice -/
noncomputable def Loose (o : Obj) : Prop := (o.cls ≠ .type "tuple" ∧ o.cls ≠ .type "slice") ∨ (∃ es n, o.data = .dict es n) ∨ ∃ v, o.data = .cell v
theorem Loose.typ {o : Obj} {c : String} (h : o.cls = .type c) (h1 : (c == "tuple" || c == "slice") = false := by rfl) : Loose o := by
  have h2 := Bool.or_eq_false_iff.mp h1
  exact .inl ⟨fun q => (by rw [h] at q; cases q; exact Bool.noConfusion h2.1), fun q => (by rw [h] at q; cases q; exact Bool.noConfusion h2.2)⟩
theorem Loose.obj {o : Obj} {C : Addr} (h : o.cls = .ref C) : Loose o := .inl ⟨fun q => (by rw [h] at q; cases q), fun q => (by rw [h] at q; cases q)⟩

/-- what is not in S stays; slots may turn where names stand -/
noncomputable def Keep (S : List Addr) (h h' : Heap) : Prop := ∀ b o, h.get? b = some o → b ∉ S → ∃ sl, h'.get? b = some { o with slots := sl } ∧ ((∀ es n, o.data ≠ .dict es n) → sl = o.slots)
theorem Keep.refl (S : List Addr) (h : Heap) : Keep S h h := fun _ o e _ => ⟨o.slots, e, fun _ => rfl⟩
theorem Keep.trans {S : List Addr} {h₁ h₂ h₃ : Heap} (x : Keep S h₁ h₂) (y : Keep S h₂ h₃) : Keep S h₁ h₃ := fun b o e n =>
  let ⟨_, e₁, q₁⟩ := x b o e n; let ⟨sl, e₂, q₂⟩ := y b _ e₁ n; ⟨sl, e₂, fun z => (q₂ z).trans (q₁ z)⟩
theorem Keep.mono {S T : List Addr} {h h' : Heap} (x : Keep S h h') (hs : ∀ b ∈ S, b ∈ T) : Keep T h h' := fun b o e n => x b o e fun q => n (hs b q)
/-- all but one object stay to the letter -/
theorem Keep.ext {a : Addr} {h h' : Heap} (x : Heap.ExtBut a h h') : Keep [a] h h' := fun b o e n => ⟨o.slots, x b o (fun q => n (by rw [q]; exact .head _)) e, fun _ => rfl⟩
theorem Keep.of_stays {S : List Addr} {h h' : Heap} (x : h.StaysIn h') : Keep S h h' := fun b o e _ => ⟨o.slots, x b o e, fun _ => rfl⟩
theorem Keep.exact {S : List Addr} {h h' : Heap} (x : Keep S h h') {b : Addr} {o : Obj} (e : h.get? b = some o) (n : b ∉ S) (d : ∀ es n, o.data ≠ .dict es n) : h'.get? b = some o := by
  obtain ⟨sl, e', q⟩ := x b o e n
  rw [e', q d]
theorem Keep.fields {S : List Addr} {h h' : Heap} (x : Keep S h h') {b : Addr} {o : Obj} {fs : Array Value} (e : h.get? b = some o) (n : b ∉ S) (d : o.data = .fields fs) : h'.get? b = some o :=
  x.exact e n fun es n q => by rw [d] at q; cases q

noncomputable def SOk (h : Heap) (S : List Addr) : Prop := ∀ b ∈ S, ∀ o, h.get? b = some o → Loose o
theorem SOk.nil {h : Heap} : SOk h [] := fun _ hb => (nomatch hb)
theorem SOk.one {h : Heap} {a : Addr} (x : ∀ o, h.get? a = some o → Loose o) : SOk h [a] := fun b hb o ho => x o (by rw [← List.mem_singleton.mp hb]; exact ho)
theorem SOk.app {h : Heap} {S T : List Addr} (x : SOk h S) (y : SOk h T) : SOk h (S ++ T) := fun b hb o ho => (List.mem_append.mp hb).elim (fun q => x b q o ho) fun q => y b q o ho

noncomputable def Ext (ρ ρ' : List Addr) : Prop := ∀ (n : Nat) (a : Addr), ρ[n]? = some a → ρ'[n]? = some a
theorem Ext.refl (ρ : List Addr) : Ext ρ ρ := fun _ _ e => e
theorem Ext.trans {a b c : List Addr} (x : Ext a b) (y : Ext b c) : Ext a c := fun n z e => y n z (x n z e)
theorem Ext.app (ρ τ : List Addr) : Ext ρ (ρ ++ τ) := fun n a e => by
  rw [List.getElem?_append_left (List.getElem?_eq_some_iff.mp e).1]; exact e

section
variable {X : Cx} {ρ ρ' : List Addr} {S : List Addr} {h h' : Heap}
theorem IsTuple.keep {a : Addr} {its : Array Value} (hk : Keep S h h') (hs : SOk h S) (t : h.IsTuple a its) : h'.IsTuple a its := by
  obtain ⟨o, ho, hc, n, hd⟩ := t
  have hn : a ∉ S := fun q => by
    rcases hs a q o ho with ⟨e, _⟩ | ⟨es, k, e⟩ | ⟨v, e⟩
    · exact e hc
    · rw [hd] at e; cases e
    · rw [hd] at e; cases e
  obtain ⟨sl, e, _⟩ := hk a o ho hn
  exact ⟨_, e, hc, n, hd⟩
theorem slice_keep {a : Addr} {o : Obj} {fs : Array Value} (hk : Keep S h h') (hs : SOk h S) (ho : h.get? a = some o) (hc : o.cls = .type "slice") (hd : o.data = .fields fs) : h'.get? a = some o := by
  refine hk.fields ho (fun q => ?_) hd
  rcases hs a q o ho with ⟨_, e⟩ | ⟨es, k, e⟩ | ⟨v, e⟩
  · exact e hc
  · rw [hd] at e; cases e
  · rw [hd] at e; cases e
mutual
theorem Rep.mono (hk : Keep S h h') (hs : SOk h S) (hr : Ext ρ ρ') {v : Value} {a : AV} (r : Rep X ρ h v a) : Rep X ρ' h' v a := by
  cases a with
  | tup xs => obtain ⟨a, vs, e, z, t, q⟩ := r; exact ⟨a, vs, e, z, IsTuple.keep hk hs t, RepAll.mono hk hs hr q⟩
  | ref n => obtain ⟨a, e, q⟩ := r; exact ⟨a, e, hr _ _ q⟩
  | sl p q => obtain ⟨a, o, u, u', e, e1, c, d, q⟩ := r; exact ⟨a, o, u, u', e, slice_keep hk hs e1 c d, c, d, q⟩
  | none => exact r
  | bool b => exact r
  | int i => exact r
  | str x => exact r
  | frozen ns => exact r
  | typ t => exact r
termination_by structural a
theorem RepAll.mono (hk : Keep S h h') (hs : SOk h S) (hr : Ext ρ ρ') {vs : List Value} {xs : List AV} (r : RepAll X ρ h vs xs) : RepAll X ρ' h' vs xs := by
  cases xs with
  | nil => exact r
  | cons x xs => obtain ⟨v, vs', e, r1, r2⟩ := r; exact ⟨v, vs', e, Rep.mono hk hs hr r1, RepAll.mono hk hs hr r2⟩
termination_by structural xs
end
theorem RepAll.nil : RepAll X ρ h [] [] := rfl
theorem RepAll.cons {v : Value} {vs : List Value} {x : AV} {xs : List AV} (r : Rep X ρ h v x) (q : RepAll X ρ h vs xs) : RepAll X ρ h (v :: vs) (x :: xs) := ⟨v, vs, rfl, r, q⟩
theorem RepAll.one {v : Value} {x : AV} (r : Rep X ρ h v x) : RepAll X ρ h [v] [x] := .cons r .nil
theorem RepAll.length {xs : List AV} : ∀ {vs : List Value}, RepAll X ρ h vs xs → vs.length = xs.length := by
  induction xs with
  | nil => intro vs r; rw [show vs = [] from r]; rfl
  | cons x xs ih => intro vs r; obtain ⟨v, vs', rfl, _, q⟩ := r; exact congrArg (· + 1) (ih q)
theorem RepAll.get {xs : List AV} : ∀ {vs : List Value}, RepAll X ρ h vs xs → ∀ {n : Nat} {x : AV}, xs[n]? = some x → ∃ v, vs[n]? = some v ∧ Rep X ρ h v x := by
  induction xs with
  | nil => intro vs r n x e; cases e
  | cons y xs ih =>
    intro vs r n x e
    obtain ⟨v, vs', rfl, r1, q⟩ := r
    cases n with
    | zero => cases e; exact ⟨v, rfl, r1⟩
    | succ n => exact ih q (n := n) e
theorem RepAll.append {xs ys : List AV} {ws : List Value} (b : RepAll X ρ h ws ys) : ∀ {vs : List Value}, RepAll X ρ h vs xs → RepAll X ρ h (vs ++ ws) (xs ++ ys) := by
  induction xs with
  | nil => intro vs r; rw [show vs = [] from r]; exact b
  | cons x xs ih => intro vs r; obtain ⟨v, vs', rfl, r1, q⟩ := r; exact .cons r1 (ih q)
theorem RepAll.set {v : Value} {x : AV} (r1 : Rep X ρ h v x) {xs : List AV} : ∀ {vs : List Value}, RepAll X ρ h vs xs → ∀ n, RepAll X ρ h (vs.set n v) (xs.set n x) := by
  induction xs with
  | nil => intro vs r n; rw [show vs = [] from r]; exact .nil
  | cons y xs ih =>
    intro vs r n
    obtain ⟨u, vs', rfl, r2, q⟩ := r
    cases n with
    | zero => exact .cons r1 q
    | succ n => exact .cons r2 (ih q n)
end

/-- a plain list -/
noncomputable def IsL (h : Heap) (a : Addr) (vs : List Value) : Prop := ∃ o n, h.get? a = some o ∧ o.cls = .type "list" ∧ o.dict = none ∧ o.data = .seq vs.toArray n
theorem IsL.is {h : Heap} {a : Addr} {vs : List Value} (x : IsL h a vs) : h.IsList a vs.toArray := let ⟨o, n, e, c, _, d⟩ := x; ⟨o, e, c, n, d⟩
theorem IsL.mut {h : Heap} {a : Addr} {vs : List Value} (x : IsL h a vs) {o : Obj} (e : h.get? a = some o) : Loose o := by
  obtain ⟨o', k, e', c, _, _⟩ := x
  rw [e] at e'; cases e'; exact .typ c
theorem IsL.at {h h' : Heap} {a : Addr} {vs : List Value} (x : IsL h a vs) (k : ∀ o, h.get? a = some o → h'.get? a = some o) : IsL h' a vs :=
  let ⟨o, n, e, r⟩ := x; ⟨o, n, k o e, r⟩

/-- a dict's pairs -/
noncomputable def RepD (X : Cx) (ρ : List Addr) (h : Heap) (kvs : List (Int × Value)) (es : List (Int × AV)) : Prop := kvs.map (·.1) = es.map (·.1) ∧ RepAll X ρ h (kvs.map (·.2)) (es.map (·.2))
abbrev IsD (X : Cx) (h : Heap) (a : Addr) (kvs : List (Int × Value)) : Prop := h.DictOf (intKind X.prog X.w) a kvs

noncomputable def ObjRep (X : Cx) (ρ : List Addr) (h : Heap) (a : Addr) : AO → Prop
  | .list xs => ∃ vs : List Value, IsL h a vs ∧ vs.length ≤ bigN + 1 ∧ RepAll X ρ h vs xs
  | .dict es => ∃ kvs : List (Int × Value), IsD X h a kvs ∧ kvs.length ≤ bigN + 1 ∧ RepD X ρ h kvs es
theorem ObjRep.loose {X : Cx} {ρ : List Addr} {h : Heap} {a : Addr} {o : AO} (r : ObjRep X ρ h a o) : ∃ ob, h.get? a = some ob ∧ Loose ob ∧ ∀ fs, ob.data ≠ .fields fs := by
  cases o with
  | list xs => obtain ⟨vs, ⟨ob, n, e, c, _, d⟩, _⟩ := r; exact ⟨ob, e, .typ c, fun fs q => by rw [d] at q; cases q⟩
  | dict es => obtain ⟨kvs, ⟨ob, es, n, e, _, d, _⟩, _⟩ := r; exact ⟨ob, e, .inr (.inl ⟨es, n, d⟩), fun fs q => by rw [d] at q; cases q⟩
/-- the object itself stays to the letter -/
theorem ObjRep.at {X : Cx} {ρ ρ' : List Addr} {S : List Addr} {h h' : Heap} {a : Addr} {o : AO} (r : ObjRep X ρ h a o) (hk : Keep S h h') (hs : SOk h S) (hr : Ext ρ ρ') (k : ∀ o, h.get? a = some o → h'.get? a = some o) : ObjRep X ρ' h' a o := by
  cases o with
  | list xs => obtain ⟨vs, l, z, ra⟩ := r; exact ⟨vs, l.at k, z, ra.mono hk hs hr⟩
  | dict es => obtain ⟨kvs, ⟨ob, es, n, e, q⟩, z, ra⟩ := r; exact ⟨kvs, ⟨ob, es, n, k _ e, q⟩, z, ra.1, ra.2.mono hk hs hr⟩

structure Wd (X : Cx) (ρ : List Addr) (σ : Sto) (h : Heap) : Prop where
  stays : X.base.StaysIn h
  new : ∀ a ∈ ρ, X.base.get? a = none
  nodup : ρ.Nodup
  len : ρ.length = σ.length
  objs : ∀ (n : Nat) (o : AO), σ[n]? = some o → ∃ a, ρ[n]? = some a ∧ ObjRep X ρ h a o

section
variable {X : Cx} {ρ : List Addr} {σ : Sto} {h h' : Heap}
theorem Wd.at (w : Wd X ρ σ h) {b : Addr} (hb : b ∈ ρ) : ∃ ob, h.get? b = some ob ∧ Loose ob ∧ ∀ fs, ob.data ≠ .fields fs := by
  obtain ⟨n, hn, rfl⟩ := List.getElem_of_mem hb
  have hn' : n < σ.length := w.len ▸ hn
  obtain ⟨a, ha, r⟩ := w.objs n σ[n] (List.getElem?_eq_getElem hn')
  rw [List.getElem?_eq_getElem hn] at ha
  cases ha
  exact r.loose
theorem Wd.sok (w : Wd X ρ σ h) : SOk h ρ := fun b hb o ho => by
  obtain ⟨ob, e, m, _⟩ := w.at hb
  rw [ho] at e; cases e; exact m
theorem Wd.off (w : Wd X ρ σ h) {b : Addr} (e : h.get? b = none) : b ∉ ρ := fun q => by
  obtain ⟨ob, e', _⟩ := w.at q
  rw [e] at e'; cases e'
theorem Wd.record (w : Wd X ρ σ h) {b : Addr} {o : Obj} {fs : Array Value} (e : h.get? b = some o) (d : o.data = .fields fs) : b ∉ ρ := fun q => by
  obtain ⟨ob, e', _, z⟩ := w.at q
  rw [e] at e'; cases e'; exact z fs d
theorem Wd.base (w : Wd X ρ σ h) {b : Addr} (e : h.get? b = none) : X.base.get? b = none := by
  cases q : X.base.get? b with
  | none => rfl
  | some o => rw [w.stays b o q] at e; cases e

/-- the store's objects stay, if they stay to the letter -/
theorem Wd.step {S : List Addr} (w : Wd X ρ σ h) (hk : Keep S h h') (hs : SOk h S) (hb : X.base.StaysIn h') (hx : ∀ b ∈ ρ, ∀ o, h.get? b = some o → h'.get? b = some o) : Wd X ρ σ h' :=
  ⟨hb, w.new, w.nodup, w.len, fun n o e => by
    obtain ⟨a, ha, r⟩ := w.objs n o e
    exact ⟨a, ha, r.at hk hs (.refl _) (hx a (List.mem_of_getElem? ha))⟩⟩
theorem Wd.grow (w : Wd X ρ σ h) (st : h.StaysIn h') : Wd X ρ σ h' := w.step (Keep.of_stays (S := []) st) .nil (fun b o e => st b o (w.stays b o e)) fun b _ o e => st b o e
/-- an object joins the store -/
theorem Wd.adopt {a : Addr} {o : AO} (w : Wd X ρ σ h) (na : a ∉ ρ) (nb : X.base.get? a = none) (r : ObjRep X ρ h a o) : Wd X (ρ ++ [a]) (σ ++ [o]) h := by
  have up : ∀ {b : Addr} {o : AO}, ObjRep X ρ h b o → ObjRep X (ρ ++ [a]) h b o := fun r => r.at (Keep.refl [] _) .nil (Ext.app _ _) fun _ e => e
  refine ⟨w.stays, fun b hb' => ?_, ?_, by rw [List.length_append, List.length_append, w.len]; rfl, fun n o' e => ?_⟩
  · rcases List.mem_append.mp hb' with q | q
    · exact w.new b q
    · rw [List.mem_singleton.mp q]; exact nb
  · exact List.nodup_append.mpr ⟨w.nodup, List.nodup_cons.mpr ⟨List.not_mem_nil, .nil⟩, fun x hx y hy e => na (by rw [List.mem_singleton.mp hy] at e; exact e ▸ hx)⟩
  · by_cases hlt : n < σ.length
    · rw [List.getElem?_append_left hlt] at e
      obtain ⟨b, hb, r'⟩ := w.objs n o' e
      exact ⟨b, Ext.app ρ [a] n b hb, up r'⟩
    · rw [List.getElem?_append_right (Nat.not_lt.mp hlt)] at e
      have hz0 : n - σ.length = 0 := by
        cases q : n - σ.length with
        | zero => rfl
        | succ k => rw [q] at e; cases e
      rw [hz0] at e
      cases e
      exact ⟨a, by rw [List.getElem?_append_right (by rw [w.len]; exact Nat.not_lt.mp hlt), w.len, hz0]; rfl, up r⟩
/-- an object of the store is turned -/
theorem Wd.set {n : Nat} {a : Addr} {o : AO} (w : Wd X ρ σ h) (hn : ρ[n]? = some a) (hs : Heap.SameBut a h h') (r : ObjRep X ρ h' a o) : Wd X ρ (σ.set n o) h' := by
  have hm := List.mem_of_getElem? hn
  refine ⟨fun b o e => ?_, w.new, w.nodup, by rw [List.length_set]; exact w.len, fun j o' e => ?_⟩
  · refine (hs.2 b fun q => ?_).trans (w.stays b o e)
    rw [q, w.new a hm] at e; cases e
  · rw [List.getElem?_set] at e
    by_cases hj : n = j
    · subst hj
      rw [if_pos rfl] at e
      split at e
      · cases e; exact ⟨a, hn, r⟩
      · cases e
    · rw [if_neg hj] at e
      obtain ⟨b, hb, r'⟩ := w.objs j o' e
      have hba : b ≠ a := fun q => by
        subst q
        obtain ⟨i1, q1⟩ := List.getElem?_eq_some_iff.mp hn
        obtain ⟨i2, q2⟩ := List.getElem?_eq_some_iff.mp hb
        exact hj ((List.getElem_inj w.nodup).mp (q1.trans q2.symm))
      exact ⟨b, hb, r'.at (Keep.ext hs.extBut) (.one fun o ho => w.sok a hm o ho) (.refl _) fun o e => (hs.2 b hba).trans e⟩
end

end Mine

/- N2 -/
set_option tactic.hygienic false
/-! Mine: the frame at hand, and what a step leaves. -/
namespace Mine
open PySem PySem.Spec PySem.Calls PyProof.Rows

noncomputable def own (env : Env) : List Addr := env.locals :: env.cells.map (·.2)

structure LocR (X : Cx) (ρ : List Addr) (env : Env) (h : Heap) (l : Loc) : Prop where
  ns : ∃ m, h.Ns env.locals m ∧ ∀ x a, getL x l = some a → x ≠ (".0" : Str) → env.kindOf x = some .local → ∃ v, m x = some v ∧ Rep X ρ h v a
  cell : ∀ c ∈ env.cells.map (·.2), ∃ v₀, h.IsCell c v₀
  val : ∀ x a, getL x l = some a → (env.kindOf x = some .cell ∨ env.kindOf x = some .free) → ∃ c v, env.cells.lookup x = some c ∧ h.IsCell c (some v) ∧ Rep X ρ h v a

theorem mem_lu {α : Type} {x : Str} {c : α} : ∀ {l : List (Str × α)}, l.lookup x = some c → (x, c) ∈ l
  | [], e => by cases e
  | (y, d) :: r, e => by
    rw [List.lookup_cons] at e
    cases q : x == y with
    | true => rw [q] at e; cases e; rw [beq_iff_eq.mp q]; exact .head _
    | false => rw [q] at e; exact .tail _ (mem_lu e)
theorem cell_mem {env : Env} {x : Str} {c : Addr} (e : env.cells.lookup x = some c) : c ∈ env.cells.map (·.2) := List.mem_map.mpr ⟨_, mem_lu e, rfl⟩

section
variable {X : Cx} {ρ ρ' : List Addr} {env : Env} {h h' : Heap} {l : Loc} {S : List Addr} {a : Addr}
theorem Ns.mut {m : Str → Option Value} (x : h.Ns a m) {o : Obj} (e : h.get? a = some o) : Loose o := by
  obtain ⟨o', es, ep, e', d, _⟩ := x
  rw [e] at e'; cases e'; exact .inr (.inl ⟨es, ep, d⟩)
theorem LocR.mut (r : LocR X ρ env h l) : SOk h (own env) := fun b hb o ho => by
  rcases List.mem_cons.mp hb with rfl | hb
  · obtain ⟨m, n, _⟩ := r.ns
    exact Ns.mut n ho
  · obtain ⟨v₀, o', e, d⟩ := r.cell b hb
    rw [ho] at e; cases e; exact .inr (.inr ⟨v₀, d⟩)
theorem LocR.there (r : LocR X ρ env h l) : ∀ b ∈ own env, ∃ o, h.get? b = some o ∧ ∀ fs, o.data ≠ .fields fs := fun b hb => by
  rcases List.mem_cons.mp hb with rfl | hb
  · obtain ⟨m, ⟨o', es, n, e, d, _⟩, _⟩ := r.ns
    exact ⟨o', e, fun fs q => by rw [d] at q; cases q⟩
  · obtain ⟨v₀, o', e, d⟩ := r.cell b hb
    exact ⟨o', e, fun fs q => by rw [d] at q; cases q⟩
theorem LocR.off (r : LocR X ρ env h l) {b : Addr} (e : h.get? b = none) : b ∉ own env := fun q => by
  obtain ⟨o, e', _⟩ := r.there b q
  rw [e] at e'; cases e'
theorem LocR.record (r : LocR X ρ env h l) {b : Addr} {o : Obj} {fs : Array Value} (e : h.get? b = some o) (d : o.data = .fields fs) : b ∉ own env := fun q => by
  obtain ⟨o', e', z⟩ := r.there b q
  rw [e] at e'; cases e'; exact z fs d
theorem Ns.keep {m : Str → Option Value} (hk : Keep S h h') (n : a ∉ S) (x : h.Ns a m) : h'.Ns a m := by
  obtain ⟨o, es, ep, e, d, k, f⟩ := x
  obtain ⟨sl, e', _⟩ := hk a o e n
  exact ⟨_, es, ep, e', d, k, f⟩
theorem IsCell.keep {v : Option Value} (hk : Keep S h h') (n : a ∉ S) (x : h.IsCell a v) : h'.IsCell a v := by
  obtain ⟨o, e, d⟩ := x
  obtain ⟨sl, e', _⟩ := hk a o e n
  exact ⟨_, e', d⟩
theorem LocR.keep (r : LocR X ρ env h l) (hk : Keep S h h') (hs : SOk h S) (hr : Ext ρ ρ') (hn : ∀ b ∈ own env, b ∉ S) : LocR X ρ' env h' l := by
  refine ⟨?_, fun c hc => ?_, fun x a e k => ?_⟩
  · obtain ⟨m, n, f⟩ := r.ns
    refine ⟨m, Ns.keep hk (hn _ (.head _)) n, fun x a e z k => ?_⟩
    obtain ⟨v, hv, q⟩ := f x a e z k
    exact ⟨v, hv, q.mono hk hs hr⟩
  · obtain ⟨v₀, q⟩ := r.cell c hc
    exact ⟨v₀, IsCell.keep hk (hn c (.tail _ hc)) q⟩
  · obtain ⟨c, v, hc, q, z⟩ := r.val x a e k
    exact ⟨c, v, hc, IsCell.keep hk (hn c (.tail _ (cell_mem hc))) q, z.mono hk hs hr⟩
theorem LocR.off1 (r : LocR X ρ env h l) (hk : Heap.ExtBut a h h') (hm : ∀ o, h.get? a = some o → Loose o) (ha : a ∉ own env) : LocR X ρ env h' l :=
  r.keep (Keep.ext hk) (.one hm) (.refl _) fun b hb q => ha (by rw [← List.mem_singleton.mp q]; exact hb)
end

noncomputable def Room (n : Nat) (A : Around) : Prop := A.depth + n < recursionLimit ∧ A.units + 16 * n + 200 < cLine

noncomputable def fra (es : List Env) : List Addr := es.filterMap (·.frame)
/-- the frames on the stack: functions' own, each a namespace -/
noncomputable def Frs (h base : Heap) (es : List Env) : Prop := ∀ e ∈ es, e.scope.kind ≠ .module ∧ ∃ L o ds n, e.frame = some L ∧ base.get? L = none ∧ h.get? L = some o ∧ o.data = .dict ds n
theorem Frs.funs {h base : Heap} : ∀ {es : List Env}, Frs h base es → h.FunFrames base es
  | [], _ => trivial
  | e :: r, x => by
    obtain ⟨k, L, o, ds, n, e1, e2, e3, e4⟩ := x e (.head _)
    exact ⟨k, ⟨L, o, e1, e2, e3, fun vs q => by rw [e4] at q; cases q⟩, Frs.funs fun e' he' => x e' (.tail _ he')⟩
theorem Frs.there {h base : Heap} {es : List Env} (x : Frs h base es) {L : Addr} (hL : L ∈ fra es) : ∃ o ds n, h.get? L = some o ∧ o.data = .dict ds n ∧ base.get? L = none := by
  obtain ⟨e, he, q⟩ := List.mem_filterMap.mp hL
  obtain ⟨_, L', o, ds, n, e1, e2, e3, e4⟩ := x e he
  rw [q] at e1; cases e1; exact ⟨o, ds, n, e3, e4, e2⟩
theorem Frs.keep {base h h' : Heap} {S : List Addr} {es : List Env} (x : Frs h base es) (hk : Keep S h h') (hs : ∀ L ∈ fra es, L ∉ S ∨ ∃ o ds n, h'.get? L = some o ∧ o.data = .dict ds n) : Frs h' base es := fun e he => by
  obtain ⟨k, L, o, ds, n, e1, e2, e3, e4⟩ := x e he
  rcases hs L (List.mem_filterMap.mpr ⟨e, he, e1⟩) with q | ⟨o', ds', n', q1, q2⟩
  · obtain ⟨sl, e', _⟩ := hk L o e3 q
    exact ⟨k, L, _, ds, n, e1, e2, e', e4⟩
  · exact ⟨k, L, o', ds', n', e1, e2, q1, q2⟩

/-- what a call finds -/
structure Cl (X : Cx) (n : Nat) (A : Around) (es : List Env) (ρ : List Addr) (σ : Sto) (s : Shared) : Prop where
  wd : Wd X ρ σ s.heap
  frames : A.frames = some es
  frs : Frs s.heap X.base es
  offr : ∀ L ∈ fra es, L ∉ ρ
  room : Room n A
  hand : A.handled = none
structure Ct (X : Cx) (n : Nat) (A : Around) (env : Env) (es : List Env) (ρ : List Addr) (l : Loc) (σ : Sto) (s : Shared) : Prop extends Cl X n A es ρ σ s where
  kind : env.scope.kind = .function
  glob : env.globals = mainGlobals
  blt : env.builtins = builtinsNs
  loc : LocR X ρ env s.heap l
  ownr : ∀ b ∈ own env, b ∉ ρ
  ownb : ∀ b ∈ own env, X.base.get? b = none
  frame : ∃ hv r, es = hv :: r ∧ hv.frame = env.frame

structure After (X : Cx) (ρ : List Addr) (s : Shared) (ρ' : List Addr) (σ' : Sto) (s' : Shared) : Prop where
  ext : Ext ρ ρ'
  new : ∀ b ∈ ρ', b ∈ ρ ∨ s.heap.get? b = none
  wd : Wd X ρ' σ' s'.heap
  keep : Keep ρ s.heap s'.heap
  same : ∃ h tk, s' = { s with heap := h, toks := tk }

section
variable {X : Cx} {ρ ρ₁ ρ' : List Addr} {σ σ₁ σ' : Sto} {s s₁ s' : Shared} {h' : Heap} {a : Addr}
theorem After.refl (w : Wd X ρ σ s.heap) : After X ρ s ρ σ s := ⟨.refl _, fun _ h => .inl h, w, .refl _ _, ⟨s.heap, s.toks, rfl⟩⟩
theorem After.tok (w : Wd X ρ σ s.heap) (t : Nat) : After X ρ s ρ σ { s with toks := t } := ⟨.refl _, fun _ h => .inl h, w, .refl _ _, ⟨s.heap, t, rfl⟩⟩
theorem After.gone (x : After X ρ s ρ' σ' s') (e : s'.heap.get? a = none) : s.heap.get? a = none := by
  cases q : s.heap.get? a with
  | none => rfl
  | some o =>
    by_cases h : a ∈ ρ
    · obtain ⟨n, hn, rfl⟩ := List.getElem_of_mem h
      obtain ⟨ob, e', _⟩ := x.wd.at (List.mem_of_getElem? (x.ext n _ (List.getElem?_eq_getElem hn)))
      rw [e] at e'; cases e'
    · obtain ⟨sl, e', _⟩ := x.keep a o q h
      rw [e] at e'; cases e'
theorem After.trans (x : After X ρ s ρ₁ σ₁ s₁) (y : After X ρ₁ s₁ ρ' σ' s') : After X ρ s ρ' σ' s' := by
  refine ⟨x.ext.trans y.ext, fun b hb => (y.new b hb).elim (x.new b) fun q => .inr (x.gone q), y.wd, fun b o e n => ?_, ?_⟩
  · obtain ⟨sl, e₁, q₁⟩ := x.keep b o e n
    obtain ⟨sl', e₂, q₂⟩ := y.keep b _ e₁ fun q => (x.new b q).elim n fun z => by rw [z] at e; cases e
    exact ⟨sl', e₂, fun z => (q₂ z).trans (q₁ z)⟩
  · obtain ⟨h, tk, rfl⟩ := x.same
    obtain ⟨h', tk', rfl⟩ := y.same
    exact ⟨h', tk', rfl⟩
theorem After.rep {v : Value} {a : AV} (x : After X ρ s ρ' σ' s') (w : Wd X ρ σ s.heap) (r : Rep X ρ s.heap v a) : Rep X ρ' s'.heap v a := r.mono x.keep w.sok x.ext
theorem After.notin (x : After X ρ s ρ' σ' s') {o : Obj} (h : a ∉ ρ) (e : s.heap.get? a = some o) : a ∉ ρ' := fun q =>
  (x.new a q).elim h fun z => by rw [z] at e; cases e
/-- heaps that only grow -/
theorem After.grow (w : Wd X ρ σ s.heap) (st : s.heap.StaysIn h') (t : Nat) : After X ρ s ρ σ { s with heap := h', toks := t } :=
  ⟨.refl _, fun _ h => .inl h, w.grow st, Keep.of_stays st, ⟨_, _, rfl⟩⟩
theorem push_stays (h : Heap) (o : Obj) : h.StaysIn (h.push o) := fun _ _ e => Heap.get?_push_of_some _ e
/-- an object off the store joins it -/
theorem After.adopt {o : AO} (x : After X ρ s ρ' σ' s') (na : a ∉ ρ') (nn : s.heap.get? a = none) (nb : X.base.get? a = none) (r : ObjRep X ρ' s'.heap a o) : After X ρ s (ρ' ++ [a]) (σ' ++ [o]) s' :=
  ⟨x.ext.trans (Ext.app _ _), fun b hb => (List.mem_append.mp hb).elim (x.new b) fun q => by rw [List.mem_singleton.mp q]; exact .inr nn, x.wd.adopt na nb r, x.keep, x.same⟩
theorem After.set {n : Nat} {o : AO} (w : Wd X ρ σ s.heap) (hn : ρ[n]? = some a) (hs : Heap.SameBut a s.heap h') (r : ObjRep X ρ h' a o) (t : Nat) : After X ρ s ρ (σ.set n o) { s with heap := h', toks := t } :=
  ⟨.refl _, fun _ h => .inl h, w.set hn hs r, (Keep.ext hs.extBut).mono fun b hb => by rw [List.mem_singleton.mp hb]; exact List.mem_of_getElem? hn, ⟨_, _, rfl⟩⟩
theorem ref_new (w : Wd X ρ σ s.heap) : Rep X (ρ ++ [a]) h' (.ref a) (.ref σ.length) := ⟨a, rfl, by rw [← w.len]; simp⟩
/-- a new object, all else kept -/
theorem After.fresh {o : AO} (w : Wd X ρ σ s.heap) (st : s.heap.StaysIn h') (nn : s.heap.get? a = none) (r : ObjRep X ρ h' a o) (t : Nat) : After X ρ s (ρ ++ [a]) (σ ++ [o]) { s with heap := h', toks := t } :=
  (After.grow w st t).adopt (w.off nn) nn (w.base nn) r
/-- one object off the store, newer than the start, is turned -/
theorem After.off1 (x : After X ρ s ρ' σ' s') (hb : X.base.StaysIn s.heap) (hk : Heap.ExtBut a s'.heap h') (hm : ∀ o, s'.heap.get? a = some o → Loose o) (hn : s.heap.get? a = none) (hd : a ∉ ρ') (t : Nat) : After X ρ s ρ' σ' { s' with heap := h', toks := t } := by
  refine ⟨x.ext, x.new, x.wd.step (Keep.ext hk) (.one hm) (fun b o e => hk b o (fun q => ?_) (x.wd.stays b o e)) fun b hb' o e => hk b o (fun q => hd (q ▸ hb')) e, fun b o e n => ?_, ?_⟩
  · have := hb b o e
    rw [q, hn] at this; cases this
  · obtain ⟨sl, e₁, q₁⟩ := x.keep b o e n
    exact ⟨sl, hk b _ (fun q => by rw [q, hn] at e; cases e) e₁, q₁⟩
  · obtain ⟨h, tk, rfl⟩ := x.same
    exact ⟨_, _, rfl⟩
theorem Ct.after {n : Nat} {A : Around} {env : Env} {es : List Env} {l : Loc} (c : Ct X n A env es ρ l σ s) (x : After X ρ s ρ' σ' s') : Ct X n A env es ρ' l σ' s' := by
  refine ⟨⟨x.wd, c.frames, c.frs.keep x.keep fun L hL => .inl (c.offr L hL), fun L hL q => ?_, c.room, c.hand⟩, c.kind, c.glob, c.blt, c.loc.keep x.keep c.wd.sok x.ext c.ownr, fun b hb q => ?_, c.ownb, c.frame⟩
  · obtain ⟨o, _, _, e, _⟩ := c.frs.there hL
    exact x.notin (c.offr L hL) e q
  · obtain ⟨o, e, _⟩ := c.loc.there b hb
    exact x.notin (c.ownr b hb) e q
end
theorem size_none (h : Heap) : h.get? h.objs.size = none := by
  cases q : h.get? h.objs.size with
  | none => rfl
  | some o => exact absurd (Heap.lt_size q) (Nat.lt_irrefl _)
end Mine

/- N3 -/
set_option tactic.hygienic false
/-! Mine: the operators. -/
namespace Mine
open PySem PySem.Spec PySem.Calls PyProof.Rows

/-- what an operator gives -/
noncomputable def Gv (X : Cx) (ρ : List Addr) (s : Shared) (a : AV) (σ' : Sto) (v : Value) (s' : Shared) : Prop := ∃ ρ', After X ρ s ρ' σ' s' ∧ Rep X ρ' s'.heap v a

section
variable {α β : Type} {σ σ' : Sto} {b : AV} {r : α}
theorem bif_inv {c : Bool} {x : Out α} (e : (bif c then x else .bad) = .ok r σ') : c = true ∧ x = .ok r σ' := by
  cases c with
  | false => exact nomatch (show Out.bad = .ok r σ' from e)
  | true => exact ⟨rfl, e⟩
theorem intR_inv {f : Int → Out α} (e : intR b f = .ok r σ') : ∃ y, b = .int y ∧ f y = .ok r σ' := by
  cases b with
  | int y => exact ⟨y, rfl, e⟩
  | _ => exact nomatch (show Out.bad = .ok r σ' from e)
theorem strR_inv {f : Str → Out AV} {r : AV} (e : strR b f = .ok r σ') : ∃ y, b = .str y ∧ f y = .ok r σ' := by
  cases b with
  | str y => exact ⟨y, rfl, e⟩
  | _ => exact nomatch (show Out.bad = .ok r σ' from e)
theorem refR_inv {f : Nat → Out α} (e : refR b f = .ok r σ') : ∃ y, b = .ref y ∧ f y = .ok r σ' := by
  cases b with
  | ref y => exact ⟨y, rfl, e⟩
  | _ => exact nomatch (show Out.bad = .ok r σ' from e)
theorem optR_inv {o : Option β} {f : β → Out α} (e : optR o f = .ok r σ') : ∃ y, o = some y ∧ f y = .ok r σ' := by
  cases o with
  | some y => exact ⟨y, rfl, e⟩
  | none => exact nomatch (show Out.bad = .ok r σ' from e)
theorem optA_inv {o : Option α} (e : optA o σ = .ok r σ') : o = some r ∧ σ' = σ := by
  cases o with
  | some y => cases (show Out.ok y σ = .ok r σ' from e); exact ⟨rfl, rfl⟩
  | none => exact nomatch (show Out.bad = .ok r σ' from e)
theorem listOf_inv {n : Nat} {xs : List AV} (e : listOf? σ n = some xs) : σ[n]? = some (.list xs) := by
  unfold listOf? at e
  cases h : σ[n]? with
  | none => rw [h] at e; cases e
  | some o => rw [h] at e; cases o with
    | list ys => cases (show some ys = some xs from e); rfl
    | dict es => cases (show Option.none = some xs from e)
theorem dictOf_inv {n : Nat} {xs : List (Int × AV)} (e : dictOf? σ n = some xs) : σ[n]? = some (.dict xs) := by
  unfold dictOf? at e
  cases h : σ[n]? with
  | none => rw [h] at e; cases e
  | some o => rw [h] at e; cases o with
    | dict ys => cases (show some ys = some xs from e); rfl
    | list es => cases (show Option.none = some xs from e)
theorem lstR_inv {f : List AV → Out α} (e : lstR σ b f = .ok r σ') : ∃ n xs, b = .ref n ∧ σ[n]? = some (.list xs) ∧ f xs = .ok r σ' := by
  obtain ⟨n, rfl, e⟩ := refR_inv e
  obtain ⟨xs, h, e⟩ := optR_inv e
  exact ⟨n, xs, rfl, listOf_inv h, e⟩
theorem newL_inv {xs : List AV} {a : AV} (e : newL xs σ = .ok a σ') : xs.length ≤ bigN ∧ a = .ref σ.length ∧ σ' = σ ++ [.list xs] := by
  obtain ⟨h, e⟩ := bif_inv (c := Nat.ble xs.length bigN) (x := Out.ok (AV.ref σ.length) (σ ++ [AO.list xs])) e
  cases e; exact ⟨Nat.le_of_ble_eq_true h, rfl, rfl⟩
end

theorem bits_small {x : Int} (h : small x = true) : Builtin.Int.intBits x ≤ 2 ^ 20 := by
  have h := of_decide_eq_true (show decide (x.natAbs < 2 ^ 1000) = true from h)
  unfold Builtin.Int.intBits
  split
  · exact Nat.zero_le _
  · rename_i h0
    exact Nat.le_trans (Nat.succ_le_of_lt ((Nat.log2_lt (by simpa using h0)).mpr h)) (by decide)
theorem log_small {x : Int} (h : small x = true) : x.natAbs.log2 < 9000 := by
  have h := of_decide_eq_true (show decide (x.natAbs < 2 ^ 1000) = true from h)
  by_cases h0 : x.natAbs = 0
  · rw [h0]; decide
  · exact Nat.lt_of_lt_of_le ((Nat.log2_lt h0).mpr h) (by decide)
theorem big_line : bigN + 1 ≤ sizeLine := by rw [sizeLine_eq]; decide
theorem fits_len {n : Nat} (h : n ≤ bigN + 1) : (n : Int) < 2 ^ 63 := by unfold bigN at h; omega

section
variable {A : Around} {E : Value → Shared → Prop} {s : Shared} {X : Cx} {ρ : List Addr} {σ σ' : Sto}
theorem Gv.same (w : Wd X ρ σ s.heap) {v : Value} {a : AV} (r : Rep X ρ s.heap v a) : Gv X ρ s a σ v s := ⟨ρ, .refl w, r⟩
theorem Gv.tok (w : Wd X ρ σ s.heap) {v : Value} {a : AV} (t : Nat) (r : Rep X ρ s.heap v a) : Gv X ρ s a σ v { s with toks := t } := ⟨ρ, .tok w t, r⟩
theorem Gv.int (w : Wd X ρ σ s.heap) (i : Int) (t : Nat) (k : Tok) : Gv X ρ s (.int i) σ (.int i k) { s with toks := t } := Gv.tok w t ⟨k, rfl⟩
theorem Gv.bool (w : Wd X ρ σ s.heap) (b : Bool) (t : Nat) : Gv X ρ s (.bool b) σ (.bool b) { s with toks := t } := Gv.tok w t rfl

/-- a list of the store -/
theorem Wd.list (w : Wd X ρ σ s.heap) {n : Nat} {v : Value} {xs : List AV} (r : Rep X ρ s.heap v (.ref n)) (e : σ[n]? = some (.list xs)) : ∃ l vs, v = .ref l ∧ ρ[n]? = some l ∧ IsL s.heap l vs ∧ vs.length ≤ bigN + 1 ∧ RepAll X ρ s.heap vs xs := by
  obtain ⟨a, rfl, h⟩ := r
  obtain ⟨b, hb, vs, il, z, ra⟩ := w.objs n _ e
  rw [h] at hb; cases hb
  exact ⟨a, vs, rfl, h, il, z, ra⟩
theorem Wd.dict (w : Wd X ρ σ s.heap) {n : Nat} {v : Value} {xs : List (Int × AV)} (r : Rep X ρ s.heap v (.ref n)) (e : σ[n]? = some (.dict xs)) : ∃ l kvs, v = .ref l ∧ ρ[n]? = some l ∧ IsD X s.heap l kvs ∧ kvs.length ≤ bigN + 1 ∧ RepD X ρ s.heap kvs xs := by
  obtain ⟨a, rfl, h⟩ := r
  obtain ⟨b, hb, vs, il, z, ra⟩ := w.objs n _ e
  rw [h] at hb; cases hb
  exact ⟨a, vs, rfl, h, il, z, ra⟩
/-- a list that a rule has made, all else kept -/
theorem made_list {vs : List Value} {xs : List AV} {a : AV} {l : Addr} {h' : Heap} {t : Nat} (W : Wd X ρ σ s.heap) (r : RepAll X ρ s.heap vs xs) (e : newL xs σ = .ok a σ') (hk : s.heap.StaysIn h') (hn : s.heap.get? l = none) (hl : IsL h' l vs) : Gv X ρ s a σ' (.ref l) { s with heap := h', toks := t } := by
  obtain ⟨hz, rfl, rfl⟩ := newL_inv e
  exact ⟨_, After.fresh (o := .list xs) W hk hn ⟨vs, hl, by rw [r.length]; exact Nat.le_succ_of_le hz, r.mono (Keep.of_stays (S := []) hk) .nil (.refl _)⟩ t, ref_new W⟩
theorem IsL.new (h : Heap) (vs : List Value) : IsL (h.push { cls := .type "list", data := .seq vs.toArray }) h.objs.size vs := ⟨_, 0, Heap.get?_push_size _ rfl, rfl, rfl, rfl⟩
theorem newL_ok {vs : List Value} {xs : List AV} {a : AV} (W : Wd X ρ σ s.heap) (r : RepAll X ρ s.heap vs xs) (e : newL xs σ = .ok a σ') : wpAny X.M A (newList vs) (Gv X ρ s a σ') E s :=
  wpAny_newObj_type (made_list W r e (push_stays _ _) (size_none _) (IsL.new _ _)) (by
    show vs.toArray.size ≤ sizeLine
    rw [List.size_toArray, r.length]; exact Nat.le_trans (Nat.le_succ_of_le (newL_inv e).1) big_line)

theorem truthO_ok {v : Value} {a : AV} {b : Bool} {Q : Bool → Shared → Prop} (W : Wd X ρ σ s.heap) (r : Rep X ρ s.heap v a) (e : truthO a σ = .ok b σ') (h : σ' = σ → ∀ t, Q b { s with toks := t }) : wpAny X.M A (truthy v) Q E s := by
  have go : (lstR σ a fun xs => .ok (!xs.isEmpty) σ) = .ok b σ' → wpAny X.M A (truthy v) Q E s := fun e => by
    obtain ⟨n, xs, rfl, hx, e⟩ := lstR_inv e
    cases e
    obtain ⟨l, vs, rfl, _, il, z, ra⟩ := W.list r hx
    have hv := ra.length
    refine wpAny_truthy_list il.is (fits_len z) ?_
    have : (!vs.toArray.isEmpty) = !xs.isEmpty := by cases vs <;> cases xs <;> first | rfl | cases hv
    rw [this]; exact h rfl _
  cases a with
  | none => cases e; rw [show v = .none from r]; exact truthy_none (h rfl s.toks)
  | bool b' => cases e; rw [show v = .bool _ from r]; exact wpAny_truthy_bool (h rfl s.toks)
  | _ => exact go e

theorem add_ok {vx vy : Value} {x y a : AV} (W : Wd X ρ σ s.heap) (rx : Rep X ρ s.heap vx x) (ry : Rep X ρ s.heap vy y) (e : addA x y σ = .ok a σ') : wpAny X.M A (binaryOp .Add vx vy) (Gv X ρ s a σ') E s := by
  have go : (lstR σ x fun xs => lstR σ y fun ys => newL (xs ++ ys) σ) = .ok a σ' → wpAny X.M A (binaryOp .Add vx vy) (Gv X ρ s a σ') E s := fun e => by
    obtain ⟨n, xs, rfl, hx, e⟩ := lstR_inv e
    obtain ⟨m, ys, rfl, hy, e⟩ := lstR_inv e
    obtain ⟨l₁, vs, rfl, _, il, _, ra⟩ := W.list rx hx
    obtain ⟨l₂, ws, rfl, _, il', _, ra'⟩ := W.list ry hy
    have hz := (newL_inv e).1
    rw [List.length_append, ← ra.length, ← ra'.length] at hz
    obtain ⟨⟨cls, dd, data, sl⟩, ho, hc, n₁, hd⟩ := il.is
    obtain ⟨⟨cls2, dd2, data2, sl2⟩, ho2, hc2, n₂, hd2⟩ := il'.is
    simp only at hc hd hc2 hd2
    subst hc hd hc2 hd2
    refine concat_meets ⟨_, ho, rfl⟩ ⟨_, ho2, rfl⟩ noFill_list_add seq_list_add PySem.F.slot_list_add PySem.F.entry_list_add (PySem.F.args_list_add_2 _ _) (list_addW l₁ l₂ vs.toArray ws.toArray n₁ n₂ dd dd2 sl sl2 (by simp only [List.size_toArray]; exact Nat.le_trans (Nat.le_succ_of_le hz) big_line)) ⟨ho, ho2, ?_⟩
    rw [show vs.toArray ++ ws.toArray = (vs ++ ws).toArray by simp]
    exact made_list (t := s.toks) W (RepAll.append ra' ra) e (push_stays _ _) (size_none _) (IsL.new _ _)
  cases x with
  | int i =>
    obtain ⟨j, rfl, q⟩ := intR_inv (show intR y _ = _ from e)
    obtain ⟨_, rfl⟩ := rx; obtain ⟨_, rfl⟩ := ry; cases q
    exact P.add_int (Gv.int W _ _ _)
  | str i =>
    obtain ⟨j, rfl, q⟩ := strR_inv (show strR y _ = _ from e)
    obtain ⟨hc, q⟩ := bif_inv q
    cases q
    obtain ⟨_, rfl⟩ := rx; obtain ⟨_, rfl⟩ := ry
    exact PyProof.Rows.add_str (fun t' k => Gv.tok W _ ⟨_, rfl⟩) (Nat.le_trans (Nat.le_succ_of_le (Nat.le_of_ble_eq_true hc)) big_line)
  | _ => exact go e
theorem RepAll.times {h : Heap} {vs : List Value} {xs : List AV} (r : RepAll X ρ h vs xs) : ∀ n, RepAll X ρ h (List.replicate n vs).flatten (List.replicate n xs).flatten
  | 0 => .nil
  | n + 1 => RepAll.append (RepAll.times r n) r
theorem mul_ok {vx vy : Value} {x y a : AV} (W : Wd X ρ σ s.heap) (rx : Rep X ρ s.heap vx x) (ry : Rep X ρ s.heap vy y) (e : mulA x y σ = .ok a σ') : wpAny X.M A (binaryOp .Mult vx vy) (Gv X ρ s a σ') E s := by
  have go : (lstR σ x fun xs => intR y fun y => bif Nat.ble xs.length 1 && decide (0 ≤ y) && decide (y ≤ 100) then newL (List.replicate y.toNat xs).flatten σ else .bad) = .ok a σ' → wpAny X.M A (binaryOp .Mult vx vy) (Gv X ρ s a σ') E s := fun e => by
    obtain ⟨n, xs, rfl, hx, e⟩ := lstR_inv e
    obtain ⟨j, rfl, e⟩ := intR_inv e
    obtain ⟨hc, e⟩ := bif_inv e
    obtain ⟨l₁, vs, rfl, _, il, _, ra⟩ := W.list rx hx
    obtain ⟨tk, rfl⟩ := ry
    have h3 := Bool.and_eq_true_iff.mp hc
    have h2 := Bool.and_eq_true_iff.mp h3.1
    have hj := of_decide_eq_true h3.2
    have hj0 := of_decide_eq_true h2.2
    have hl : vs.length ≤ 1 := by rw [ra.length]; exact Nat.le_of_ble_eq_true h2.1
    obtain ⟨⟨cls, d, data, slo⟩, ho, hcl, k, hd⟩ := il.is
    simp only at hcl hd
    subst hcl hd
    have e1 : vs.toArray.size * j.toNat ≤ 100 := by
      rw [List.size_toArray]; exact Nat.le_trans (Nat.mul_le_mul hl (show j.toNat ≤ 100 by omega)) (by decide)
    refine wpAny_binaryOp_repeat_ref (T := "list") (U := "int") (by decide) ⟨_, ho, rfl⟩ (fun s' => typeIs_int s' j tk) noFill_list_mul F.fills_int_mul F.slot_int_rmul repeat_list F.slot_int_index.lookup
      (call_meets F.slot_int_rmul (typeIs_int s j tk) F.entry_int_rmul (F.args_int_rmul_2 _ _) (lm_int_rmul_list_any j tk l₁ _ k d slo)
        ⟨ho, rfl, ⟨_, ho, rfl⟩, call_meets F.slot_list_mul ⟨_, ho, rfl⟩ F.entry_list_mul (F.args_list_mul_2 _ _)
          (lm_list_mul_any l₁ _ k d slo j tk (by simp [Builtin.List.listFitsIndex]; omega) (by omega) (by simp [Builtin.List.listTooLong, sizeLine]; simp at e1; omega)) ⟨ho, ?_⟩⟩)
    refine made_list (t := s.toks) W (ra.times j.toNat) e (push_stays _ _) (size_none _) ⟨_, 0, Heap.get?_push_size _ rfl, rfl, rfl, ?_⟩
    rw [listMul_foldl_if]
  cases x with
  | int i =>
    obtain ⟨j, rfl, q⟩ := intR_inv (show intR y _ = _ from e)
    obtain ⟨hs, q⟩ := bif_inv q
    cases q
    obtain ⟨_, rfl⟩ := rx; obtain ⟨_, rfl⟩ := ry
    have hb := Bool.and_eq_true_iff.mp hs
    exact P.mul_int (Gv.int W _ _ _) (IntMulOk.of_bits (bits_small hb.1) (bits_small hb.2))
  | str i =>
    obtain ⟨j, rfl, q⟩ := intR_inv (show intR y _ = _ from e)
    obtain ⟨hc, q⟩ := bif_inv q
    cases q
    obtain ⟨_, rfl⟩ := rx; obtain ⟨_, rfl⟩ := ry
    have hb := Bool.and_eq_true_iff.mp hc
    have h1 := of_decide_eq_true hb.1
    have hz := Nat.le_of_ble_eq_true hb.2
    subst h1
    refine SB.mul ?_ (fun t' k => Gv.tok W _ ⟨_, rfl⟩)
    unfold bigN at hz
    refine ⟨by decide, fun _ _ => ?_, fun _ _ => ?_⟩
    · omega
    · have h6 : i.length * (3 : Int).toNat ≤ 2 ^ 20 * 3 := Nat.mul_le_mul hz (by decide)
      simp only [Builtin.Str.tooLong, decide_eq_false_iff_not, sizeLine_eq]
      omega
  | _ => exact go e
theorem binop_ok {op : Operator} {vx vy : Value} {x y a : AV} (W : Wd X ρ σ s.heap) (rx : Rep X ρ s.heap vx x) (ry : Rep X ρ s.heap vy y) (e : binop op x y σ = .ok a σ') : wpAny X.M A (binaryOp op vx vy) (Gv X ρ s a σ') E s := by
  have go : ∀ {f : Int → Int → Out AV}, (intR x fun x => intR y fun y => f x y) = .ok a σ' → ∃ i j t u, vx = .int i t ∧ vy = .int j u ∧ f i j = .ok a σ' := fun e => by
    obtain ⟨i, rfl, q⟩ := intR_inv e
    obtain ⟨j, rfl, q⟩ := intR_inv q
    obtain ⟨t, rfl⟩ := rx; obtain ⟨u, rfl⟩ := ry
    exact ⟨i, j, t, u, rfl, rfl, q⟩
  cases op with
  | Add => exact add_ok W rx ry e
  | Mult => exact mul_ok W rx ry e
  | Sub =>
    obtain ⟨i, j, t, u, rfl, rfl, q⟩ := go e; cases q
    exact P.sub_int (Gv.int W _ _ _)
  | Mod =>
    obtain ⟨i, j, t, u, rfl, rfl, q⟩ := go e
    obtain ⟨hc, q⟩ := bif_inv q
    cases q
    exact mod_int' (Int.ne_of_gt (of_decide_eq_true hc)) (Gv.int W _ _ _)
  | FloorDiv =>
    obtain ⟨i, j, t, u, rfl, rfl, q⟩ := go e
    obtain ⟨hs, q⟩ := bif_inv q
    cases q
    have hb := Bool.and_eq_true_iff.mp hs
    exact PyProof.Rows.floordiv_int (Int.ne_of_gt (of_decide_eq_true hb.1)) (Gv.int W _ _ _) (.inl (PyProof.noPylong_of_log2 (log_small hb.2)))
  | Pow =>
    obtain ⟨i, j, t, u, rfl, rfl, q⟩ := go e
    obtain ⟨hc, q⟩ := bif_inv q
    cases q
    have hb := Bool.and_eq_true_iff.mp hc
    exact PyProof.Rows.pow_int (Int.le_of_lt (of_decide_eq_true hb.1)) (of_decide_eq_true hb.2) (Gv.int W _ _ _)
  | _ => exact nomatch (show Out.bad = .ok a σ' from e)
theorem unop_ok {op : UnaryOp} {vx : Value} {x a : AV} (W : Wd X ρ σ s.heap) (rx : Rep X ρ s.heap vx x) (e : unop op x σ = .ok a σ') : wpAny X.M A (unaryOp op vx) (Gv X ρ s a σ') E s := by
  cases op with
  | USub =>
    obtain ⟨i, rfl, q⟩ := intR_inv (show intR x _ = _ from e)
    obtain ⟨_, rfl⟩ := rx; cases q
    exact P.neg_int (Gv.int W _ _ _)
  | Not =>
    have e : (match truthO x σ with
      | .ok b _ => Out.ok (AV.bool (!b)) σ
      | .exc _ _ => .bad
      | .bad => .bad) = .ok a σ' := e
    cases ht : truthO x σ with
    | ok b τ => rw [ht] at e; cases e; exact not_of (truthO_ok W rx ht fun _ t => Gv.bool W _ _)
    | exc c τ => rw [ht] at e; cases e
    | bad => rw [ht] at e; cases e
  | _ => exact nomatch (show Out.bad = .ok a σ' from e)
end
end Mine

/- N4 -/
set_option tactic.hygienic false
/-! Mine: comparisons, items. -/
namespace Mine
open PySem PySem.Spec PySem.Calls PyProof.Rows
section
variable {A : Around} {E : Value → Shared → Prop} {s : Shared} {X : Cx} {ρ : List Addr} {σ σ' : Sto}

theorem allP_all {h : Heap} {f : AV → Option PyData} {d : Nat} (hf : ∀ v a p, Rep X ρ h v a → f a = some p → (∃ as, Reads h v p as) ∧ p.canLay0 = true ∧ p.depth ≤ d) :
    ∀ {xs : List AV} {vs : List Value} {ps : List PyData}, RepAll X ρ h vs xs → allP f xs = some ps → (∃ as, ReadsAll h vs ps as) ∧ PyData.canLayAll0 ps = true ∧ PyData.depthAll ps ≤ d
  | [], vs, ps, r, e => by
    cases e
    rw [show vs = [] from r]
    exact ⟨⟨_, .nil⟩, by kernel_rfl, Nat.zero_le _⟩
  | x :: xs, vs, ps, r, e => by
    obtain ⟨v, vs', rfl, r1, r2⟩ := r
    obtain ⟨p, q, e⟩ := Option.bind_eq_some_iff.mp e
    obtain ⟨ps', q', rfl⟩ := Option.map_eq_some_iff.mp e
    obtain ⟨⟨as, a1⟩, a2, a3⟩ := hf _ _ _ r1 q
    obtain ⟨⟨bs, b1⟩, b2, b3⟩ := allP_all hf r2 q'
    exact ⟨⟨_, .cons a1 b1⟩, show (p.canLay0 && PyData.canLayAll0 ps') = true by rw [a2, b2]; rfl, show max p.depth (PyData.depthAll ps') ≤ d from Nat.max_le.mpr ⟨a3, b3⟩⟩

theorem plain_reads (W : Wd X ρ σ s.heap) : ∀ (d : Nat) (v : Value) (a : AV) (p : PyData), Rep X ρ s.heap v a → plainD σ d a = some p → (∃ as, Reads s.heap v p as) ∧ p.canLay0 = true ∧ p.depth ≤ d
  | 0, v, a, p, r, e => nomatch (show Option.none = some p from e)
  | d + 1, v, a, p, r, e => by
    cases a with
    | none => cases e; rw [show v = .none from r]; exact ⟨⟨_, .none⟩, rfl, Nat.zero_le _⟩
    | bool b => cases e; rw [show v = .bool _ from r]; exact ⟨⟨_, .bool _⟩, rfl, Nat.zero_le _⟩
    | int i => cases e; obtain ⟨t, rfl⟩ := r; exact ⟨⟨_, .int _ _⟩, rfl, Nat.zero_le _⟩
    | str x =>
      have e : (bif PyData.strOk x then some (PyData.str x) else Option.none) = some p := e
      cases hx : PyData.strOk x with
      | false => rw [hx] at e; cases e
      | true => rw [hx] at e; cases e; obtain ⟨t, rfl⟩ := r; exact ⟨⟨_, .str _ _⟩, hx, Nat.zero_le _⟩
    | tup xs =>
      obtain ⟨ps, q, rfl⟩ := Option.map_eq_some_iff.mp e
      obtain ⟨a, vs, rfl, _, ⟨o, ho, hc, n, hd⟩, ra⟩ := r
      obtain ⟨⟨as, a1⟩, a2, a3⟩ := allP_all (plain_reads W d) ra q
      exact ⟨⟨_, .tuple ho hc hd a1⟩, a2, Nat.succ_le_succ a3⟩
    | ref n =>
      obtain ⟨xs, hn, e⟩ := Option.bind_eq_some_iff.mp e
      obtain ⟨ps, q, rfl⟩ := Option.map_eq_some_iff.mp e
      obtain ⟨l, vs, rfl, _, il, _, ra⟩ := W.list r (listOf_inv hn)
      obtain ⟨⟨as, a1⟩, a2, a3⟩ := allP_all (plain_reads W d) ra q
      obtain ⟨o, ho, hc, k, hd⟩ := il.is
      exact ⟨⟨_, .list ho hc hd a1⟩, a2, Nat.succ_le_succ a3⟩
    | _ => exact nomatch (show Option.none = some p from e)

theorem isNone_rep {v : Value} {a : AV} {h : Heap} (r : Rep X ρ h v a) : plainIs v .none = true ∧ (v == .none) = isNone a := by
  cases a with
  | none => rw [show v = .none from r]; exact ⟨rfl, rfl⟩
  | bool b => rw [show v = .bool b from r]; exact ⟨rfl, rfl⟩
  | int i => obtain ⟨t, rfl⟩ := r; exact ⟨rfl, rfl⟩
  | str x => obtain ⟨t, rfl⟩ := r; exact ⟨rfl, rfl⟩
  | typ t => obtain ⟨n, rfl, _⟩ := r; exact ⟨rfl, rfl⟩
  | tup xs => obtain ⟨a, vs, rfl, _⟩ := r; exact ⟨rfl, rfl⟩
  | ref n => obtain ⟨a, rfl, _⟩ := r; exact ⟨rfl, rfl⟩
  | frozen ns => obtain ⟨a, vs, rfl, _⟩ := r; exact ⟨rfl, rfl⟩
  | sl p q => obtain ⟨a, o, u, u', rfl, _⟩ := r; exact ⟨rfl, rfl⟩
theorem isNone_inv {v : Value} {a : AV} {h : Heap} (r : Rep X ρ h v a) (e : isNone a = true) : v = .none ∧ a = .none := by
  cases a with
  | none => exact ⟨r, rfl⟩
  | _ => cases e

/-- a dict's entry -/
theorem RepD.get {h : Heap} {k : Int} : ∀ {kvs : List (Int × Value)} {es : List (Int × AV)}, RepD X ρ h kvs es → (valueAt kvs k = none ∧ dictGet k es = none) ∨ ∃ v x, valueAt kvs k = some v ∧ dictGet k es = some x ∧ Rep X ρ h v x
  | [], [], _ => .inl ⟨rfl, rfl⟩
  | [], _ :: _, ⟨r, _⟩ => by cases r
  | _ :: _, [], ⟨r, _⟩ => by cases r
  | (i, v) :: kvs, (j, x) :: es, ⟨r1, r2⟩ => by
    obtain ⟨v', vs', e1, ra, rb⟩ := r2
    cases e1
    have r1' := List.cons.inj r1
    have hij : i = j := r1'.1
    subst hij
    have ih := RepD.get (k := k) (kvs := kvs) (es := es) ⟨r1'.2, rb⟩
    have e2 : dictGet k ((i, x) :: es) = bif i == k then some x else dictGet k es := rfl
    unfold valueAt at ih ⊢
    rw [List.find?_cons, e2]
    by_cases hk : i = k
    · subst hk
      rw [show decide ((i, v).1 = i) = true from decide_eq_true rfl, show (i == i) = true from beq_self_eq_true i]
      exact .inr ⟨v, x, rfl, rfl, ra⟩
    · rw [show decide ((i, v).1 = k) = false from decide_eq_false hk, show (i == k) = false from beq_eq_false_iff_ne.mpr hk]
      exact ih
theorem RepD.put {h : Heap} {k : Int} {v : Value} {x : AV} (r : Rep X ρ h v x) : ∀ {kvs : List (Int × Value)} {es : List (Int × AV)}, (kvs.map (·.1)).Nodup → RepD X ρ h kvs es → RepD X ρ h (stored kvs k v) (dictPutL k x es) ∧ (stored kvs k v).length ≤ kvs.length + 1
  | [], [], _, _ => ⟨⟨rfl, .one r⟩, Nat.le_refl _⟩
  | [], _ :: _, _, ⟨r, _⟩ => by cases r
  | _ :: _, [], _, ⟨r, _⟩ => by cases r
  | (i, u) :: kvs, (j, y) :: es, hn, ⟨r1, r2⟩ => by
    obtain ⟨v', vs', e1, ra, rb⟩ := r2
    cases e1
    have r1' := List.cons.inj r1
    have hij : i = j := r1'.1
    subst hij
    obtain ⟨hn1, hn2⟩ := List.nodup_cons.mp hn
    have ih := RepD.put r (k := k) (kvs := kvs) (es := es) hn2 ⟨r1'.2, rb⟩
    have e2 : dictPutL k x ((i, y) :: es) = bif i == k then (i, x) :: es else (i, y) :: dictPutL k x es := rfl
    unfold stored at ih ⊢
    rw [List.any_cons, List.map_cons, e2]
    by_cases hk : i = k
    · subst hk
      have hm : kvs.map (fun kv => if kv.1 = i then (kv.1, v) else kv) = kvs := by
        refine (List.map_congr_left fun a ha => ?_).trans (List.map_id kvs)
        rw [if_neg fun q => hn1 (List.mem_map.mpr ⟨a, ha, q⟩)]; rfl
      rw [show decide ((i, u).1 = i) = true from decide_eq_true rfl, Bool.true_or, if_pos rfl, if_pos rfl, hm, show (i == i) = true from beq_self_eq_true i]
      exact ⟨⟨congrArg (i :: ·) r1'.2, .cons r rb⟩, Nat.le_succ _⟩
    · rw [show decide ((i, u).1 = k) = false from decide_eq_false hk, Bool.false_or, if_neg hk, show (i == k) = false from beq_eq_false_iff_ne.mpr hk]
      by_cases ha : kvs.any (fun kv => decide (kv.1 = k)) = true
      · rw [if_pos ha] at ih ⊢
        exact ⟨⟨congrArg (i :: ·) ih.1.1, .cons ra ih.1.2⟩, Nat.succ_le_succ ih.2⟩
      · rw [if_neg ha] at ih ⊢
        exact ⟨⟨congrArg (i :: ·) ih.1.1, .cons ra ih.1.2⟩, Nat.succ_le_succ ih.2⟩
theorem cmpop_ok {op : CmpOp} {vx vy : Value} {x y a : AV} (hM : X.base.get? sysModules ≠ none) (W : Wd X ρ σ s.heap) (rx : Rep X ρ s.heap vx x) (ry : Rep X ρ s.heap vy y) (hu : A.units + 64 < cLine) (e : cmpop op x y σ = .ok a σ') : wpAny X.M A (compareOp op vx vy) (Gv X ρ s a σ') E s := by
  have go : ∀ {f : Int → Int → Bool}, (intR x fun x => intR y fun y => .ok (.bool (f x y)) σ) = .ok a σ' → ∃ i j t u, vx = .int i t ∧ vy = .int j u ∧ Gv X ρ s a σ' (.bool (f i j)) s := fun e => by
    obtain ⟨i, rfl, q⟩ := intR_inv e
    obtain ⟨j, rfl, q⟩ := intR_inv q
    obtain ⟨t, rfl⟩ := rx; obtain ⟨u, rfl⟩ := ry
    cases q
    exact ⟨i, j, t, u, rfl, rfl, Gv.same W rfl⟩
  have eqs : ∀ {f : Bool → Bool}, (optR (eqv σ x y) fun r => .ok (.bool (f r)) σ) = .ok a σ' → ∃ p q as bs, Reads s.heap vx p as ∧ Reads s.heap vy q bs ∧ p.canLay0 = true ∧ q.canLay0 = true ∧ A.units + 4 * min p.depth q.depth + 8 ≤ A.units + 72 ∧ Gv X ρ s a σ' (.bool (f (PyData.eqv p q))) s := fun e => by
    obtain ⟨b, hb, q⟩ := optR_inv e
    obtain ⟨p, hp, hb⟩ := Option.bind_eq_some_iff.mp hb
    obtain ⟨p', hp', rfl⟩ := Option.map_eq_some_iff.mp hb
    obtain ⟨⟨as, a1⟩, a2, a3⟩ := plain_reads W 16 _ _ _ rx hp
    obtain ⟨⟨bs, b1⟩, b2, b3⟩ := plain_reads W 16 _ _ _ ry hp'
    cases q
    exact ⟨p, p', as, bs, a1, b1, a2, b2, by have := Nat.min_le_left p.depth p'.depth; omega, Gv.same W rfl⟩
  have ins : ∀ {f : Bool → Bool}, (intR x fun x => dicR σ y fun es => .ok (.bool (f (dictGet x es).isSome)) σ) = .ok a σ' → ∃ i t l g, vx = .int i t ∧ vy = .ref l ∧ (l == sysModules) = false ∧ s.heap.MapOf (intKind X.prog X.w) l g ∧ ∀ t, Gv X ρ s a σ' (.bool (f (g i).isSome)) { s with toks := t } := fun e => by
    obtain ⟨i, rfl, q⟩ := intR_inv e
    obtain ⟨n, rfl, q⟩ := refR_inv q
    obtain ⟨es, hd, q⟩ := optR_inv q
    obtain ⟨t, rfl⟩ := rx
    obtain ⟨l, kvs, rfl, hl, id, _, rd⟩ := W.dict ry (dictOf_inv hd)
    cases q
    refine ⟨i, t, l, _, rfl, rfl, beq_eq_false_iff_ne.mpr fun q => hM (by rw [← q]; exact W.new l (List.mem_of_getElem? hl)), id.mapOf, fun t => ?_⟩
    have : (valueAt kvs i).isSome = (dictGet i es).isSome := by
      rcases rd.get (k := i) with ⟨e1, e2⟩ | ⟨v, x, e1, e2, _⟩ <;> rw [e1, e2] <;> rfl
    rw [this]; exact Gv.bool W _ _
  cases op with
  | Is =>
    obtain ⟨hy, q⟩ := bif_inv (c := isNone y) (x := Out.ok (AV.bool (isNone x)) σ) e
    obtain ⟨rfl, rfl⟩ := isNone_inv ry hy
    cases q
    have q := isNone_rep rx
    refine wpAny_is_plain q.1 ?_
    rw [q.2]; exact Gv.same W rfl
  | IsNot =>
    obtain ⟨hy, q⟩ := bif_inv (c := isNone y) (x := Out.ok (AV.bool (!isNone x)) σ) e
    obtain ⟨rfl, rfl⟩ := isNone_inv ry hy
    cases q
    have q := isNone_rep rx
    refine wpAny_isNot_plain q.1 ?_
    rw [q.2]; exact Gv.same W rfl
  | Eq =>
    obtain ⟨p, q, as, bs, h1, h2, h3, h4, h5, h6⟩ := eqs (f := fun r => r) e
    exact SeqAt.eqOverData _ _ A E s _ _ _ _ _ _ _ h1 h2 h3 h4 (by omega) h6
  | NotEq =>
    obtain ⟨p, q, as, bs, h1, h2, h3, h4, h5, h6⟩ := eqs (f := fun r => !r) e
    exact SeqAt.neOverData _ _ A E s _ _ _ _ _ _ _ h1 h2 h3 h4 (by omega) h6
  | Lt => obtain ⟨i, j, t, u, rfl, rfl, g⟩ := go e; exact P.lt_int g
  | LtE => obtain ⟨i, j, t, u, rfl, rfl, g⟩ := go e; exact P.le_int g
  | Gt => obtain ⟨i, j, t, u, rfl, rfl, g⟩ := go e; exact P.gt_int g
  | GtE => obtain ⟨i, j, t, u, rfl, rfl, g⟩ := go e; exact P.ge_int g
  | In => obtain ⟨i, t, l, g, rfl, rfl, h1, h2, h3⟩ := ins (f := fun r => r) e; exact wpAny_in_of (intKind_is _ _ _ _) h1 h2 (h3 _)
  | NotIn => obtain ⟨i, t, l, g, rfl, rfl, h1, h2, h3⟩ := ins (f := fun r => !r) e; exact wpAny_notIn_of (intKind_is _ _ _ _) h1 h2 (h3 _)
end
end Mine

/- N5 -/
set_option tactic.hygienic false
/-! Mine: o[i], o[i] = v, append. -/
namespace Mine
open PySem PySem.Spec PySem.Calls PyProof.Rows
section
variable {A : Around} {E : Value → Shared → Prop} {s : Shared} {X : Cx} {ρ : List Addr} {σ σ' : Sto}

theorem subscripted_ops (slice : Expr) (o i : Value) : ∃ ops, subscripted slice false o i = operate ops (getItem o i) := by
  cases slice with
  | Slice l u st p => cases st <;> exact ⟨_, rfl⟩
  | _ => exact ⟨_, rfl⟩
/-- an item's look at a type and its road -/
theorem tail_on {value slice : Expr} {o i : Value} {T id : String} {Q : Value → Shared → Prop} (hT : s.TypeIs o T) (hl : typeLookup (.type T) "__getitem__" = pure (some (.builtin id))) (hg : wpAny X.M A (getItem o i) Q E s) :
    wpAny X.M A (subscriptTail value slice o i) Q E s := by
  obtain ⟨ops, e⟩ := subscripted_ops slice o i
  exact tail_any hT hl hg e

theorem getItem_str_sl {x : Str} {t : Tok} {a : Addr} {o : Obj} {u v : Value} {p q : Option Int} {Q : Value → Shared → Prop} (ho : s.heap.get? a = some o) (hc : o.cls = .type "slice") (hd : o.data = .fields #[u, v, .none]) (hu : IsPartV u p) (hv : IsPartV v q) (hz : x.length ≤ bigN)
    (h : ∀ t' k, Q (.str (Txt.slice x p q) t') { s with toks := k }) : wpAny X.M A (getItem (.str x t) (.ref a)) Q E s := by
  have hz' : ∀ l u, (Txt.slice x l u).length ≤ sizeLine := fun l u => Nat.le_trans (Nat.le_trans (Txt.slice_le x l u) (Nat.le_succ_of_le hz)) big_line
  have hp : ∀ {u : Value} {p : Option Int}, IsPartV u p → ∃ l : Option (Int × Tok), u = partValue l ∧ p = l.map (·.1) := fun {u p} h => by
    cases p with
    | none => exact ⟨none, h, rfl⟩
    | some i => obtain ⟨t, rfl⟩ := h; exact ⟨some (i, t), rfl, rfl⟩
  obtain ⟨l, rfl, rfl⟩ := hp hu
  obtain ⟨m, rfl, rfl⟩ := hp hv
  exact wpAny_getItem_str_slice (l := l) (u := m) (st := none) ⟨_, ho, hc, hd⟩ rfl (post_val_or_str ⟨hz' _ _, h⟩)

theorem arr {vs : List Value} {n : Nat} {v : Value} (h : vs[n]? = some v) : vs.toArray[n]? = some v := (List.getElem?_toArray ..).trans h
theorem itemI_ok {value sl : Expr} {vo : Value} {o a : AV} {k : Int} {t : Tok} (W : Wd X ρ σ s.heap) (ro : Rep X ρ s.heap vo o) (e : itemI o k σ = .ok a σ') : wpAny X.M A (subscriptTail value sl vo (.int k t)) (Gv X ρ s a σ') E s := by
  cases o with
  | tup xs =>
    obtain ⟨h0, e⟩ := bif_inv (c := decide (0 ≤ k)) (x := optA (xs[k.toNat]?) σ) e
    obtain ⟨e1, rfl⟩ := optA_inv e
    obtain ⟨b, vs, rfl, z, it, ra⟩ := ro
    obtain ⟨v, hv, r⟩ := ra.get e1
    have hk := (List.getElem?_eq_some_iff.mp hv).1
    have h0 := of_decide_eq_true h0
    have hfit := fits_len (Nat.le_succ_of_le z)
    have hit : IsTup s.heap b vs.toArray := it
    refine tail_on hit.typeIs slot_tuple_getitem.lookup (PyProof.Rows.getItem_tuple hit (by omega) (by omega) (j := k.toNat) ?_ (arr hv) (Gv.same W r))
    unfold seqIndex?
    rw [List.size_toArray]
    simp only [show ¬ k < 0 by omega, if_false]
    first | rw [if_pos (by omega)] | (simp; omega)
  | ref n =>
    obtain ⟨ob, hn, e⟩ := optR_inv (show optR (σ[n]?) _ = _ from e)
    cases ob with
    | list xs =>
      obtain ⟨e1, rfl⟩ := optA_inv (show optA (at? xs k) σ = _ from e)
      obtain ⟨l, vs, rfl, _, il, z, ra⟩ := W.list ro hn
      refine tail_on il.is.typeIs slot_list_getitem.lookup ?_
      have hlen := ra.length
      have hfit := fits_len z
      unfold at? at e1
      by_cases h0 : 0 ≤ k
      · rw [decide_eq_true h0] at e1
        obtain ⟨v, hv, r⟩ := ra.get (show xs[k.toNat]? = some a from e1)
        have hk := (List.getElem?_eq_some_iff.mp hv).1
        exact wpAny_getItem_list il.is h0 (by omega) (arr hv) (Gv.same W r)
      · rw [decide_eq_false h0] at e1
        by_cases h1 : 0 ≤ k + (xs.length : Int)
        · rw [decide_eq_true h1] at e1
          obtain ⟨v, hv, r⟩ := ra.get (show xs[(k + xs.length).toNat]? = some a from e1)
          exact wpAny_getItem_list_neg il.is (by omega) (by rw [List.size_toArray, hlen]; omega) (by omega) (by rw [List.size_toArray, hlen]; exact arr hv) (Gv.same W r)
        · rw [decide_eq_false h1] at e1; cases e1
    | dict es =>
      obtain ⟨e1, rfl⟩ := optA_inv (show optA (dictGet k es) σ = _ from e)
      obtain ⟨l, kvs, rfl, _, id, _, rd⟩ := W.dict ro hn
      rcases rd.get (k := k) with ⟨_, e2⟩ | ⟨v, x, e2, e3, r⟩
      · rw [e1] at e2; cases e2
      · rw [e1] at e3; cases e3
        exact tail_on id.typeIs slot_dict_getitem.lookup (wpAny_getItem_of (intKind_is _ _ _ _) id.mapOf e2 (Gv.tok W _ r))
  | _ => exact nomatch (show Out.bad = .ok a σ' from e)
theorem item_ok {value sl : Expr} {vo vi : Value} {o i a : AV} (W : Wd X ρ σ s.heap) (ro : Rep X ρ s.heap vo o) (ri : Rep X ρ s.heap vi i) (e : item o i σ = .ok a σ') : wpAny X.M A (subscriptTail value sl vo vi) (Gv X ρ s a σ') E s := by
  cases i with
  | int k => obtain ⟨t, rfl⟩ := ri; exact itemI_ok W ro e
  | sl p q =>
    obtain ⟨x, rfl, e⟩ := strR_inv (show strR o _ = _ from e)
    obtain ⟨hb, e⟩ := bif_inv e
    cases e
    obtain ⟨t, rfl⟩ := ro
    obtain ⟨_, _, _, _, rfl, ho, hc, hd, hu, hv⟩ := ri
    exact tail_on (typeIs_str _ _ _) F.slot_str_getitem.lookup (getItem_str_sl ho hc hd hu hv (Nat.le_of_ble_eq_true hb) fun t' k => Gv.tok W _ ⟨_, rfl⟩)
  | _ => exact nomatch (show Out.bad = .ok a σ' from e)

theorem Obj.dict_mapSeq (o : Obj) (f) : (o.mapSeq f).dict = o.dict := by
  obtain ⟨c, d, dt, sl⟩ := o; cases dt <;> rfl
theorem list_setAt {a : Addr} {vs : List Value} {k : Int} {t : Tok} {v : Value} {Q : Unit → Shared → Prop} (hl : IsL s.heap a vs) (h0 : 0 ≤ k) (hfit : k < 2 ^ 63) (hn : k < vs.length)
    (hQ : ∀ h', IsL h' a (vs.set k.toNat v) → Heap.SameBut a s.heap h' → Q () { s with heap := h' }) : wpAny X.M A (PySem.setItem (.ref a) (.int k t) v) Q E s := by
  obtain ⟨o, ne, ho, hc, hdn, hd⟩ := id hl
  have hli := hl.is
  unfold PySem.setItem
  try with_reducible refine wpAny_holding ?_
  first | refine wpAny_bind (wpAny_pure ?_) | skip
  refine wpAny_bind (wpAny_sequenceKey hli.typeIs (by decide) ?_)
  refine wpAny_bind (wpAny_callSpecial?_slot (name := Str.ofString "__setitem__") hli.typeIs slot_list_setitem
    (wpAny_call_entry slot_list_setitem hli.typeIs entry_list_setitem ?_ (args_list_setitem _ _ _)))
  show wpAny _ _ (Builtin.List.listSubscript? (.int k t) >>= _) _ _ s
  refine wpAny_bind (wpAny_listSubscript_int (fitsIndex_of h0 hfit) ?_)
  clear hfit
  obtain ⟨j, rfl⟩ := Int.eq_ofNat_of_zero_le h0
  have hj : j < vs.toArray.size := by simp only [List.size_toArray]; omega
  have hx' : vs.toArray[j]? = some vs.toArray[j] := Array.getElem?_eq_getElem hj
  show wpAny _ _ ((seqItemAt a j >>= fun r => pure (r.map (j, ·))) >>= _) _ _ s
  refine wpAny_bind (wpAny_bind (wpAny_seqItemAt ho hd (wpAny_pure ?_)))
  rw [hx']
  show wpAny _ _ (setSeqItemAt a j v >>= _) _ _ s
  obtain ⟨n', hd'⟩ := Obj.data_mapSeq hd (·.setIfInBounds j v)
  have hfin : IsL (s.heap.update a (Obj.mapSeq (·.setIfInBounds j v))) a (vs.set j v) :=
    ⟨_, n', Heap.get?_update_self _ ho (Obj.isFreed_of_seq hd'), (Obj.cls_mapSeq ..).trans hc, (Obj.dict_mapSeq ..).trans hdn, by rw [hd']; simp⟩
  refine wpAny_bind (wpAny_setSeqItemAt ho hd ?_)
  first
    | exact wpAny_bind (wpAny_pure (wpAny_pure ⟨.none, rfl, wpAny_pure (hQ _ hfin (Heap.SameBut.update ..))⟩))
    | exact wpAny_pure ⟨.none, rfl, wpAny_pure (hQ _ hfin (Heap.SameBut.update ..))⟩
theorem setItem_ok {vo vi vv : Value} {o i v : AV} (W : Wd X ρ σ s.heap) (ro : Rep X ρ s.heap vo o) (ri : Rep X ρ s.heap vi i) (rv : Rep X ρ s.heap vv v) (e : setItem o i v σ = .ok () σ') :
    wpAny X.M A (PySem.setItem vo vi vv) (fun _ s' => After X ρ s ρ σ' s') E s := by
  obtain ⟨k, rfl, e⟩ := intR_inv (show intR i _ = _ from e)
  obtain ⟨n, rfl, e⟩ := refR_inv e
  obtain ⟨ob, hn, e⟩ := optR_inv e
  obtain ⟨t, rfl⟩ := ri
  cases ob with
  | list xs =>
    obtain ⟨hc, e⟩ := bif_inv (c := decide (0 ≤ k) && decide (k < xs.length)) (x := Out.ok () (σ.set n (.list (xs.set k.toNat v)))) e
    cases e
    have hb := Bool.and_eq_true_iff.mp hc
    have h2 := of_decide_eq_true hb.2
    obtain ⟨l, vs, rfl, hr, il, z, ra⟩ := W.list ro hn
    have hfit := fits_len z
    rw [← ra.length] at h2
    refine list_setAt il (of_decide_eq_true hb.1) (Int.lt_trans h2 hfit) h2 fun h' hl' hs => After.set (o := .list (xs.set k.toNat v)) W hr hs ⟨_, hl', by rw [List.length_set]; exact z, (ra.set rv _).mono (Keep.ext hs.extBut) (.one fun o e => il.mut e) (.refl _)⟩ s.toks
  | dict es =>
    obtain ⟨hc, e⟩ := bif_inv (c := Nat.ble es.length bigN) (x := Out.ok () (σ.set n (.dict (dictPutL k v es)))) e
    cases e
    obtain ⟨l, kvs, rfl, hr, id, z, rd⟩ := W.dict ro hn
    have hn' : (kvs.map (·.1)).Nodup := let ⟨_, _, _, _, _, _, _, _, hn⟩ := id; hn
    have hp := RepD.put (k := k) rv hn' rd
    have hle : kvs.length ≤ bigN := by rw [← List.length_map (f := (·.1)), rd.1, List.length_map]; exact Nat.le_of_ble_eq_true hc
    have hm : ∀ o, s.heap.get? l = some o → Loose o := fun o e => W.sok l (List.mem_of_getElem? hr) o e
    refine wpAny_setItem_pairs (intKind_is _ _ _ _) id (fun h' hd' hs => After.set (o := .dict (dictPutL k v es)) W hr hs ⟨_, hd', Nat.le_trans hp.2 (Nat.succ_le_succ hle), hp.1.1, hp.1.2.mono (Keep.ext hs.extBut) (.one hm) (.refl _)⟩ _) (Nat.le_trans z big_line)

theorem list_append {a : Addr} {vs : List Value} {x : Value} {Q : Value → Shared → Prop} (hl : IsL s.heap a vs) (hz : vs.length ≤ bigN + 1)
    (hQ : ∀ h', IsL h' a (vs ++ [x]) → Heap.SameBut a s.heap h' → Q .none { s with heap := h' }) : wpAny X.M A (call (.builtin "list.append") [.ref a, x]) Q E s := by
  obtain ⟨o, n, ho, hc, hdn, hd⟩ := id hl
  obtain ⟨n', hd'⟩ := Obj.data_mapSeq hd (·.push x)
  refine wpAny_call_entry slot_list_append hl.is.typeIs entry_list_append ?_ (args_list_append _ _)
  show wpAny _ _ (updateSeq a (·.push x) >>= fun _ => ret .none) _ _ s
  refine wpAny_bind ?_
  refine wpAny_updateSeq ho hd (wpAny_pure ⟨.none, rfl, hQ _ ?_ (Heap.SameBut.update ..)⟩) (by rw [List.size_toArray]; exact Nat.le_trans hz big_line) (by unfold bigN at hz; simp only [List.push_toArray, List.size_toArray, List.length_append, List.length_cons, List.length_nil, sizeLine_eq]; omega)
  exact ⟨_, n', Heap.get?_update_self _ ho (Obj.isFreed_of_seq hd'), (Obj.cls_mapSeq ..).trans hc, (Obj.dict_mapSeq ..).trans hdn, by simpa using hd'⟩
theorem append_ok {x vo : Value} {o v r : AV} (W : Wd X ρ σ s.heap) (ro : Rep X ρ s.heap vo o) (rx : Rep X ρ s.heap x v) (e : append o v σ = .ok r σ') : wpAny X.M A (call (.builtin "list.append") [vo, x]) (Gv X ρ s r σ') E s := by
  obtain ⟨n, rfl, e⟩ := refR_inv (show refR o _ = _ from e)
  obtain ⟨xs, hn, e⟩ := optR_inv e
  obtain ⟨hc, e⟩ := bif_inv e
  cases e
  obtain ⟨l, vs, rfl, hr, il, z, ra⟩ := W.list ro (listOf_inv hn)
  have hz : (vs ++ [x]).length ≤ bigN + 1 := by rw [List.length_append, ra.length]; exact Nat.succ_le_succ (Nat.le_of_ble_eq_true hc)
  exact list_append il z fun h' hl' hs => ⟨ρ, After.set (o := .list (xs ++ [v])) W hr hs ⟨_, hl', hz, (RepAll.append (.one rx) ra).mono (Keep.ext hs.extBut) (.one fun o e => il.mut e) (.refl _)⟩ s.toks, rfl⟩
end
end Mine

/- N6a -/
set_option tactic.hygienic false
/-! Mine: dict of a list of pairs. -/
namespace Mine
open PySem PySem.Spec PySem.Calls PyProof.Rows
set_option maxRecDepth 100000
theorem keys_none : typeLookup (.type "list") "keys" = pure none := by rw [typeLookup_type, builtinLookup_eq_fast]; kernel_rfl
theorem entry_upd : entryFor table "dict.update.loop" = some Builtin.«dict.update.loop» := entryFor_of_tree (by kernel_rfl)
theorem plain_upd : plainId "dict.update.loop" = true := by decide +kernel
section
variable {prog : Program} {w : World} {A : Around} {E : Value → Shared → Prop} {s : Shared}
theorem keys_list {a : Addr} {o : Obj} {xs : Array Value} {k : Nat} {Q : Option Value → Shared → Prop} (hx : s.heap.get? a = some o) (hc : o.cls = .type "list") (hdat : o.data = .seq xs k) (hd : o.dict = none) (hA : A.handled = none)
    (h : ∀ h' tk, s.heap.StaysIn h' → Q none { s with heap := h', toks := tk }) : wpAny (model prog w) A (getAttr? (.ref a) "keys") Q E s := by
  obtain ⟨c, dct, dat, sl⟩ := o
  simp only at hc hdat hd
  subst hc hdat hd
  obtain ⟨hp, g, d, tk, os⟩ := s
  have hT : ∀ tk', (⟨hp, g, d, tk', os⟩ : Shared).TypeIs (.ref a) "list" := fun _ => ⟨_, hx, rfl⟩
  have f1 := sub_AttributeError
  have f3 := F.slot_list_getattribute.lookup
  have f4 := F.slot_list_getattribute.bind (.ref a)
  have f5 := am_list_getattr_none
  unfold getAttr? getAttrBy? getAttrBy
  repeat (any_goals (first | assumption | exact hT _ | ((with_reducible show wpAny _ _ (call (Value.builtin "list.__getattribute__") _ _) _ _ _); refine call_meets F.slot_list_getattribute (hT _) am_entry_list_getattribute (F.args_list_getattribute_2 _ _) (meets_getattribute_miss_list a xs k sl "keys" _ keys_none (by decide +kernel)) ⟨hx, hA, fun h' tk' e hx' => ?_⟩) | wp_step))
  obtain ⟨t', u', he⟩ := hx'.there
  show wpAny _ _ (getattributeRaised _ _ _ _ _ _ _) _ _ _
  unfold getattributeRaised
  repeat (any_goals (first | assumption | wp_step))
  exact h _ _ hx'.keeps

end
end Mine

/- N6 -/
set_option tactic.hygienic false
/-! Mine: dict of a list of pairs. -/
namespace Mine
open PySem PySem.Spec PySem.Calls PyProof.Rows
set_option maxRecDepth 100000
section
variable {prog : Program} {w : World} {A : Around} {E : Value → Shared → Prop} {s : Shared}
/-- pairs as tuples -/
noncomputable def PairsAre (h : Heap) (vs : List Value) (ps : List (Int × Value)) : Prop := vs.length = ps.length ∧ ∀ (j : Nat) (v : Value), vs[j]? = some v → ∃ t k tk x, v = Value.ref t ∧ h.IsTuple t #[.int k tk, x] ∧ ps[j]? = some (k, x)

theorem pair_items {t : Addr} {its : Array Value} {Q : List Value → Shared → Prop} (ht : s.heap.IsTuple t its) (h : Q its.toList s) : wpAny (model prog w) A (Builtin.Dict.pairItems (.ref t)) Q E s := by
  obtain ⟨o, ho, hc, n, hd⟩ := ht
  unfold Builtin.Dict.pairItems
  refine wpAny_bind (wpAny_typeOf ⟨o, ho, hc⟩ ?_)
  rw [if_pos (by decide)]
  exact wpAny_bind (wpAny_seqItems ho hd (wpAny_pure h))

theorem upd_loop (hh : A.in1.handled = none) {l I D : Addr} {vs : List Value} {ps : List (Int × Value)} (hI : I ≠ l) (hD : D ≠ l) (hID : D ≠ I) (hz : vs.length ≤ sizeLine) {R : Result → Shared → Prop} : ∀ (k i : Nat) (s : Shared) (kvs : List (Int × Value)), vs.length - i = k → i ≤ vs.length → kvs.length ≤ i →
    s.heap.IsListIter I l i → s.heap.IsList l vs.toArray → s.heap.DictOf (intKind prog w) D kvs → PairsAre s.heap vs ps → (∀ (j : Nat) (t : Addr), vs[j]? = some (Value.ref t) → t ≠ I ∧ t ≠ D) →
    (∀ h' tk, (∀ b o, b ≠ I → b ≠ D → s.heap.get? b = some o → h'.get? b = some o) → h'.DictOf (intKind prog w) D (merged kvs (ps.drop i)) → R (.ok (.ret .none)) { s with heap := h', toks := tk }) →
    codeAny (model prog w) A (.builtin "dict.update.loop" ⟨[.ref D, .ref I, rawInt i, .none], []⟩) R s := by
  intro k
  induction k with
  | zero =>
    intro i s kvs hk hi hn hit hli hd hp hne hR
    refine codeAny_builtin entry_upd ?_
    rw [Around.under_plainId plain_upd _]
    show wpAny _ A.in1 (pyNext (.ref I) >>= _) _ _ s
    refine wpAny_bind (wpAny_pyNext_list_end hh hit hli (by simp; omega) fun h' hx => ?_)
    show wpAny _ A.in1 (Builtin.Dict.addKeywords D [] >>= fun _ => ret .none) _ _ _
    refine wpAny_bind (wpAny_pure (wpAny_pure (hR h' s.toks (fun b o h1 _ e => hx b o h1 e) ?_)))
    rw [List.drop_eq_nil_of_le (by rw [← hp.1]; omega)]
    obtain ⟨o, es, ep, ho, r⟩ := hd
    exact ⟨o, es, ep, hx _ _ hID ho, r⟩
  | succ k ih =>
    intro i s kvs hk hi hn hit hli hd hp hne hR
    have hlt : i < vs.length := by omega
    have hv := List.getElem?_eq_getElem hlt
    obtain ⟨t, key, tk, x, hvt, ht, hpx⟩ := hp.2 i _ hv
    rw [hvt] at hv
    obtain ⟨n1, n2⟩ := hne i t hv
    refine codeAny_builtin entry_upd ?_
    rw [Around.under_plainId plain_upd _]
    show wpAny _ A.in1 (pyNext (.ref I) >>= _) _ _ s
    refine wpAny_bind (wpAny_pyNext_list_item hit hli (arr hv) fun h₁ hit₁ hs₁ => ?_)
    have up : ∀ {b : Addr} {its : Array Value}, b ≠ I → s.heap.IsTuple b its → h₁.IsTuple b its := fun hb ⟨o, ho, r⟩ => ⟨o, (hs₁.2 _ hb).trans ho, r⟩
    obtain ⟨o, es, ep, ho, r⟩ := hd
    have hd₁ : h₁.DictOf (intKind prog w) D kvs := ⟨o, es, ep, (hs₁.2 _ hID).trans ho, r⟩
    show wpAny _ A.in1 (holding _ _ >>= _) _ _ _
    refine wpAny_bind (wpAny_holding (wpAny_bind (wpAny_tryCatch (pair_items (s := { s with heap := h₁ }) (up n1 ht) ?_))))
    show wpAny _ A.in1 (holding _ (dictSet D (.int key tk) x)) _ _ _
    refine wpAny_holding (wpAny_dictSet_pairs (knd := intKind prog w) (k := key) (s := { s with heap := h₁ }) (intKind_is _ _ _ _) hd₁ (fun h₂ hd₂ hs₂ => ?_) (by omega))
    refine wpAny_pure ⟨plainId_quiet plain_upd _, ?_⟩
    have st : ∀ b o, b ≠ I → b ≠ D → s.heap.get? b = some o → h₂.get? b = some o := fun b o h1 h2 e => (hs₂.2 b h2).trans ((hs₁.2 b h1).trans e)
    have hmem : ∀ (j : Nat) (v : Value), vs[j]? = some v → ∃ t, v = Value.ref t ∧ t ≠ I ∧ t ≠ D := fun j v hj => by
      obtain ⟨t', _, _, _, rfl, _⟩ := hp.2 j v hj
      exact ⟨t', rfl, hne j t' hj⟩
    refine ih (i + 1) { s with heap := h₂, toks := s.toks + 1 } _ (by omega) hlt ?_ ?_ ?_ hd₂ ⟨hp.1, fun j v hj => ?_⟩ hne fun h' tk' hst hd' => hR h' tk' (fun b o h1 h2 e => hst b o h1 h2 (st b o h1 h2 e)) ?_
    · unfold stored
      split
      · rw [List.length_map]; omega
      · rw [List.length_append]; simp only [List.length_cons, List.length_nil]; omega
    · obtain ⟨oI, eI, r⟩ := hit₁
      exact ⟨oI, (hs₂.2 I (Ne.symm hID)).trans eI, r⟩
    · obtain ⟨ol, el, r⟩ := hli
      exact ⟨ol, st _ _ (Ne.symm hI) (Ne.symm hD) el, r⟩
    · obtain ⟨t', k', tk', x', rfl, ⟨o', ho', r'⟩, hj'⟩ := hp.2 j v hj
      obtain ⟨h1, h2⟩ := hne j t' hj
      exact ⟨t', k', tk', x', rfl, ⟨o', st _ _ h1 h2 ho', r'⟩, hj'⟩
    · have hlp : i < ps.length := by rw [← hp.1]; exact hlt
      rw [List.drop_eq_getElem_cons hlp]
      have : ps[i] = (key, x) := by rw [List.getElem?_eq_getElem hlp] at hpx; exact Option.some.inj hpx
      rw [this]
      exact hd'
theorem call_dict_list {l : Addr} {vs : List Value} {ps : List (Int × Value)} {Q : Value → Shared → Prop} (hh : A.handled = none) (hl : IsL s.heap l vs) (hp : PairsAre s.heap vs ps) (hz : vs.length ≤ sizeLine)
    (hQ : ∀ h' tk, s.heap.StaysIn h' → h'.DictOf (intKind prog w) s.heap.objs.size (merged [] ps) → Q (.ref s.heap.objs.size) { s with heap := h', toks := tk }) : wpAny (model prog w) A (call (.type "dict") [.ref l]) Q E s := by
  refine callType_codes (Q₁ := fun obj s₁ => obj = .ref s.heap.objs.size ∧ s₁ = { s with heap := s.heap.push { cls := .type "dict", data := .dict #[] } }) F.kt_called_dict (F.kt_typeCall_dict_1 _) F.entry_dict_init (kt_code_dict_new _ ⟨rfl, rfl⟩) ?_
  rintro obj s₁ ⟨rfl, rfl⟩
  have hnew : (s.heap.push { cls := .type "dict", data := .dict #[] }).DictOf (intKind prog w) s.heap.objs.size [] := Heap.DictOf.new s.heap
  obtain ⟨o, n, ho, hc, hdn, hd⟩ := id hl
  have lt : l < s.heap.objs.size := Heap.lt_size ho
  refine ⟨hnew.typeIs, F.args_dict_init_2 _ _, ?_⟩
  unfold Builtin.«dict.__init__»
  refine wpAny_bind ?_
  unfold Builtin.Dict.selfAndRest
  refine wpAny_bind (wpAny_notOrdered_dict hnew.typeIs ?_)
  show wpAny _ _ (pure (s.heap.objs.size, [Value.ref l])) _ _ _
  refine wpAny_pure ?_
  show wpAny _ _ (Builtin.Dict.updateFrom "dict.__init__" s.heap.objs.size (.ref l) [] .none) _ _ _
  unfold Builtin.Dict.updateFrom
  have ho' := Heap.get?_push_of_some { cls := .type "dict", data := .dict #[] } ho
  refine wpAny_bind (wpAny_typeOf ⟨o, ho', hc⟩ ?_)
  rw [if_pos (by decide)]
  refine wpAny_bind (keys_list (s := { s with heap := _ }) ho' hc hd hdn (by simp [hh]) fun h₁ tk hk => ?_)
  rw [if_pos (show (none : Option Value).isNone = true from rfl)]
  have st : s.heap.StaysIn h₁ := fun b o e => hk b o (Heap.get?_push_of_some _ e)
  have hd1 : h₁.DictOf (intKind prog w) s.heap.objs.size [] := let ⟨oD, es, ep, e, r⟩ := hnew; ⟨oD, es, ep, hk _ _ e, r⟩
  have ltD : s.heap.objs.size < h₁.objs.size := let ⟨_, _, _, e, _⟩ := hd1; Heap.lt_size e
  refine wpAny_bind (wpAny_rule (wpAny_bind (wpAny_pyIter_list ⟨o, hk _ _ ho', hc, n, hd⟩ (wpAny_pure ⟨plainId_quiet plain_upd _, ?_⟩))))
  have below : ∀ {t : Addr} {o : Obj}, s.heap.get? t = some o → t ≠ h₁.objs.size ∧ t ≠ s.heap.objs.size := fun e => ⟨Nat.ne_of_lt (Nat.lt_trans (Heap.lt_size e) ltD), Nat.ne_of_lt (Heap.lt_size e)⟩
  refine upd_loop (ps := ps) (by simp [hh]) (Ne.symm (below ho).1) (Ne.symm (below ho).2) (Nat.ne_of_lt ltD) hz _ 0 _ [] rfl (Nat.zero_le _) (Nat.zero_le _) ⟨_, Heap.get?_push_size _ rfl, rfl, rfl⟩ ⟨o, Heap.get?_push_of_some _ (hk _ _ ho'), hc, n, hd⟩
    (let ⟨oD, es, ep, e, r⟩ := hd1; ⟨oD, es, ep, Heap.get?_push_of_some _ e, r⟩) ⟨hp.1, fun j v hj => ?_⟩ (fun j t hj => ?_) fun h' tk' hst hd' => ⟨rfl, hQ h' tk' (fun b o e => hst b o (below e).1 (below e).2 (Heap.get?_push_of_some _ (st b o e))) hd'⟩
  · obtain ⟨t', k', tk', x', rfl, ⟨o', ho', r'⟩, hj'⟩ := hp.2 j v hj
    exact ⟨t', k', tk', x', rfl, ⟨o', Heap.get?_push_of_some _ (st _ _ ho'), r'⟩, hj'⟩
  · obtain ⟨t', k', tk', x', e, ⟨o', ho', r'⟩, hj'⟩ := hp.2 j _ hj
    cases e
    exact below ho'
end
end Mine

/- N7 -/
set_option tactic.hygienic false
/-! Mine: the program's ground, and built-in functions. -/
namespace Mine
open PySem PySem.Spec PySem.Calls PyProof.Rows

structure Gd (X : Cx) (P : Prog) (mg mb : Str → Option Value) : Prop where
  g : X.base.Ns mainGlobals mg
  b : X.base.Ns builtinsNs mb
  nolimit : X.base.NoLimit
  sysm : X.base.get? sysModules ≠ none
  isi : ∀ (A : Around) (E : Value → Shared → Prop) (s : Shared) (ρ : List Addr) (v : Value) (a : AV) (t : String) (k : Nat) (b : Bool) (Q : Value → Shared → Prop), X.base.StaysIn s.heap → Rep X ρ s.heap v a → typeNo a = some k → isInst t k = some b →
    (∀ tk, Q (.bool b) { s with toks := tk }) → wpAny X.M A (call (.builtin "isinstance") [v, .type t]) Q E s
  blt : ∀ b ∈ blts, mg b.name = none ∧ mb b.name = some b.val
  typ : ∀ t ∈ types, ∃ n : String, t = n ∧ mg t = none ∧ mb t = some (.type n)
  known : ∀ g, P.known g = true → findB g blts = none → ∃ a o fd, mg g = some (.ref a) ∧ X.base.get? a = some o ∧ o.data = .func fd
  range : mg "range" = none ∧ mb "range" = some (.type "range")
  fn : ∀ f ps body sc a o fd, P.fn f = some (ps, body, sc) → mg f = some (.ref a) → X.base.get? a = some o → o.data = .func fd → fd.body = .stmts body ∧ fd.scope = sc ∧ fd.closure = [] ∧ fd.globals = mainGlobals ∧ fd.builtins = builtinsNs ∧
    (∀ vals : List Value, vals.length = ps.length → bindArgs fd ⟨vals, []⟩ = pure (ps.zip vals)) ∧ X.base.CodeRec fd.code fd.qualname
  cls : ∀ c, P.cls c = true → ∃ C newId bmB Bn inN bmN B nid initId, X.own C ∧ OwnCls c C bmB newId mg X.base ∧ ExcBaseFacts Bn newId inN bmN ∧ bmB.contains (.type Bn) = true ∧ ExcBaseFacts B nid initId bmB
  top : ∃ vt, mg P.top = some vt ∧ ∀ (A : Around) (E : Value → Shared → Prop) (s : Shared) (a : Addr) (oe : Obj) (C : Addr) (Q : Bool → Shared → Prop), X.base.StaysIn s.heap → s.heap.get? a = some oe → oe.cls = .ref C → X.own C → Q true s → wpAny X.M A (excMatches (.ref a) vt) Q E s

section
variable {A : Around} {E : Value → Shared → Prop} {s : Shared} {X : Cx} {P : Prog} {ρ : List Addr} {σ σ' : Sto} {mg mb : Str → Option Value}
theorem arg1_inv {vs : List AV} {f : AV → Out AV} {r : AV} (e : arg1 vs f = .ok r σ') : ∃ v, vs = [v] ∧ f v = .ok r σ' := by
  cases vs with
  | nil => exact nomatch (show Out.bad = .ok r σ' from e)
  | cons v q => cases q with
    | nil => exact ⟨v, rfl, e⟩
    | cons _ _ => exact nomatch (show Out.bad = .ok r σ' from e)
theorem RepAll.one_inv {h : Heap} {vs : List Value} {x : AV} (r : RepAll X ρ h vs [x]) : ∃ v, vs = [v] ∧ Rep X ρ h v x := by
  obtain ⟨v, vs', rfl, a, b⟩ := r
  rw [show vs' = [] from b]; exact ⟨v, rfl, a⟩

theorem len_ok {vs : List Value} {xs : List AV} {a : AV} (W : Wd X ρ σ s.heap) (ra : RepAll X ρ s.heap vs xs) (e : lenA xs σ = .ok a σ') : wpAny X.M A (call (.builtin "len") vs) (Gv X ρ s a σ') E s := by
  obtain ⟨v, rfl, e⟩ := arg1_inv (show arg1 xs _ = _ from e)
  obtain ⟨u, rfl, r⟩ := ra.one_inv
  have go : (lstR σ v fun xs => .ok (.int xs.length) σ) = .ok a σ' → wpAny X.M A (call (.builtin "len") [u]) (Gv X ρ s a σ') E s := fun e => by
    obtain ⟨n, ys, rfl, hy, e⟩ := lstR_inv e
    cases e
    obtain ⟨l, ws, rfl, _, il, z, rr⟩ := W.list r hy
    refine call_len_list il.is (fits_len z) ?_
    rw [List.size_toArray, rr.length]
    exact Gv.int W _ _ _
  cases v with
  | tup ys =>
    cases e
    obtain ⟨l, ws, rfl, z, it, rr⟩ := r
    refine len_tuple (show IsTup s.heap _ _ from it) (fits_len (Nat.le_succ_of_le z)) ?_
    rw [List.size_toArray, rr.length]
    exact Gv.int W _ _ _
  | _ => exact go e
theorem isi_ok {vs : List Value} {xs : List AV} {a : AV} (G : Gd X P mg mb) (W : Wd X ρ σ s.heap) (ra : RepAll X ρ s.heap vs xs) (e : isiA xs σ = .ok a σ') : wpAny X.M A (call (.builtin "isinstance") vs) (Gv X ρ s a σ') E s := by
  cases xs with
  | nil => exact nomatch (show Out.bad = .ok a σ' from e)
  | cons x q =>
    obtain ⟨t, rfl, e⟩ := arg1_inv (show arg1 q _ = _ from e)
    obtain ⟨v, vs', rfl, r1, r2⟩ := ra
    obtain ⟨u, rfl, r3⟩ := r2.one_inv
    cases t with
    | typ t =>
      obtain ⟨k, hk, e⟩ := optR_inv (show optR (typeNo x) _ = _ from e)
      obtain ⟨b, hb, e⟩ := optR_inv e
      cases e
      obtain ⟨n, rfl, rfl⟩ := r3
      exact G.isi A E s ρ v x n k b _ W.stays r1 hk hb fun tk => Gv.bool W _ _
    | _ => exact nomatch (show Out.bad = .ok a σ' from e)
theorem int_ok {vs : List Value} {xs : List AV} {a : AV} (W : Wd X ρ σ s.heap) (ra : RepAll X ρ s.heap vs xs) (e : intA xs σ = .ok a σ') : wpAny X.M A (call (.type "int") vs) (Gv X ρ s a σ') E s := by
  obtain ⟨v, rfl, e⟩ := arg1_inv (show arg1 xs _ = _ from e)
  obtain ⟨u, rfl, r⟩ := ra.one_inv
  cases v with
  | bool b =>
    cases e
    rw [show u = .bool b from r]
    refine call_int_bool ?_
    cases b <;> exact Gv.int W _ _ _
  | _ => exact nomatch (show Out.bad = .ok a σ' from e)
theorem tuple_ok {vs : List Value} {xs : List AV} {a : AV} (W : Wd X ρ σ s.heap) (ra : RepAll X ρ s.heap vs xs) (e : tupleA xs σ = .ok a σ') : wpAny X.M A (call (.type "tuple") vs) (Gv X ρ s a σ') E s := by
  obtain ⟨v, rfl, e⟩ := arg1_inv (show arg1 xs _ = _ from e)
  obtain ⟨u, rfl, r⟩ := ra.one_inv
  obtain ⟨n, ys, rfl, hy, e⟩ := lstR_inv e
  obtain ⟨hc, e⟩ := bif_inv e
  cases e
  obtain ⟨l, ws, rfl, _, il, z, rr⟩ := W.list r hy
  refine call_tuple_list il.is (fun h' hk => ?_) (by rw [List.size_toArray]; exact Nat.le_trans z big_line)
  have af := After.grow W (h' := h'.push { cls := .type "tuple", data := .seq ws.toArray }) (fun b o e => Heap.get?_push_of_some _ (hk b o e)) s.toks
  exact ⟨ρ, af, _, ws, rfl, by rw [rr.length]; exact Nat.le_of_ble_eq_true hc, ⟨_, Heap.get?_push_size _ rfl, rfl, 0, rfl⟩, rr.mono af.keep W.sok af.ext⟩
theorem mapO_inv {α : Type} {f : AV → Option α} {x : AV} {xs : List AV} {ps : List α} (e : mapO f (x :: xs) = some ps) : ∃ p qs, ps = p :: qs ∧ f x = some p ∧ mapO f xs = some qs := by
  obtain ⟨p, h1, e⟩ := Option.bind_eq_some_iff.mp e
  obtain ⟨qs, h2, rfl⟩ := Option.map_eq_some_iff.mp e
  exact ⟨p, qs, rfl, h1, h2⟩
theorem ints_are {h : Heap} : ∀ {xs : List AV} {vs : List Value} {is : List Int}, RepAll X ρ h vs xs → mapO intOf? xs = some is → IntsAre vs is
  | [], vs, is, r, e => by cases e; rw [show vs = [] from r]; exact .nil
  | x :: xs, vs, is, r, e => by
    obtain ⟨v, vs', rfl, r1, r2⟩ := r
    obtain ⟨p, qs, rfl, h1, h2⟩ := mapO_inv e
    cases x with
    | int i => cases h1; obtain ⟨t, rfl⟩ := r1; exact .cons _ _ (ints_are r2 h2)
    | _ => cases h1
theorem repInts {h : Heap} : ∀ {vs : List Value} {ns : List Int}, IntsAre vs ns → RepAll X ρ h vs (ns.map .int)
  | _, _, .nil => .nil
  | _, _, .cons _ _ r => .cons ⟨_, rfl⟩ (repInts r)
theorem ints_get : ∀ {vs : List Value} {is : List Int}, IntsAre vs is → ∀ {i : Nat} (hi : i < is.length), ∃ t, vs[i]? = some (.int is[i] t)
  | _, _, .cons n t r, 0, _ => ⟨t, rfl⟩
  | _, _, .cons n t r, i + 1, h => ints_get r (Nat.lt_of_succ_lt_succ h)
theorem key_at {vs : List Value} {is : List Int} (h : IntsAre vs is) {i : Nat} (hi : i < is.length) : K (pairsOf vs) i = is[i] := by
  obtain ⟨t, e⟩ := ints_get h hi
  have hl : i < (pairsOf vs).size := by rw [pairsOf_size]; exact (List.getElem?_eq_some_iff.mp e).1
  rw [K_eq hl]
  have : (pairsOf vs)[i] = (.int is[i] t, .int is[i] t) := by
    have e2 : (pairsOf vs).toList[i]? = some (.int is[i] t, .int is[i] t) := by rw [pairsOf_toList, List.getElem?_zip_eq_some]; exact ⟨e, e⟩
    rw [Array.getElem?_toList, Array.getElem?_eq_getElem hl] at e2
    exact Option.some.inj e2
  rw [this]; rfl
theorem two_of {vs : List Value} {is : List Int} (h : IntsAre vs is) (e : two is = true) : ∃ n, G.Two (pairsOf vs) n := by
  obtain ⟨n, _, e⟩ := List.any_eq_true.mp e
  have e := Bool.and_eq_true_iff.mp e
  have e1 := List.pairwise_iff_getElem.mp (of_decide_eq_true e.1)
  have e2 := List.pairwise_iff_getElem.mp (of_decide_eq_true e.2)
  have hl : vs.length = is.length := h.length
  have hg : ∀ i, 0 < i → ∀ (hi : i < is.length), is[i - 1] < is[i] → K (pairsOf vs) (i - 1) < K (pairsOf vs) i := fun i h0 hi q => by
    rw [key_at h hi, key_at h (i := i - 1) (by omega)]; exact q
  by_cases hn : n ≤ is.length
  · refine ⟨n, fun i h0 h1 => hg i h0 (by omega) ?_, fun i h0 h1 => ?_⟩
    · have := e1 (i - 1) i (by rw [List.length_take]; omega) (by rw [List.length_take]; omega) (by omega)
      rw [List.getElem_take, List.getElem_take] at this; exact this
    · rw [pairsOf_size, hl] at h1
      refine hg i (by omega) h1 ?_
      have := e2 (i - 1 - n) (i - n) (by rw [List.length_drop]; omega) (by rw [List.length_drop]; omega) (by omega)
      rw [List.getElem_drop, List.getElem_drop] at this
      simpa [show n + (i - 1 - n) = i - 1 by omega, show n + (i - n) = i by omega] using this
  · refine ⟨is.length, fun i h0 h1 => hg i h0 h1 ?_, fun i h0 h1 => by rw [pairsOf_size, hl] at h1; omega⟩
    have := e1 (i - 1) i (by rw [List.length_take]; omega) (by rw [List.length_take]; omega) (by omega)
    rw [List.getElem_take, List.getElem_take] at this; exact this
theorem sort_ok {vs : List Value} {xs : List AV} {a : AV} (W : Wd X ρ σ s.heap) (ra : RepAll X ρ s.heap vs xs) (e : sortA xs σ = .ok a σ') : wpAny X.M A (call (.builtin "sorted") vs) (Gv X ρ s a σ') E s := by
  obtain ⟨v, rfl, e⟩ := arg1_inv (show arg1 xs _ = _ from e)
  obtain ⟨u, rfl, r⟩ := ra.one_inv
  obtain ⟨n, ys, rfl, hy, e⟩ := lstR_inv e
  obtain ⟨is, hi, e⟩ := optR_inv e
  obtain ⟨hc, e⟩ := bif_inv e
  obtain ⟨l, ws, rfl, _, il, z, rr⟩ := W.list r hy
  have hI := ints_are rr hi
  have hle := (newL_inv e).1
  have go : ∀ (out : Array Value) (ns' : List Int), IntsAre out.toList ns' → ns'.Perm is → ns'.Pairwise (· ≤ ·) → Gv X ρ s a σ' (.ref (s.heap.objs.size + 1)) { s with heap := sortedAll s.heap ws out } := fun out ns' h1 h2 h3 => by
    have hp := List.mergeSort_perm is fun a b => decide (a ≤ b)
    have hs : (is.mergeSort fun a b => decide (a ≤ b)).Pairwise (· ≤ ·) := by
      have := List.pairwise_mergeSort (le := fun a b : Int => decide (a ≤ b)) (fun a b c h1 h2 => decide_eq_true (Int.le_trans (of_decide_eq_true h1) (of_decide_eq_true h2))) (fun a b => by
        rcases Int.le_total a b with q | q
        · rw [decide_eq_true q]; rfl
        · rw [decide_eq_true q, Bool.or_true]) is
      exact this.imp fun h => of_decide_eq_true h
    have e1 : ns' = is.mergeSort fun a b => decide (a ≤ b) := List.Perm.eq_of_pairwise (fun a b _ _ h1 h2 => Int.le_antisymm h1 h2) h3 hs (h2.trans hp.symm)
    subst e1
    obtain ⟨ep, he⟩ := sortedAll_at s.heap ws out
    exact made_list (t := s.toks) W (repInts h1) e (fun b o e => sortedAll_old e) (Heap.get?_none_of_le (Nat.le_succ _)) ⟨_, ep, he, rfl, rfl, rfl⟩
  have hl2 : ws.length = is.length := hI.length
  by_cases h64 : ws.length < 64
  · exact sorted_ints il.is hI h64 go
  · obtain ⟨m, hT⟩ := two_of hI hc
    obtain ⟨v₁, v₂, rest, e2⟩ : ∃ v₁ v₂ rest, ws = v₁ :: v₂ :: rest := by
      cases ws with
      | nil => exact absurd (by decide) h64
      | cons v₁ r => cases r with
        | nil => exact absurd (show 1 < 64 by decide) h64
        | cons v₂ rest => exact ⟨v₁, v₂, rest, rfl⟩
    rw [List.length_map, List.length_mergeSort, ← hl2] at hle
    subst e2
    exact G.sorted_two il.is hI hle hT go
theorem pairs_are {h : Heap} : ∀ {xs : List AV} {vs : List Value} {ps : List (Int × AV)}, RepAll X ρ h vs xs → mapO pairOf? xs = some ps → ∃ qs : List (Int × Value), PairsAre h vs qs ∧ RepD X ρ h qs ps
  | [], vs, ps, r, e => by cases e; rw [show vs = [] from r]; exact ⟨[], ⟨rfl, fun j v hj => by cases hj⟩, rfl, rfl⟩
  | x :: xs, vs, ps, r, e => by
    obtain ⟨v, vs', rfl, r1, r2⟩ := r
    obtain ⟨p, qs, rfl, h1, h2⟩ := mapO_inv e
    obtain ⟨ws, ⟨hl, hw⟩, rd1, rd2⟩ := pairs_are r2 h2
    obtain ⟨ys, h3, h5⟩ := Option.bind_eq_some_iff.mp h1
    clear h1
    cases x with
    | tup zs =>
      cases h3
      cases ys with
      | nil => cases h5
      | cons k q =>
        obtain ⟨i, h4, h6⟩ := Option.bind_eq_some_iff.mp h5
        clear h5
        cases q with
        | nil => cases h6
        | cons y q =>
          cases q with
          | cons _ _ => cases h6
          | nil =>
            cases h6
            cases k with
            | int j =>
              cases h4
              obtain ⟨t, us, rfl, _, it, u1, us', rfl, ⟨tk, rfl⟩, u2, us2, rfl, ru, e3⟩ := r1
              rw [show us2 = [] from e3] at it
              refine ⟨(i, u2) :: ws, ⟨congrArg (· + 1) hl, fun j v hj => ?_⟩, congrArg (i :: ·) rd1, .cons ru rd2⟩
              cases j with
              | zero => cases hj; exact ⟨t, i, tk, u2, rfl, it, rfl⟩
              | succ j => exact hw j v hj
            | _ => cases h4
    | _ => cases h3
theorem RepD.nil {h : Heap} : RepD X ρ h [] [] := ⟨rfl, rfl⟩
theorem stored_nodup {kvs : List (Int × Value)} {k : Int} {v : Value} (h : (kvs.map (·.1)).Nodup) : ((stored kvs k v).map (·.1)).Nodup := by
  unfold stored
  split
  · rw [List.map_map, show ((fun x : Int × Value => x.1) ∘ fun kv => if kv.1 = k then (kv.1, v) else kv) = (·.1) from funext fun kv => by dsimp only [Function.comp]; split <;> rfl]; exact h
  · rename_i hn
    rw [List.map_append]
    refine List.nodup_append.mpr ⟨h, List.nodup_cons.mpr ⟨List.not_mem_nil, .nil⟩, fun a ha b hb e => hn ?_⟩
    obtain ⟨p, hp, rfl⟩ := List.mem_map.mp ha
    rw [List.mem_singleton.mp hb] at e
    exact List.any_eq_true.mpr ⟨p, hp, decide_eq_true e⟩
theorem merged_rep {h : Heap} : ∀ {qs : List (Int × Value)} {ps : List (Int × AV)} {kvs : List (Int × Value)} {es : List (Int × AV)}, RepD X ρ h qs ps → (kvs.map (·.1)).Nodup → RepD X ρ h kvs es → RepD X ρ h (merged kvs qs) (ps.foldl (fun d p => dictPutL p.1 p.2 d) es) ∧ (merged kvs qs).length ≤ kvs.length + qs.length
  | [], [], kvs, es, _, _, r => ⟨r, Nat.le_refl _⟩
  | [], _ :: _, _, _, ⟨r, _⟩, _, _ => by cases r
  | _ :: _, [], _, _, ⟨r, _⟩, _, _ => by cases r
  | (i, u) :: qs, (j, y) :: ps, kvs, es, ⟨r1, r2⟩, hn, r => by
    obtain ⟨v', vs', e1, ra, rb⟩ := r2
    cases e1
    have r1' := List.cons.inj r1
    have hij : i = j := r1'.1
    subst hij
    have hp := RepD.put (k := i) (show Rep X ρ h u y from ra) hn r
    have ih := merged_rep (qs := qs) (ps := ps) ⟨r1'.2, rb⟩ (stored_nodup (k := i) (v := u) hn) hp.1
    exact ⟨ih.1, Nat.le_trans ih.2 (by have := hp.2; rw [List.length_cons]; omega)⟩
theorem dict_ok {vs : List Value} {xs : List AV} {a : AV} (W : Wd X ρ σ s.heap) (hh : A.handled = none) (ra : RepAll X ρ s.heap vs xs) (e : dictA xs σ = .ok a σ') : wpAny X.M A (call (.type "dict") vs) (Gv X ρ s a σ') E s := by
  obtain ⟨v, rfl, e⟩ := arg1_inv (show arg1 xs _ = _ from e)
  obtain ⟨u, rfl, r⟩ := ra.one_inv
  obtain ⟨n, ys, rfl, hy, e⟩ := lstR_inv e
  obtain ⟨ps, hi, e⟩ := optR_inv e
  obtain ⟨hc, e⟩ := bif_inv e
  cases e
  obtain ⟨l, ws, rfl, _, il, z, rr⟩ := W.list r hy
  obtain ⟨qs, hp, rd⟩ := pairs_are rr hi
  refine call_dict_list hh il hp (Nat.le_trans z big_line) fun h' tk st hd => ?_
  have hm := merged_rep (kvs := []) (es := []) rd .nil .nil
  have hq : qs.length ≤ bigN := by rw [← List.length_map (f := (·.1)), rd.1, List.length_map]; exact Nat.le_of_ble_eq_true hc
  exact ⟨_, After.fresh (o := .dict (dictFrom ps)) W st (size_none _) ⟨_, hd, Nat.le_trans hm.2 (by rw [List.length_nil, Nat.zero_add]; exact Nat.le_succ_of_le hq), hm.1.1, hm.1.2.mono (Keep.of_stays (S := []) st) .nil (.refl _)⟩ tk, ref_new W⟩

theorem blt_ok {b : Bl} {vs : List Value} {xs : List AV} {a : AV} (G : Gd X P mg mb) (hb : b ∈ blts) (W : Wd X ρ σ s.heap) (hh : A.handled = none) (ra : RepAll X ρ s.heap vs xs) (e : b.act xs σ = .ok a σ') : wpAny X.M A (call b.val vs) (Gv X ρ s a σ') E s := by
  rcases List.mem_cons.mp hb with rfl | hb
  · exact len_ok W ra e
  rcases List.mem_cons.mp hb with rfl | hb
  · exact isi_ok G W ra e
  rcases List.mem_cons.mp hb with rfl | hb
  · exact int_ok W ra e
  rcases List.mem_cons.mp hb with rfl | hb
  · exact tuple_ok W ra e
  rcases List.mem_cons.mp hb with rfl | hb
  · exact sort_ok W ra e
  rcases List.mem_cons.mp hb with rfl | hb
  · exact dict_ok W hh ra e
  · cases hb
end
end Mine

/- N8 -/
set_option tactic.hygienic false
/-! Mine: outcomes, exceptions on their way, what a statement leaves. -/
namespace Mine
open PySem PySem.Spec PySem.Calls PyProof.Rows

/-- an exception on its way: it and its traceback (if it has one yet; it has, where q is False) are new -/
noncomputable def FlyG (X : Cx) (q : Prop) (s : Shared) (e : Value) (s' : Shared) : Prop :=
  ∃ (a : Addr) (oe : Obj) (C : Addr) (vs : Array Value), e = .ref a ∧ s.heap.get? a = none ∧ s'.heap.get? a = some oe ∧ oe.cls = .ref C ∧ X.own C ∧ oe.data = .fields vs ∧ 1 < vs.size ∧
    ((q ∧ vs[1]? = some .none) ∨ ∃ (T : Addr) (oT : Obj) (ts : Array Value), vs[1]? = some (.ref T) ∧ s.heap.get? T = none ∧ T ≠ a ∧ s'.heap.get? T = some oT ∧ oT.cls = .type "traceback" ∧ oT.data = .fields ts ∧ 3 < ts.size)
abbrev Fly (X : Cx) := FlyG X True
theorem FlyG.weak {X : Cx} {q : Prop} {s s' : Shared} {e : Value} (x : FlyG X q s e s') : Fly X s e s' := by
  obtain ⟨a, oe, C, vs, h1, h2, h3, h4, h5, h6, h7, h9⟩ := x
  exact ⟨a, oe, C, vs, h1, h2, h3, h4, h5, h6, h7, h9.imp (fun z => ⟨trivial, z.2⟩) id⟩
theorem FlyG.lift {X : Cx} {q : Prop} {s₀ s s' : Shared} {e : Value} (hn : ∀ a, s.heap.get? a = none → s₀.heap.get? a = none) (f : FlyG X q s e s') : FlyG X q s₀ e s' := by
  obtain ⟨a, oe, C, vs, h1, h2, h3, h4, h5, h6, h7, h9⟩ := f
  exact ⟨a, oe, C, vs, h1, hn a h2, h3, h4, h5, h6, h7, h9.imp id fun ⟨T, oT, ts, z1, z2, z3⟩ => ⟨T, oT, ts, z1, hn T z2, z3⟩⟩

noncomputable def OkG {α γ : Type} (Rl : List Addr → Heap → α → γ → Prop) (X : Cx) (ρ : List Addr) (s : Shared) (r : Out γ) (v : α) (s' : Shared) : Prop := ∃ a σ' ρ', r = .ok a σ' ∧ After X ρ s ρ' σ' s' ∧ Rl ρ' s'.heap v a
noncomputable def ExV {γ : Type} (X : Cx) (ρ : List Addr) (s : Shared) (r : Out γ) (e : Value) (s' : Shared) : Prop := ∃ c σ' ρ', r = .exc c σ' ∧ After X ρ s ρ' σ' s' ∧ Fly X s e s'
abbrev OkV (X : Cx) := OkG (fun ρ h v a => Rep X ρ h v a) X
abbrev OkL (X : Cx) := OkG (fun ρ h v a => RepAll X ρ h v a) X
abbrev OkB (X : Cx) := OkG (fun _ _ (v b : Bool) => v = b) X

/-! runs of pieces -/
theorem W.run_bind {α β : Type} (x : W α) (g : α → Sto → W β) : (x.bind g).run = pk (eE β) x.run fun a σ => (g a σ).run := x.nat _ _ _
theorem W.run_op {α : Type} {o : Out α} {R : Out α} (h : (W.op o).run = R) (hb : R ≠ .bad) : ∃ a σ', o = .ok a σ' ∧ R = .ok a σ' := by
  cases o with
  | ok a σ' => exact ⟨a, σ', rfl, h.symm⟩
  | exc c σ' => exact absurd h.symm hb
  | bad => exact absurd h.symm hb
theorem W.run_call {α : Type} (o : Out α) : (W.call o).run = o := by cases o <;> rfl
theorem W.run_cond {α : Type} {b : Bool} {x : W α} {R : Out α} (h : (W.cond b x .bad).run = R) (hb : R ≠ .bad) : b = true ∧ x.run = R := by
  cases b with
  | true => exact ⟨rfl, h⟩
  | false => exact absurd h.symm hb
theorem W.run_opt {α β : Type} {r : Option β} {f : β → W α} {R : Out α} (h : (optW r f).run = R) (hb : R ≠ .bad) : ∃ y, r = some y ∧ (f y).run = R := by
  cases r with
  | some y => exact ⟨y, rfl, h⟩
  | none => exact absurd h.symm hb

section
variable {α γ δ : Type} {A : Around} {Rl : List Addr → Heap → α → γ → Prop} {X : Cx} {ρ₀ ρ : List Addr} {σ₀ σ : Sto} {s₀ s : Shared} {t : Sem α} {K : α → Shared → Prop}
/-- one step's end, seen from the start -/
theorem lift {x : W γ} {g : γ → Sto → W δ} {R : Out δ} (a₀ : After X ρ₀ s₀ ρ σ s) (hR : (x.bind g).run = R) (hb : R ≠ .bad) (h : ∀ r, x.run = r → r ≠ .bad → wpAny X.M A t (OkG Rl X ρ s r) (ExV X ρ s r) s)
    (hK : ∀ a σ' ρ' v s', (g a σ').run = R → After X ρ₀ s₀ ρ' σ' s' → After X ρ s ρ' σ' s' → Rl ρ' s'.heap v a → K v s') : wpAny X.M A t K (ExV X ρ₀ s₀ R) s := by
  rw [W.run_bind] at hR
  have hne : x.run ≠ .bad := fun q => hb (by rw [← hR, q]; rfl)
  refine wpAny_mono (h _ rfl hne) (fun v s' q => ?_) fun e s' q => ?_
  · obtain ⟨a, σ', ρ', e1, e2, e3⟩ := q
    exact hK a σ' ρ' v s' (by rw [e1] at hR; exact hR) (a₀.trans e2) e2 e3
  · obtain ⟨c, σ', ρ', e1, e2, e3⟩ := q
    exact ⟨c, σ', ρ', by rw [e1] at hR; exact hR.symm, a₀.trans e2, e3.lift fun _ h => a₀.gone h⟩
/-- an operator at the end -/
theorem fin {o R : Out AV} {E : Value → Shared → Prop} {t : Sem Value} (a₀ : After X ρ₀ s₀ ρ σ s) (hR : (W.op o).run = R) (hb : R ≠ .bad) (h : ∀ a σ', o = .ok a σ' → wpAny X.M A t (Gv X ρ s a σ') E s) : wpAny X.M A t (OkV X ρ₀ s₀ R) E s := by
  obtain ⟨a, σ', e, rfl⟩ := W.run_op hR hb
  refine wpAny_mono (h a σ' e) (fun v s' g => ?_) fun _ _ z => z
  obtain ⟨ρ', x', r'⟩ := g
  exact ⟨a, σ', ρ', rfl, a₀.trans x', r'⟩
end

/-! statements -/
structure Step (X : Cx) (env : Env) (ρ : List Addr) (s : Shared) (ρ' : List Addr) (σ' : Sto) (s' : Shared) : Prop where
  ext : Ext ρ ρ'
  new : ∀ b ∈ ρ', b ∈ ρ ∨ s.heap.get? b = none
  wd : Wd X ρ' σ' s'.heap
  keep : Keep (own env ++ ρ) s.heap s'.heap
  gone : ∀ b, s'.heap.get? b = none → s.heap.get? b = none
  same : ∃ h tk, s' = { s with heap := h, toks := tk }

/-- what a note on an exception turns: new records, and the slots of frames -/
noncomputable def Turn (X : Cx) (F : List Addr) (s₀ : Shared) (h h' : Heap) : Prop := ∃ N : List Addr, Keep N h h' ∧ SOk h N ∧ (∀ b ∈ N, s₀.heap.get? b = none) ∧ (∀ b ∈ N, ∀ o, h.get? b = some o → ∃ fs, o.data = .fields fs) ∧ (∀ b o, h.get? b = some o → b ∉ N → b ∉ F → h'.get? b = some o) ∧ ∀ b, h'.get? b = none → h.get? b = none

section
variable {X : Cx} {env : Env} {ρ ρ₁ ρ' : List Addr} {σ σ₁ σ' : Sto} {s s₁ s' : Shared} {h h' h₁ : Heap} {a : Addr} {F : List Addr} {s₀ : Shared} {l : Loc}
theorem After.step (x : After X ρ s ρ' σ' s') : Step X env ρ s ρ' σ' s' := ⟨x.ext, x.new, x.wd, x.keep.mono fun _ h => List.mem_append_right _ h, fun _ e => x.gone e, x.same⟩
theorem Step.refl (w : Wd X ρ σ s.heap) : Step X env ρ s ρ σ s := (After.refl w).step
theorem Step.trans (x : Step X env ρ s ρ₁ σ₁ s₁) (y : Step X env ρ₁ s₁ ρ' σ' s') : Step X env ρ s ρ' σ' s' := by
  refine ⟨x.ext.trans y.ext, fun b hb => (y.new b hb).elim (x.new b) fun q => .inr (x.gone b q), y.wd, fun b o e n => ?_, fun b e => x.gone b (y.gone b e), ?_⟩
  · obtain ⟨sl, e₁, q₁⟩ := x.keep b o e n
    obtain ⟨sl', e₂, q₂⟩ := y.keep b _ e₁ fun q => (List.mem_append.mp q).elim (fun z => n (List.mem_append_left _ z)) fun z => (x.new b z).elim (fun z => n (List.mem_append_right _ z)) fun z => by rw [z] at e; cases e
    exact ⟨sl', e₂, fun z => (q₂ z).trans (q₁ z)⟩
  · obtain ⟨h, tk, rfl⟩ := x.same
    obtain ⟨h', tk', rfl⟩ := y.same
    exact ⟨h', tk', rfl⟩
theorem Step.notin (x : Step X env ρ s ρ' σ' s') {o : Obj} (h : a ∉ ρ) (e : s.heap.get? a = some o) : a ∉ ρ' := fun q =>
  (x.new a q).elim h fun z => by rw [z] at e; cases e
theorem Turn.refl (X : Cx) (F : List Addr) (s₀ : Shared) (h : Heap) : Turn X F s₀ h h := ⟨[], .refl _ _, .nil, fun _ q => (nomatch q), fun _ q => (nomatch q), fun _ _ e _ _ => e, fun _ e => e⟩
theorem Turn.trans (x : Turn X F s₀ h h₁) (y : Turn X F s₀ h₁ h') : Turn X F s₀ h h' := by
  obtain ⟨N, k, so, nw, fl, ex, gn⟩ := x
  obtain ⟨N', k', so', nw', fl', ex', gn'⟩ := y
  have up : ∀ b ∈ N', b ∉ N → ∀ o, h.get? b = some o → ∃ sl, h₁.get? b = some { o with slots := sl } := fun b _ hn o ho => let ⟨sl, e, _⟩ := k b o ho hn; ⟨sl, e⟩
  refine ⟨N ++ N', (k.mono fun _ h => List.mem_append_left _ h).trans (k'.mono fun _ h => List.mem_append_right _ h), fun b hb o ho => ?_, fun b hb => (List.mem_append.mp hb).elim (nw b) (nw' b), fun b hb o ho => ?_, fun b o e hn hF => ?_, fun b e => gn b (gn' b e)⟩
  · by_cases h1 : b ∈ N
    · exact so b h1 o ho
    · have h2 : b ∈ N' := (List.mem_append.mp hb).resolve_left h1
      obtain ⟨sl, e⟩ := up b h2 h1 o ho
      exact so' b h2 { o with slots := sl } e
  · by_cases h1 : b ∈ N
    · exact fl b h1 o ho
    · have h2 : b ∈ N' := (List.mem_append.mp hb).resolve_left h1
      obtain ⟨sl, e⟩ := up b h2 h1 o ho
      exact fl' b h2 { o with slots := sl } e
  · exact ex' b o (ex b o e (fun q => hn (List.mem_append_left _ q)) hF) (fun q => hn (List.mem_append_right _ q)) hF
theorem Turn.grow (k : h.StaysIn h') : Turn X F s₀ h h' := ⟨[], Keep.of_stays k, .nil, fun _ q => (nomatch q), fun _ q => (nomatch q), fun b o e _ _ => k b o e, fun b e => by
  cases q : h.get? b with
  | none => rfl
  | some o => rw [k b o q] at e; cases e⟩
theorem Turn.upd {o : Obj} {vs : Array Value} (ho : h.get? a = some o) (hd : o.data = .fields vs) (hc : Loose o) (hn : s₀.heap.get? a = none) (f : Array Value → Array Value) : Turn X F s₀ h (h.update a (Obj.mapFields f)) := by
  have hs : Heap.SameBut a h (h.update a (Obj.mapFields f)) := Heap.SameBut.update ..
  refine ⟨[a], Keep.ext hs.extBut, .one fun o' e => ?_, fun b hb => by rw [List.mem_singleton.mp hb]; exact hn, fun b hb o' e => ?_, fun b o' e n _ => (hs.2 b fun q => n (by rw [q]; exact .head _)).trans e, fun b e => ?_⟩
  · rw [ho] at e; cases e; exact hc
  · rw [List.mem_singleton.mp hb, ho] at e; cases e; exact ⟨vs, hd⟩
  · by_cases q : b = a
    · rw [q, Heap.get?_update_self _ ho (Obj.isFreed_of_fields (Obj.data_mapFields hd f))] at e; cases e
    · exact (hs.2 b q).symm.trans e
theorem Turn.slots {es : List Env} (fr : Frs h X.base es) (x : Heap.SlotsOnly (fra es) h h') : Turn X (fra es) s₀ h h' := by
  refine ⟨[], fun b o e _ => ?_, .nil, fun _ q => (nomatch q), fun _ q => (nomatch q), fun b o e _ hF => (x.2.1 b hF).trans e, fun b e => ?_⟩
  · obtain ⟨sl, e'⟩ := x.2.2 b o e
    refine ⟨sl, e', fun hd => ?_⟩
    by_cases q : b ∈ fra es
    · obtain ⟨o', ds, n, e3, e4, _⟩ := fr.there q
      rw [e] at e3; cases e3
      exact absurd e4 (hd _ _)
    · rw [x.2.1 b q, e] at e'
      injection e' with e'
      rw [show o.slots = _ from congrArg Obj.slots e']
  · cases q : h.get? b with
    | none => rfl
    | some o => obtain ⟨sl, e'⟩ := x.2.2 b o q; rw [e] at e'; cases e'
/-- the store and the base, under a turn -/
theorem Turn.wd (y : Turn X F s₀ h h') (w : Wd X ρ σ h) (w₀ : X.base.StaysIn s₀.heap) (hF : ∀ L ∈ F, L ∉ ρ ∧ X.base.get? L = none) : Wd X ρ σ h' := by
  obtain ⟨N, k, so, nw, fl, ex, gn⟩ := y
  refine w.step k so (fun b o e => ex b o (w.stays b o e) (fun q => ?_) fun q => ?_) fun b hb o e => ex b o e (fun q => ?_) fun q => (hF b q).1 hb
  · have := w₀ b o e; rw [nw b q] at this; cases this
  · rw [(hF b q).2] at e; cases e
  · obtain ⟨fs, d⟩ := fl b q o e; exact w.record e d hb
theorem Step.turn (x : Step X env ρ s ρ' σ' s') (w₀ : X.base.StaysIn s.heap) (y : Turn X F s s'.heap h) (hF : ∀ L ∈ F, L ∉ ρ' ∧ X.base.get? L = none) (t : Nat) : Step X env ρ s ρ' σ' { s' with heap := h, toks := t } := by
  have w := y.wd x.wd w₀ hF
  obtain ⟨N, k, so, nw, fl, ex, gn⟩ := y
  refine ⟨x.ext, x.new, w, fun b o e n => ?_, fun b e => x.gone b (gn b e), ?_⟩
  · obtain ⟨sl, e₁, q₁⟩ := x.keep b o e n
    obtain ⟨sl', e₂, q₂⟩ := k b _ e₁ fun q => by rw [nw b q] at e; cases e
    exact ⟨sl', e₂, fun z => (q₂ z).trans (q₁ z)⟩
  · obtain ⟨h, tk, rfl⟩ := x.same
    exact ⟨_, _, rfl⟩
theorem LocR.turn (r : LocR X ρ env h l) (t : Turn X F s₀ h h') : LocR X ρ env h' l := by
  obtain ⟨N, k, so, nw, fl, _⟩ := t
  refine r.keep k so (.refl _) fun b hb q => ?_
  obtain ⟨o, e, z⟩ := r.there b hb
  obtain ⟨fs, d⟩ := fl b q o e
  exact z fs d
theorem Step.off1 (x : Step X env ρ s ρ' σ' s') (hb : X.base.StaysIn s.heap) (hk : Heap.ExtBut a s'.heap h) (hm : ∀ o, s'.heap.get? a = some o → Loose o) (hn : s.heap.get? a = none) (hd : a ∉ ρ') (t : Nat) : Step X env ρ s ρ' σ' { s' with heap := h, toks := t } := by
  refine ⟨x.ext, x.new, x.wd.step (Keep.ext hk) (.one hm) (fun b o e => hk b o (fun q => ?_) (x.wd.stays b o e)) fun b hb' o e => hk b o (fun q => hd (q ▸ hb')) e, fun b o e n => ?_, fun b e => ?_, ?_⟩
  · have := hb b o e
    rw [q, hn] at this; cases this
  · obtain ⟨sl, e₁, q₁⟩ := x.keep b o e n
    exact ⟨sl, hk b _ (fun q => by rw [q, hn] at e; cases e) e₁, q₁⟩
  · by_cases q : b = a
    · rw [q]; exact hn
    · refine x.gone b ?_
      cases z : s'.heap.get? b with
      | none => rfl
      | some o => rw [hk b o q z] at e; cases e
  · obtain ⟨h, tk, rfl⟩ := x.same
    exact ⟨_, _, rfl⟩
end
end Mine

/- N9 -/
set_option tactic.hygienic false
/-! Mine: notes on an exception. -/
namespace Mine
open PySem PySem.Spec PySem.Calls PyProof.Rows

section
variable {M : Model} {A : Around} {E : Value → Shared → Prop} {s : Shared} {X : Cx} {s₀ : Shared} {env hv : Env} {r : List Env} {L : Addr} {e : Value}

theorem frameOf_ok {base : Heap} {Q : Value → Shared → Prop} (hfr : A.frames = some (hv :: r)) (he : hv.frame = env.frame) (hl : s.heap.FunFrames base (hv :: r)) (hf : env.frame = some L)
    (h : ∀ h', Heap.SlotsOnly (fra (hv :: r)) s.heap h' → Q (.ref L) { s with heap := h' }) : wpAny M A (PySem.frameOf env) Q E s := by
  unfold PySem.frameOf
  refine wpAny_bind (wpAny_frameEnvs hfr ?_)
  have hdw : ((hv :: r).dropWhile fun x => x.frame != env.frame) = hv :: r := by simp [List.dropWhile, he]
  rw [hdw]
  unfold frameObject
  refine wpAny_bind (wpAny_bind (wpAny_readyFrames_fun hl fun h₁ hs₁ => wpAny_pure ?_))
  rw [he, hf]
  exact wpAny_pure (h h₁ hs₁)
theorem upd_other {h : Heap} {a b : Addr} {f : Obj → Obj} (hb : b ≠ a) : (h.update a f).get? b = h.get? b := Heap.get?_update_other _ _ (Ne.symm hb)

theorem Frs.norec {h base : Heap} {es : List Env} (x : Frs h base es) {a : Addr} {o : Obj} {fs : Array Value} (e : h.get? a = some o) (d : o.data = .fields fs) : a ∉ fra es := fun q => by
  obtain ⟨o', ds, n, e3, e4, _⟩ := x.there q
  rw [e] at e3; cases e3; rw [d] at e4; cases e4
/-- what a note leaves -/
noncomputable def Noted (X : Cx) (F : List Addr) (s₀ : Shared) (e : Value) (s s' : Shared) : Prop := FlyG X False s₀ e s' ∧ ∃ h', s' = { s with heap := h' } ∧ Turn X F s₀ s.heap h'

theorem entry_ok {a C : Addr} {oe : Obj} {vs : Array Value} {head : Value} {hn : Bool} (hfr : A.frames = some (hv :: r)) (he : hv.frame = env.frame) (fr : Frs s.heap X.base (hv :: r)) (hf : env.frame = some L)
    (sub : ∀ b, s.heap.get? b = none → s₀.heap.get? b = none) (h2 : s₀.heap.get? a = none) (h3 : s.heap.get? a = some oe) (h4 : oe.cls = .ref C) (h5 : X.own C) (h6 : oe.data = .fields vs) (h7 : 1 < vs.size) :
    wpAny M A (do let x ← PySem.frameOf env; let pl ← entryPlaceOf L hn; let b ← EntryCells.newEntry head x .none (rawInt L) .none pl; setField (.ref a) 1 b) (fun _ s' => Noted X (fra (hv :: r)) s₀ (.ref a) s s') E s := by
  refine wpAny_bind (frameOf_ok hfr he fr.funs hf fun h₁ hs₁ => ?_)
  refine wpAny_bind (wpAny_entryPlaceOf fun pl hpl => ?_)
  unfold EntryCells.newEntry newFields
  refine wpAny_bind (wpAny_newObj_type ?_ (hpl.sizeOk5 _ _ _ _ _))
  have he₁ : h₁.get? a = some oe := (hs₁.2.1 a (fr.norec h3 h6)).trans h3
  have he₂ := Heap.get?_push_of_some (h := h₁) { cls := .type "traceback", dict := none, data := .fields ([head, .ref L, .none, rawInt L, .none] ++ (if pl.isEmpty then List.replicate 6 Value.none else pl)).toArray } he₁
  refine wpAny_setField he₂ h6 h7 ?_
  have hTe : h₁.objs.size ≠ a := Nat.ne_of_gt (Heap.lt_size he₁)
  have hd₃ := Obj.data_mapFields h6 (·.setIfInBounds 1 (Value.ref h₁.objs.size))
  have he₃ := Heap.get?_update_self (Obj.mapFields (·.setIfInBounds 1 (Value.ref h₁.objs.size))) he₂ (Obj.isFreed_of_fields hd₃)
  refine ⟨⟨a, _, C, _, rfl, h2, he₃, (Obj.cls_mapFields ..).trans h4, h5, hd₃, by rw [Array.size_setIfInBounds]; exact h7, .inr ⟨h₁.objs.size, _, _, ?_, sub _ ?_, hTe, (upd_other hTe).trans (Heap.get?_push_size h₁ rfl), rfl, rfl, ?_⟩⟩, _, rfl,
    (Turn.slots fr hs₁).trans ((Turn.grow (push_stays _ _)).trans (Turn.upd he₂ h6 (.obj h4) h2 _))⟩
  · rw [Array.getElem?_setIfInBounds_self_of_lt h7]
  · rw [show h₁.objs.size = s.heap.objs.size from hs₁.1]; exact size_none _
  · simp only [List.size_toArray, List.length_append, List.length_cons, List.length_nil]; omega

theorem noteFrame_ok {q : Prop} (hfr : A.frames = some (hv :: r)) (he : hv.frame = env.frame) (fr : Frs s.heap X.base (hv :: r)) (hf : env.frame = some L)
    (sub : ∀ b, s.heap.get? b = none → s₀.heap.get? b = none) (fl : FlyG X q s₀ e s) : wpAny M A (noteFrame e env) (fun _ s' => Noted X (fra (hv :: r)) s₀ e s s') E s := by
  obtain ⟨a, oe, C, vs, rfl, h2, h3, h4, h5, h6, h7, h9⟩ := fl
  unfold noteFrame
  simp only [hf]
  rcases h9 with ⟨_, h9⟩ | ⟨T, oT, ts, z1, z2, z3, z4, z5, z6, z7⟩
  · refine wpAny_bind (wpAny_field h3 h6 h9 ?_)
    rw [if_neg (by decide)]
    exact entry_ok hfr he fr hf sub h2 h3 h4 h5 h6 h7
  · refine wpAny_bind (wpAny_field h3 h6 z1 ?_)
    rw [if_pos (show (Value.ref T != Value.none) = true from rfl)]
    refine wpAny_bind (wpAny_field z4 z6 (Array.getElem?_eq_getElem z7) ?_)
    cases hb : (ts[3] == rawInt L) with
    | true =>
      rw [if_pos rfl]
      exact wpAny_pure ⟨⟨a, oe, C, vs, rfl, h2, h3, h4, h5, h6, h7, .inr ⟨T, oT, ts, z1, z2, z3, z4, z5, z6, z7⟩⟩, s.heap, rfl, .refl ..⟩
    | false =>
      rw [if_neg (by decide)]
      refine wpAny_bind (wpAny_setField z4 z6 z7 ?_)
      have t1 : Turn X (fra (hv :: r)) s₀ s.heap (s.heap.update T (Obj.mapFields (·.setIfInBounds 3 Value.none))) := .upd z4 z6 (.typ z5) z2 _
      have k1 : Keep [T] s.heap (s.heap.update T (Obj.mapFields (·.setIfInBounds 3 Value.none))) := Keep.ext (Heap.SameBut.update ..).extBut
      have fr' := fr.keep k1 fun L' hL' => .inl fun q => fr.norec z4 z6 (List.mem_singleton.mp q ▸ hL')
      refine wpAny_mono (entry_ok (s := { s with heap := _ }) hfr he fr' hf (fun b hb => sub b ?_) h2 ((upd_other (Ne.symm z3)).trans h3) h4 h5 h6 h7) (fun _ s' hq => ?_) fun _ _ z => z
      · obtain ⟨_, _, _, _, _, _, gn⟩ := t1; exact gn b hb
      · obtain ⟨f, h', rfl, t2⟩ := hq
        exact ⟨f, h', rfl, t1.trans t2⟩

theorem setFlight_ok {F : List Addr} {f : Option Addr} (fl : FlyG X False s₀ e s) : wpAny M A (setFlight e f) (fun _ s' => Noted X F s₀ e s s') E s := by
  obtain ⟨a, oe, C, vs, rfl, h2, h3, h4, h5, h6, h7, h9⟩ := fl
  rcases h9 with ⟨h9, _⟩ | ⟨T, oT, ts, z1, z2, z3, z4, z5, z6, z7⟩
  · exact h9.elim
  unfold setFlight
  refine wpAny_bind (wpAny_field h3 h6 z1 ?_)
  rw [if_pos (show (Value.ref T != Value.none) = true from rfl)]
  exact wpAny_setField z4 z6 z7 ⟨⟨a, oe, C, vs, rfl, h2, (upd_other (Ne.symm z3)).trans h3, h4, h5, h6, h7, .inr ⟨T, _, _, z1, z2, z3, Heap.get?_update_self _ z4 (Obj.isFreed_of_fields (Obj.data_mapFields z6 _)), (Obj.cls_mapFields ..).trans z5, Obj.data_mapFields z6 _, by rw [Array.size_setIfInBounds]; exact z7⟩⟩, _, rfl, .upd z4 z6 (.typ z5) z2 _⟩
theorem Noted.trans {F : List Addr} {s₁ s₂ : Shared} (x : Noted X F s₀ e s s₁) (y : Noted X F s₀ e s₁ s₂) : Noted X F s₀ e s s₂ := by
  obtain ⟨_, h', rfl, t⟩ := x
  obtain ⟨f', h'', rfl, t'⟩ := y
  exact ⟨f', h'', rfl, t.trans t'⟩

theorem leaving_ok {q : Prop} (hfr : A.frames = some (hv :: r)) (he : hv.frame = env.frame) (fr : Frs s.heap X.base (hv :: r)) (hf : env.frame = some L)
    (sub : ∀ b, s.heap.get? b = none → s₀.heap.get? b = none) (fl : FlyG X q s₀ e s) : wpAny M A (leaving env e) (fun _ s' => Noted X (fra (hv :: r)) s₀ e s s') E s := by
  unfold leaving
  exact wpAny_bind (wpAny_mono (noteFrame_ok hfr he fr hf sub fl) (fun _ s' n => wpAny_mono (setFlight_ok n.1) (fun _ s'' n' => n.trans n') fun _ _ z => z) fun _ _ z => z)
/-- out of a loop's or a clause's own activation -/
theorem cameBack_ok {q : Prop} {A' : Around} (hfr : A.frames = some (hv :: r)) (he : hv.frame = env.frame) (fr : Frs s.heap X.base (hv :: r)) (hf : env.frame = some L)
    (sub : ∀ b, s.heap.get? b = none → s₀.heap.get? b = none) (fl : FlyG X q s₀ e s) (hE : ∀ s', Noted X (fra (hv :: r)) s₀ e s s' → E e s') : notedBy M A env (cameBackBy M A' env E) e s := by
  unfold notedBy
  refine wpAny_mono (noteFrame_ok hfr he fr hf sub fl) (fun _ s' n => ?_) fun _ _ z => z
  unfold cameBackBy
  obtain ⟨a, oe, C, vs, rfl, h2, h3, h4, h5, h6, h7, h9⟩ := id n.1
  rcases h9 with ⟨h9, _⟩ | ⟨T, oT, ts, z1, z2, z3, z4, z5, z6, z7⟩
  · exact h9.elim
  refine wpAny_bind (wpAny_field h3 h6 z1 ?_)
  rw [if_neg (by simp)]
  exact wpAny_mono (setFlight_ok n.1) (fun _ s'' n' => hE s'' (n.trans n')) fun _ _ z => z
end
end Mine

/- N10 -/
set_option tactic.hygienic false
/-! Mine: turns of an iterator. -/
namespace Mine
open PySem PySem.Spec PySem.Calls PyProof.Rows

/-- what may be iterated over -/
noncomputable def SrcV (X : Cx) (ρ : List Addr) (h : Heap) (v : Value) : Src → Prop
  | .items xs => (∃ r a b t u k, v = .ref r ∧ xs = rangeL a b ∧ IsRange h r a b 1 t u k ∧ 0 ≤ a ∧ a ≤ 2 ^ 40 ∧ -(2 ^ 40) ≤ b ∧ b ≤ 2 ^ 40) ∨ ∃ l vs ns, v = .ref l ∧ xs = ns.map .int ∧ X.base.IsList l vs.toArray ∧ IntsAre vs ns
  | .lst n => ∃ l, v = .ref l ∧ ρ[n]? = some l
noncomputable def It (X : Cx) (ρ : List Addr) (h : Heap) (I : Addr) (i : Nat) : Src → Prop
  | .items xs => (∃ a b, xs = rangeL a b ∧ IsRangeIter h I (a + i) (((b - a).toNat : Int) - i) 1) ∨ ∃ l vs ns, xs = ns.map .int ∧ X.base.IsList l vs.toArray ∧ IntsAre vs ns ∧ h.IsListIter I l i
  | .lst n => ∃ l, ρ[n]? = some l ∧ h.IsListIter I l i

section
variable {X : Cx} {ρ ρ' : List Addr} {h h' : Heap} {I : Addr} {i : Nat} {src : Src}
theorem It.at (x : It X ρ h I i src) (hr : Ext ρ ρ') (e : ∀ o, h.get? I = some o → h'.get? I = some o) : It X ρ' h' I i src := by
  cases src with
  | items xs =>
    rcases x with ⟨a, b, e1, e2⟩ | ⟨l, vs, ns, e1, e2, e3, o, e4, e5⟩
    · exact .inl ⟨a, b, e1, e _ e2⟩
    · exact .inr ⟨l, vs, ns, e1, e2, e3, o, e _ e4, e5⟩
  | lst n =>
    obtain ⟨l, e1, o, e2, e3⟩ := x
    exact ⟨l, hr _ _ e1, o, e _ e2, e3⟩
/-- an iterator is a record -/
theorem It.rec' (x : It X ρ h I i src) : ∃ o fs, h.get? I = some o ∧ o.data = .fields fs ∧ Loose o := by
  cases src with
  | items xs =>
    rcases x with ⟨a, b, e1, e2⟩ | ⟨l, vs, ns, e1, e2, e3, o, e4, e5, e6⟩
    · exact ⟨_, _, e2, rfl, .typ rfl⟩
    · exact ⟨o, _, e4, e6, .typ e5⟩
  | lst n =>
    obtain ⟨l, e1, o, e2, e3, e4⟩ := x
    exact ⟨o, _, e2, e4, .typ e3⟩
theorem It.mut (x : It X ρ h I i src) {o : Obj} (e : h.get? I = some o) : Loose o := by
  obtain ⟨o', fs, e', d, m⟩ := x.rec'
  rw [e] at e'; cases e'; exact m
end
theorem rangeL_get {a b : Int} {i : Nat} : (rangeL a b)[i]? = if i < (b - a).toNat then some (.int (a + i)) else none := by
  unfold rangeL
  rw [List.getElem?_map]
  split
  · rename_i h; rw [List.getElem?_range h]; rfl
  · rename_i h; rw [List.getElem?_eq_none (by simpa using h)]; rfl

section
variable {A : Around} {E : Value → Shared → Prop} {s : Shared} {X : Cx} {ρ : List Addr} {σ σ' : Sto}
theorem It.next {I : Addr} {i : Nat} {src : Src} {x : Option AV} {Q : Option Value → Shared → Prop} (W : Wd X ρ σ s.heap) (hh : A.handled = none) (it : It X ρ s.heap I i src) (hx : srcAt σ i src = some x)
    (hQ0 : x = none → ∀ h', Heap.ExtBut I s.heap h' → Q none { s with heap := h' })
    (hQ1 : ∀ a, x = some a → ∀ h' tk v, Heap.ExtBut I s.heap h' → It X ρ h' I (i + 1) src → Rep X ρ s.heap v a → Q (some v) { s with heap := h', toks := tk }) :
    wpAny X.M A (pyNext (.ref I)) Q E s := by
  have lists : ∀ l vs xs, s.heap.IsListIter I l i → s.heap.IsList l vs.toArray → RepAll X ρ s.heap vs xs → x = xs[i]? → (∀ h' : Heap, h'.IsListIter I l (i + 1) → It X ρ h' I (i + 1) src) → wpAny X.M A (pyNext (.ref I)) Q E s := fun l vs xs hit hli ra e hI => by
    cases q : xs[i]? with
    | none =>
      have hv : vs[i]? = none := List.getElem?_eq_none (by rw [ra.length]; exact List.getElem?_eq_none_iff.mp q)
      exact wpAny_pyNext_list_end hh hit hli ((List.getElem?_toArray ..).trans hv) (hQ0 (e.trans q))
    | some a =>
      obtain ⟨v, hv, r⟩ := ra.get q
      exact wpAny_pyNext_list_item hit hli (arr hv) fun h' hi' hb => hQ1 a (e.trans q) h' s.toks v hb.extBut (hI h' hi') r
  cases src with
  | items xs =>
    have hx : x = xs[i]? := (Option.some.inj (show some xs[i]? = some x from hx)).symm
    rcases it with ⟨a, b, rfl, hit⟩ | ⟨l, vs, ns, rfl, hb, ia, hit⟩
    · rw [rangeL_get] at hx
      by_cases hlt : i < (b - a).toNat
      · rw [if_pos hlt] at hx
        refine wpAny_pyNext_range_item hit (by omega) fun h' hi' hb => hQ1 (.int (a + i)) hx h' _ _ hb.extBut (.inl ⟨a, b, rfl, ?_⟩) ⟨_, rfl⟩
        have e1 : a + ((i + 1 : Nat) : Int) = a + (i : Int) + 1 := by omega
        have e2 : ((b - a).toNat : Int) - ((i + 1 : Nat) : Int) = ((b - a).toNat : Int) - (i : Int) - 1 := by omega
        rw [e1, e2]; exact hi'
      · rw [if_neg hlt] at hx
        exact wpAny_pyNext_range_end hh hit (by omega) (hQ0 hx)
    · obtain ⟨o, ho, hc, hd⟩ := hb
      exact lists l vs _ hit ⟨o, W.stays _ _ ho, hc, hd⟩ (repInts ia) hx fun h' z => .inr ⟨l, vs, ns, rfl, ⟨o, ho, hc, hd⟩, ia, z⟩
  | lst n =>
    obtain ⟨l, e1, hit⟩ := it
    obtain ⟨xs, hl, e⟩ := Option.map_eq_some_iff.mp hx
    obtain ⟨l', vs, e', _, il, _, ra⟩ := W.list (show Rep X ρ s.heap (.ref l) (.ref n) from ⟨l, rfl, e1⟩) (listOf_inv hl)
    cases e'
    exact lists l vs xs hit il.is ra e.symm fun h' z => ⟨l, e1, z⟩
theorem iter_ok {v : Value} {src : Src} {x : Option AV} {Q : Value → Shared → Prop} (W : Wd X ρ σ s.heap) (sv : SrcV X ρ s.heap v src) (hs : srcAt σ 0 src = some x)
    (hQ : ∀ h', s.heap.StaysIn h' → It X ρ h' s.heap.objs.size 0 src → Q (.ref s.heap.objs.size) { s with heap := h' }) : wpAny X.M A (pyIter v) Q E s := by
  cases src with
  | items xs =>
    rcases sv with ⟨r, a, b, t, u, k, rfl, rfl, hr, h1, h2, h3, h4⟩ | ⟨l, vs, ns, rfl, rfl, hb, ia⟩
    · refine wpAny_pyIter_range hr (small_one (by omega) (by omega) (by omega) (by omega)) (hQ _ (push_stays _ _) (.inl ⟨a, b, rfl, ?_⟩))
      have e : Builtin.Range.rangeSize a b 1 = ((b - a).toNat : Int) - (0 : Nat) := by rw [rangeSize_one]; split <;> omega
      rw [e, show a + ((0 : Nat) : Int) = a by omega]
      exact Heap.get?_push_size _ rfl
    · obtain ⟨o, ho, hc, hd⟩ := id hb
      exact wpAny_pyIter_list ⟨o, W.stays _ _ ho, hc, hd⟩ (hQ _ (push_stays _ _) (.inr ⟨l, vs, ns, rfl, hb, ia, _, Heap.get?_push_size _ rfl, rfl, rfl⟩))
  | lst n =>
    obtain ⟨l, rfl, e1⟩ := sv
    obtain ⟨xs, hl, _⟩ := Option.map_eq_some_iff.mp hs
    obtain ⟨l', vs, e', _, il, _, ra⟩ := W.list (show Rep X ρ s.heap (.ref l) (.ref n) from ⟨l, rfl, e1⟩) (listOf_inv hl)
    cases e'
    exact wpAny_pyIter_list il.is (hQ _ (push_stays _ _) ⟨l, e1, _, Heap.get?_push_size _ rfl, rfl, rfl⟩)
theorem It.self {I : Addr} {i : Nat} {src : Src} {Q : Value → Shared → Prop} (it : It X ρ s.heap I i src) (h : Q (.ref I) s) : wpAny X.M A (pyIter (.ref I)) Q E s := by
  cases src with
  | items xs =>
    rcases it with ⟨a, b, _, hit⟩ | ⟨l, vs, ns, _, _, _, hit⟩
    · exact wpAny_pyIter_rangeiter hit h
    · exact wpAny_pyIter_listiter hit h
  | lst n =>
    obtain ⟨l, _, hit⟩ := it
    exact wpAny_pyIter_listiter hit h
theorem srcOf_ok {v : Value} {a : AV} {src : Src} (r : Rep X ρ s.heap v a) (e : srcOf a σ = .ok src σ') : σ' = σ ∧ SrcV X ρ s.heap v src := by
  cases a with
  | ref n =>
    obtain ⟨xs, _, e⟩ := optR_inv (show optR (listOf? σ n) _ = _ from e)
    cases e; exact ⟨rfl, r⟩
  | frozen ns =>
    cases e
    obtain ⟨l, vs, rfl, b, i⟩ := r
    exact ⟨rfl, .inr ⟨l, vs, ns, rfl, rfl, b, i⟩⟩
  | _ => exact nomatch (show Out.bad = .ok src σ' from e)
theorem range_ok {vs : List Value} {xs : List AV} {src : Src} (ra : RepAll X ρ s.heap vs xs) (e : rangeOf xs σ = .ok src σ') :
    wpAny X.M A (call (.type "range") vs) (fun v s' => ∃ h tk, s' = { s with heap := h, toks := tk } ∧ s.heap.StaysIn h ∧ SrcV X ρ h v src ∧ σ' = σ) E s := by
  have go : ∀ {a b : Int}, rangeOf2 a b σ = .ok src σ' → src = .items (rangeL a b) ∧ σ' = σ ∧ 0 ≤ a ∧ a ≤ 2 ^ 40 ∧ -(2 ^ 40) ≤ b ∧ b ≤ 2 ^ 40 := fun {a b} e => by
    obtain ⟨hc, e⟩ := bif_inv (c := decide (0 ≤ a) && decide (a ≤ 2 ^ 40) && decide (-(2 ^ 40) ≤ b) && decide (b ≤ 2 ^ 40)) (x := Out.ok (Src.items (rangeL a b)) σ) e
    cases e
    simp only [Bool.and_eq_true, decide_eq_true_eq] at hc
    exact ⟨rfl, rfl, hc.1.1.1, hc.1.1.2, hc.1.2, hc.2⟩
  cases xs with
  | nil => exact nomatch (show Out.bad = .ok src σ' from e)
  | cons x q =>
    obtain ⟨a, rfl, e⟩ := intR_inv (show intR x _ = _ from e)
    obtain ⟨_, vs', rfl, ⟨t, rfl⟩, r2⟩ := ra
    cases q with
    | nil =>
      rw [show vs' = [] from r2]
      obtain ⟨rfl, rfl, h1, h2, h3, h4⟩ := go (show rangeOf2 0 a σ = _ from e)
      exact call_range_1 ⟨_, _, rfl, push_stays _ _, .inl ⟨_, 0, a, _, _, _, rfl, rfl, IsRange.new _ _ _ _ _ _ _, h1, h2, h3, h4⟩, rfl⟩
    | cons y q =>
      obtain ⟨b, rfl, e⟩ := intR_inv (show intR y _ = _ from e)
      obtain ⟨hq, e⟩ := bif_inv e
      obtain ⟨_, vs2, rfl, ⟨u, rfl⟩, r3⟩ := r2
      rw [List.isEmpty_iff.mp hq] at r3
      rw [show vs2 = [] from r3]
      obtain ⟨rfl, rfl, h1, h2, h3, h4⟩ := go e
      exact call_range_2 ⟨_, _, rfl, push_stays _ _, .inl ⟨_, a, b, _, _, _, rfl, rfl, IsRange.new _ _ _ _ _ _ _, h1, h2, h3, h4⟩, rfl⟩
end
end Mine

/- N11 -/
set_option tactic.hygienic false
/-! Mine: names, arguments, calls by name, append. -/
namespace Mine
open PySem PySem.Spec PySem.Calls PyProof.Rows

structure ScOk (sc : Scope) (env : Env) : Prop where
  loc : ∀ x, isLoc sc x = true → env.kindOf x = some .local ∨ env.kindOf x = some .cell ∨ env.kindOf x = some .free
  glb : ∀ x, isGlob sc x = true → env.kindOf x = some .globalImplicit
  has : ∀ x, isCell sc x = true → (env.kindOf x = some .cell ∨ env.kindOf x = some .free) ∧ ∃ c, env.cells.lookup x = some c
  nd : ∀ x, isLoc sc x = true ∨ isGlob sc x = true → (x == ("__debug__" : Str)) = false ∧ (x == ("__classdict__" : Str)) = false

noncomputable def CallS (X : Cx) (mg : Str → Option Value) (n : Nat) (cf : Calls) : Prop :=
  ∀ (A : Around) (es : List Env) (ρ : List Addr) (σ : Sto) (s : Shared) (f : Str) (a : Addr) (o : Obj) (fd : FuncData) (vs : List Value) (xs : List AV), Cl X n A es ρ σ s → mg f = some (.ref a) → X.base.get? a = some o → o.data = .func fd →
    RepAll X ρ s.heap vs xs → cf f xs σ ≠ .bad → wpAny X.M A (call (.ref a) vs) (OkV X ρ s (cf f xs σ)) (ExV X ρ s (cf f xs σ)) s

/-- an interpreter of expressions is right -/
noncomputable def EvS (X : Cx) (n : Nat) (ev : Scope → Expr → Loc → Sto → W AV) : Prop := ∀ (e : Expr) (A : Around) (sc : Scope) (env : Env) (es : List Env) (ρ : List Addr) (l : Loc) (σ : Sto) (s : Shared), ScOk sc env → Ct X n A env es ρ l σ s →
  ∀ R, (ev sc e l σ).run = R → R ≠ .bad → wpAny X.M A (eval e env) (OkV X ρ s R) (ExV X ρ s R) s
noncomputable def TvS (X : Cx) (n : Nat) (tv : Scope → Expr → Loc → Sto → W Bool) : Prop := ∀ (e : Expr) (A : Around) (sc : Scope) (env : Env) (es : List Env) (ρ : List Addr) (l : Loc) (σ : Sto) (s : Shared), ScOk sc env → Ct X n A env es ρ l σ s →
  ∀ R, (tv sc e l σ).run = R → R ≠ .bad → wpAny X.M A (isTrue e env (eval e env)) (OkB X ρ s R) (ExV X ρ s R) s

theorem isStar {e : Expr} (h : noStar e = true) : (∀ x p, e ≠ .Starred x p) := fun x p q => by subst q; cases h
theorem noStars_cons {e : Expr} {r : List Expr} (h : noStars (e :: r) = true) : noStar e = true ∧ noStars r = true := Bool.and_eq_true_iff.mp h
theorem spl {pos : Pos} {env : Env} {e : Expr} {r : List Expr} (h : noStar e = true) : backTo pos (starEach (e :: r) env) = (false, eval e env) :: backTo pos (starEach r env) := by
  cases e with
  | Starred x p => cases h
  | _ => rfl
theorem spl_any {pos : Pos} {env : Env} : ∀ {es : List Expr}, noStars es = true → (backTo pos (starEach es env)).any (·.1) = false
  | [], _ => rfl
  | e :: r, h => by rw [spl (noStars_cons h).1, List.any_cons, spl_any (noStars_cons h).2]; rfl

section
variable {A : Around} {E : Value → Shared → Prop} {s : Shared} {X : Cx} {P : Prog} {mg mb : Str → Option Value} {n : Nat} {env : Env} {es : List Env} {ρ : List Addr} {l : Loc} {σ : Sto} {sc : Scope} {cf : Calls} {Ev₀ : Ev}

theorem glob_name {g : Str} {pos : Pos} {v : Value} {Q : Value → Shared → Prop} {A' : Around} (G : Gd X P mg mb) (S : ScOk sc env) (c : Ct X n A' env es ρ l σ s) (hg : isGlob sc g = true) (hv : mg g = some v ∨ (mg g = none ∧ mb g = some v)) (h : Q v s) :
    wpAny X.M A (eval (.Name g pos) env) Q E s := by
  refine Name_function_global c.kind (S.glb g hg) ?_ (S.nd g (.inr hg)).1
  rcases hv with e | ⟨e1, e2⟩
  · exact loadGlobal_global (c.glob ▸ G.g.keeps c.wd.stays) e h
  · exact loadGlobal_builtin (c.glob ▸ G.g.keeps c.wd.stays) e1 (c.blt ▸ G.b.keeps c.wd.stays) e2 h
theorem loc_name {x : Str} {pos : Pos} {a : AV} {Q : Value → Shared → Prop} (S : ScOk sc env) (c : Ct X n A env es ρ l σ s) (hl : isLoc sc x = true) (hg : getL x l = some a) (hQ : ∀ v, Rep X ρ s.heap v a → Q v s) : wpAny X.M A (eval (.Name x pos) env) Q E s := by
  have nd := S.nd x (.inl hl)
  have h0 : x ≠ (".0" : Str) := fun q => by subst q; exact Bool.noConfusion hl
  rcases S.loc x hl with k | k | k
  · obtain ⟨m, hn, f⟩ := c.loc.ns
    obtain ⟨v, hv, r⟩ := f x a hg h0 k
    exact wpAny_Name (wpAny_loadName_local c.kind k hn hv (hQ v r)) nd.1
  · obtain ⟨cl, v, hc, hv, r⟩ := c.loc.val x a hg (.inl k)
    exact wpAny_Name (wpAny_loadName_cell c.kind k hc hv (hQ v r)) nd.1
  · obtain ⟨cl, v, hc, hv, r⟩ := c.loc.val x a hg (.inr k)
    exact wpAny_Name (wpAny_loadName_free c.kind k hc hv (hQ v r) nd.2) nd.1
theorem name_ok {x : Str} {pos : Pos} {a : AV} (G : Gd X P mg mb) (S : ScOk sc env) (c : Ct X n A env es ρ l σ s) (hx : evName sc x l = some a) : wpAny X.M A (eval (.Name x pos) env) (OkV X ρ s (.ok a σ)) E s := by
  unfold evName at hx
  cases hl : isLoc sc x with
  | true =>
    rw [hl] at hx
    exact loc_name S c hl hx fun v r => ⟨a, σ, ρ, rfl, .refl c.wd, r⟩
  | false =>
    rw [hl] at hx
    cases hg : (isGlob sc x && types.contains x) with
    | false => rw [hg] at hx; cases hx
    | true =>
      rw [hg] at hx; cases hx
      have hg := Bool.and_eq_true_iff.mp hg
      obtain ⟨m, rfl, h1, h2⟩ := G.typ x (List.contains_iff_mem.mp hg.2)
      exact glob_name G S c hg.1 (.inr ⟨h1, h2⟩) ⟨_, σ, ρ, rfl, .refl c.wd, m, rfl, rfl⟩

theorem args_ok {f : Value} {pos : Pos} {args : List Expr} {Q : Args → Shared → Prop} (hs : noStars args = true) (h : wpAny X.M A (spliced (backTo pos (starEach args env))) (fun vs s' => Q ⟨vs, []⟩ s') E s) :
    wpAny X.M A (evalArgs f true (backTo pos (starEach args env)) []) Q E s := by
  cases args with
  | nil =>
    unfold evalArgs
    show wpAny _ A (spliced [] >>= _) Q E s
    refine wpAny_bind (wpAny_mono h (fun vs s' h' => ?_) fun _ _ x => x)
    refine wpAny_holding ?_
    exact wpAny_bind (wpAny_pure (wpAny_bind (wpAny_pure (wpAny_pure h'))))
  | cons e r =>
    rw [spl (noStars_cons hs).1] at h ⊢
    exact evalArgs_plain h
theorem evs_noStar {args : List Expr} {R : Out (List AV)} (h : (evsW Ev₀ sc l args σ).run = R) (hb : R ≠ .bad) : noStars args = true := by
  cases args with
  | nil => rfl
  | cons e r => exact (W.run_cond (show (W.cond (noStars (e :: r)) _ .bad).run = R from h) hb).1
theorem bind_ne {α β : Type} {x : W α} {g : α → Sto → W β} {R : Out β} (h : (x.bind g).run = R) (hb : R ≠ .bad) : x.run ≠ .bad := fun q => hb (by rw [← h, W.run_bind, q]; rfl)
theorem evsOk (hE : EvS X n Ev₀.v) : ∀ (xs : List Expr) (pos : Pos) (A : Around) (sc : Scope) (env : Env) (es : List Env) (ρ : List Addr) (l : Loc) (σ : Sto) (s : Shared), ScOk sc env → Ct X n A env es ρ l σ s → ∀ R, (evsW Ev₀ sc l xs σ).run = R → R ≠ .bad →
    wpAny X.M A (spliced (backTo pos (starEach xs env))) (OkL X ρ s R) (ExV X ρ s R) s
  | [], pos, A, sc, env, es, ρ, l, σ, s, S, c, R, hR, hb => spliced_nil ⟨[], σ, ρ, hR.symm, .refl c.wd, .nil⟩
  | e :: r, pos, A, sc, env, es, ρ, l, σ, s, S, c, R, hR, hb => by
    obtain ⟨hs, hR⟩ := W.run_cond (show (W.cond (noStars (e :: r)) _ .bad).run = R from hR) hb
    rw [spl (noStars_cons hs).1]
    refine spliced_cons (lift (.refl c.wd) hR hb (hE e A sc env es ρ l σ s S c) fun x σ₁ ρ₁ v s₁ hR a₁ _ r₁ => ?_)
    refine lift a₁ hR hb (evsOk hE r pos A sc env es ρ₁ l σ₁ s₁ S (c.after a₁)) fun y σ₂ ρ₂ v' s₂ hR a₂ a₂' r₂ => ?_
    exact ⟨x :: y, σ₂, ρ₂, hR.symm, a₂, .cons (a₂'.rep a₁.wd r₁) r₂⟩

theorem findB_mem {g : Str} {b : Bl} : ∀ {bs : List Bl}, findB g bs = some b → b ∈ bs ∧ b.name = g
  | [], h => by cases h
  | x :: r, h => by
    have h : (bif x.name == g then some x else findB g r) = some b := h
    cases q : x.name == g with
    | true => rw [q] at h; cases h; exact ⟨.head _, beq_iff_eq.mp q⟩
    | false => rw [q] at h; exact ⟨.tail _ (findB_mem h).1, (findB_mem h).2⟩
theorem blt_val {b : Bl} (h : b ∈ blts) : (∃ i, b.val = .builtin i) ∨ ∃ t, b.val = .type t := by
  have : blts.all (fun b => match b.val with | .builtin _ => true | .type _ => true | _ => false) = true := rfl
  have h := List.all_eq_true.mp this b h
  cases q : b.val with
  | builtin i => exact .inl ⟨i, rfl⟩
  | type t => exact .inr ⟨t, rfl⟩
  | _ => rw [q] at h; cases h
theorem call_ok {g : Str} {p pos : Pos} {args : List Expr} {R : Out AV} (G : Gd X P mg mb) (C : CallS X mg n cf) (hE : EvS X n Ev₀.v) (S : ScOk sc env) (c : Ct X n A env es ρ l σ s) (hg : isGlob sc g = true) (hk : P.known g = true)
    (hR : ((evsW Ev₀ sc l args σ).bind fun vs σ => callW cf g vs σ).run = R) (hb : R ≠ .bad) : wpAny X.M A (eval (.Call (.Name g p) args [] pos) env) (OkV X ρ s R) (ExV X ρ s R) s := by
  have hs := evs_noStar rfl (bind_ne hR hb)
  refine wpAny_Call_Name_kw ?_
  unfold callW at hR
  cases hf : findB g blts with
  | some b =>
    rw [hf] at hR
    obtain ⟨hm, rfl⟩ := findB_mem hf
    refine glob_name G S c hg (.inr (G.blt b hm)) ?_
    have args' : wpAny X.M A (evalArgs b.val true (backTo pos (starEach args env)) []) (fun a s₁ => wpAny X.M A (call b.val ([] ++ a.pos) a.kw) (OkV X ρ s R) (ExV X ρ s R) s₁) (ExV X ρ s R) s :=
      args_ok hs (lift (.refl c.wd) hR hb (evsOk hE args pos A sc env es ρ l σ s S c) fun xs σ₁ ρ₁ vs s₁ hR a₁ _ r₁ => fin a₁ hR hb fun a σ' h => blt_ok G hm a₁.wd c.hand r₁ h)
    rcases blt_val hm with ⟨i, q⟩ | ⟨t, q⟩
    · rw [q] at args' ⊢; exact callWith_builtin (spl_any hs) args'
    · rw [q] at args' ⊢; exact PySem.callWith_type (spl_any hs) args'
  | none =>
    rw [hf] at hR
    obtain ⟨a, o, fd, h1, h2, h3⟩ := G.known g hk hf
    refine glob_name G S c hg (.inl h1) ?_
    refine callWith_function (a := a) (o := o) (fd := fd) (args_ok hs (lift (.refl c.wd) hR hb (evsOk hE args pos A sc env es ρ l σ s S c) fun xs σ₁ ρ₁ vs s₁ hR a₁ _ r₁ => ?_))
    have c₁ := c.after a₁
    refine ⟨⟨c₁.wd.stays _ _ h2, h3⟩, ?_⟩
    rw [W.run_call] at hR
    subst hR
    show wpAny _ A (call (.ref a) vs) _ _ s₁
    refine wpAny_mono (C A es ρ₁ σ₁ s₁ g a o fd vs xs c₁.toCl h1 h2 h3 r₁ hb) (fun v s' q => ?_) fun e s' q => ?_
    · obtain ⟨y, σ', ρ', e1, e2, e3⟩ := q; exact ⟨y, σ', ρ', e1, a₁.trans e2, e3⟩
    · obtain ⟨y, σ', ρ', e1, e2, e3⟩ := q; exact ⟨y, σ', ρ', e1, a₁.trans e2, e3.lift fun _ h => a₁.gone h⟩

theorem nameX_inv {e : Expr} {c : Str} (h : nameX e = some c) : ∃ p, e = .Name c p := by
  cases e with
  | Name x p => cases h; exact ⟨p, rfl⟩
  | _ => exact nomatch (show (none : Option Str) = some c from h)
theorem one_inv {α : Type} {xs : List α} {x : α} (h : one? xs = some x) : xs = [x] := by
  cases xs with
  | nil => cases h
  | cons y r => cases r with
    | nil => cases h; rfl
    | cons _ _ => cases h
theorem meth_ok {o : Expr} {m : Str} {apos pos : Pos} {args : List Expr} {R : Out AV} (hE : EvS X n Ev₀.v) (S : ScOk sc env) (c : Ct X n A env es ρ l σ s) (hR : (methW Ev₀ sc o m apos pos args l σ).run = R) (hb : R ≠ .bad) :
    wpAny X.M A (eval (.Call (.Attribute o m apos) args [] pos) env) (OkV X ρ s R) (ExV X ρ s R) s := by
  obtain ⟨x, ho, hR⟩ := W.run_opt hR hb
  obtain ⟨p, rfl⟩ := nameX_inv ho
  obtain ⟨hc, hR⟩ := W.run_cond hR hb
  have h1 := Bool.and_eq_true_iff.mp hc
  have h2 := Bool.and_eq_true_iff.mp h1.1
  obtain ⟨e, ha, hR⟩ := W.run_opt hR hb
  rw [one_inv ha]
  obtain ⟨hs, hR⟩ := W.run_cond hR hb
  obtain ⟨y, hy, hR⟩ := W.run_opt hR hb
  rw [beq_iff_eq.mp h2.1]
  have hss : noStars [e] = true := by rw [noStars, List.all_cons, hs]; rfl
  refine wpAny_Call_method (T := "list") (id := "list.append") rfl (by rw [spl hs]; rfl) h2.2 PySem.F.plainAttrs_list slot_list_append PySem.type_list_append ?_
  refine loc_name S c h1.2 hy fun ov rx => ?_
  rw [W.run_bind] at hR
  cases hl : (lstR σ y fun _ => Out.ok () σ) with
  | bad => rw [show (W.op (lstR σ y fun _ => Out.ok () σ)).run = .bad by rw [hl]; rfl] at hR; exact absurd hR.symm hb
  | exc k τ => rw [show (W.op (lstR σ y fun _ => Out.ok () σ)).run = .bad by rw [hl]; rfl] at hR; exact absurd hR.symm hb
  | ok u τ =>
    obtain ⟨k, ys, rfl, hk, e1⟩ := lstR_inv hl
    cases e1
    rw [show (W.op (lstR σ (.ref k) fun _ => Out.ok () σ)).run = .ok () σ by rw [hl]; rfl] at hR
    obtain ⟨a, vs0, rfl, _, il, _, _⟩ := c.wd.list rx hk
    refine ⟨il.is.typeIs, fun b e => ?_, ?_⟩
    · cases e
      obtain ⟨ob, _, e1, _, e2, _⟩ := il
      exact ⟨ob, e1, e2⟩
    · refine callWith_builtin (spl_any hss) (args_ok hss ?_)
      rw [spl hs]
      refine spliced_cons (lift (.refl c.wd) (show ((Ev₀.v sc e l σ).bind fun v σ => W.op (append (.ref k) v σ)).run = R from hR) hb (hE e A sc env es ρ l σ s S c) fun v σ₁ ρ₁ w s₁ hR a₁ _ r₁ => spliced_nil ?_)
      exact fin a₁ hR hb fun r σ' h => append_ok a₁.wd (a₁.rep c.wd rx) r₁ h
end
end Mine

/- N12 -/
set_option tactic.hygienic false
/-! Mine: a comprehension's table and closure. -/
namespace Mine
open PySem PySem.Spec PySem.Calls PyProof.Rows

theorem lookup_relabel {env : Env} (x : Str) : ∀ (names : List (Str × NameKind)),
    (names.map fun (n, k) => if (k == NameKind.free && env.scope.kind == .function && env.kindOf n == some .cell) then (n, NameKind.cell) else (n, k)).lookup x =
      (names.lookup x).map fun k => if (k == NameKind.free && env.scope.kind == .function && env.kindOf x == some .cell) then NameKind.cell else k
  | [] => rfl
  | (n, k) :: r => by
    rw [List.map_cons, List.lookup_cons]
    have ih := lookup_relabel (env := env) x r
    cases hx : x == n with
    | true =>
      have e := beq_iff_eq.mp hx
      subst e
      by_cases hc : (k == NameKind.free && env.scope.kind == .function && env.kindOf x == some .cell) = true
      · simp only [hc, if_true, List.lookup_cons, beq_self_eq_true, Option.map_some]
      · simp only [hc, Bool.false_eq_true, if_false, List.lookup_cons, beq_self_eq_true, Option.map_some]
    | false =>
      by_cases hc : (k == NameKind.free && env.scope.kind == .function && env.kindOf n == some .cell) = true
      · simp only [hc, if_true, List.lookup_cons, hx]; exact ih
      · simp only [hc, Bool.false_eq_true, if_false, List.lookup_cons, hx]; exact ih

theorem closure_ok {env : Env} : ∀ (names : List (Str × NameKind)) (acc : List (Str × Addr)), (∀ p ∈ names, p.2 = .free → ∃ c, env.cells.lookup p.1 = some c) → (∀ q ∈ acc, env.cells.lookup q.1 = some q.2) →
    ∃ cl : List (Str × Addr), (forIn names acc fun p cs => match p with | (name, kind) => if (kind == NameKind.free) = true then (do let c ← cellOf env name; pure (ForInStep.yield ((name, c) :: cs))) else pure (ForInStep.yield cs)) = (pure cl : Sem (List (Str × Addr))) ∧
      (∀ q ∈ cl, env.cells.lookup q.1 = some q.2) ∧ (∀ x, (x, NameKind.free) ∈ names ∨ x ∈ acc.map (·.1) → x ∈ cl.map (·.1))
  | [], acc, _, ha => ⟨acc, rfl, ha, fun x h => h.elim (fun q => (nomatch q)) id⟩
  | (n, k) :: r, acc, hn, ha => by
    rw [List.forIn_cons]
    have hr : ∀ p ∈ r, p.2 = .free → ∃ c, env.cells.lookup p.1 = some c := fun p hp => hn p (.tail _ hp)
    by_cases hk : k = .free
    · subst hk
      obtain ⟨c, hc⟩ := hn (n, .free) (.head _) rfl
      have e : cellOf env n = pure c := by unfold cellOf; rw [hc]
      simp only [beq_self_eq_true, if_true, e, pure_bind]
      obtain ⟨cl, e1, e2, e3⟩ := closure_ok r ((n, c) :: acc) hr (fun q hq => by
        rcases List.mem_cons.mp hq with rfl | hq
        · exact hc
        · exact ha q hq)
      refine ⟨cl, e1, e2, fun x h => e3 x ?_⟩
      rcases h with h | h
      · rcases List.mem_cons.mp h with h | h
        · cases h; exact .inr (.head _)
        · exact .inl h
      · exact .inr (.tail _ h)
    · have hb : (k == NameKind.free) = false := beq_eq_false_iff_ne.mpr hk
      simp only [hb, Bool.false_eq_true, if_false, pure_bind]
      obtain ⟨cl, e1, e2, e3⟩ := closure_ok r acc hr ha
      refine ⟨cl, e1, e2, fun x h => e3 x ?_⟩
      rcases h with h | h
      · rcases List.mem_cons.mp h with h | h
        · cases h; exact absurd rfl hk
        · exact .inl h
      · exact .inr h
theorem closureFor_ok {env : Env} {scope : Scope} (h : ∀ p ∈ scope.names, p.2 = .free → ∃ c, env.cells.lookup p.1 = some c) :
    ∃ cl, closureFor scope env = pure cl ∧ (∀ q ∈ cl, env.cells.lookup q.1 = some q.2) ∧ ∀ x, (x, NameKind.free) ∈ scope.names → cl.lookup x = env.cells.lookup x := by
  obtain ⟨cl, e1, e2, e3⟩ := closure_ok scope.names [] h (fun _ q => (nomatch q))
  refine ⟨cl, ?_, e2, fun x hx => ?_⟩
  · unfold closureFor
    show ((forIn scope.names ([] : List (Str × Addr)) fun p cs => match p with | (name, kind) => if (kind == NameKind.free) = true then (do let c ← cellOf env name; pure (ForInStep.yield ((name, c) :: cs))) else pure (ForInStep.yield cs)) >>= fun r => pure r : Sem (List (Str × Addr))) = pure cl
    rw [e1]; rfl
  · have hm := e3 x (.inl hx)
    cases q : cl.lookup x with
    | none =>
      obtain ⟨⟨y, c⟩, h1, h2⟩ := List.mem_map.mp hm
      have h2 : y = x := h2
      subst h2
      exact absurd ((List.lookup_eq_none_iff).mp q _ h1) (by simp)
    | some c => exact (e2 (x, c) (mem_lu q)).symm

structure Fine (sc csc : Scope) (k : Str) : Prop where
  kind : csc.kind = .function
  k0 : k ≠ (".0" : Str)
  kl : csc.names.lookup k = some .local
  loc : ∀ p ∈ csc.names, p.2 = .local → (p.1 = k ∨ p.1 = (".0" : Str)) ∧ csc.names.lookup p.1 = some .local
  free : ∀ p ∈ csc.names, p.2 = .free → isCell sc p.1 = true
  cell : ∀ p ∈ csc.names, p.2 ≠ .cell
  nd : ∀ p ∈ csc.names, (p.1 == ("__debug__" : Str)) = false ∧ (p.1 == ("__classdict__" : Str)) = false

theorem tableFine_nd {sc : Scope} (h : tableFine sc = true) : sc.kind = .function ∧ (∀ p ∈ sc.names, (p.1 == ("__debug__" : Str)) = false ∧ (p.1 == ("__classdict__" : Str)) = false) ∧ sc.isGenerator = false ∧ sc.isCoroutine = false := by
  unfold tableFine at h
  simp only [Bool.and_eq_true, List.all_eq_true, Bool.not_eq_true', Bool.or_eq_false_iff] at h
  exact ⟨of_decide_eq_true h.1.1.1, fun p hp => (h.2 p hp).1, h.1.1.2, h.1.2⟩
theorem isLocal_inv {sc : Scope} {x : Str} (h : isLocal sc x = true) : sc.names.lookup x = some .local := beq_iff_eq.mp h
theorem isGlob_inv {sc : Scope} {x : Str} (h : isGlob sc x = true) : sc.names.lookup x = some .globalImplicit := beq_iff_eq.mp h
theorem isLoc_inv {sc : Scope} {x : Str} (h : isLoc sc x = true) : sc.names.lookup x = some .local ∨ sc.names.lookup x = some .cell ∨ sc.names.lookup x = some .free := by
  have h := (Bool.and_eq_true_iff.mp h).2
  cases q : sc.names.lookup x with
  | none => rw [q] at h; cases h
  | some k => cases k with
    | «local» => exact .inl rfl
    | cell => exact .inr (.inl rfl)
    | free => exact .inr (.inr rfl)
    | _ => rw [q] at h; cases h
theorem isCell_inv {sc : Scope} {x : Str} (h : isCell sc x = true) : sc.names.lookup x = some .cell ∨ sc.names.lookup x = some .free := by
  have h : kCell (sc.names.lookup x) = true := h
  cases q : sc.names.lookup x with
  | none => rw [q] at h; cases h
  | some k => cases k with
    | cell => exact .inl rfl
    | free => exact .inr rfl
    | _ => rw [q] at h; cases h
theorem Fine.of {sc csc : Scope} {k : Str} (h : scopeFine sc csc k = true) : Fine sc csc k := by
  have h1 := Bool.and_eq_true_iff.mp h
  have h2 := Bool.and_eq_true_iff.mp h1.1
  have h3 := Bool.and_eq_true_iff.mp h2.1
  have h4 := List.all_eq_true.mp h1.2
  obtain ⟨t1, t2, _⟩ := tableFine_nd h3.1
  refine ⟨t1, fun q => by rw [q] at h3; exact Bool.noConfusion h3.2, isLocal_inv h2.2, fun p hp e => ?_, fun p hp e => ?_, fun p hp e => ?_, t2⟩
  · have h5 := h4 p hp
    unfold kFine at h5
    rw [e] at h5
    have h6 := Bool.and_eq_true_iff.mp h5
    exact ⟨(Bool.or_eq_true_iff.mp h6.1).imp beq_iff_eq.mp beq_iff_eq.mp, isLocal_inv h6.2⟩
  · have h5 := h4 p hp
    unfold kFine at h5
    rw [e] at h5; exact h5
  · have h5 := h4 p hp
    unfold kFine at h5
    rw [e] at h5; cases h5
theorem nd_of {sc : Scope} (hn : ∀ p ∈ sc.names, (p.1 == ("__debug__" : Str)) = false ∧ (p.1 == ("__classdict__" : Str)) = false) (x : Str) (h : isLoc sc x = true ∨ isGlob sc x = true) : (x == ("__debug__" : Str)) = false ∧ (x == ("__classdict__" : Str)) = false := by
  rcases h with h | h
  · rcases isLoc_inv h with q | q | q <;> exact hn _ (mem_lu q)
  · exact hn _ (mem_lu (isGlob_inv h))

section
variable {sc csc : Scope} {env : Env} {k : Str} {cl : List (Str × Addr)} {C : Addr}
theorem comp_kind (x : Str) : (compEnvC csc cl C env).kindOf x = (csc.names.lookup x).map fun k => if (k == NameKind.free && env.scope.kind == .function && env.kindOf x == some .cell) then NameKind.cell else k := lookup_relabel x csc.names
/-- the comprehension's block -/
theorem ScOk.comp (S : ScOk sc env) (F : Fine sc csc k) (hc : ∀ x, (x, NameKind.free) ∈ csc.names → cl.lookup x = env.cells.lookup x) : ScOk csc (compEnvC csc cl C env) := by
  have fr : ∀ x, csc.names.lookup x = some .free → (compEnvC csc cl C env).kindOf x = some .cell ∨ (compEnvC csc cl C env).kindOf x = some .free := fun x q => by
    rw [comp_kind, q, Option.map_some]
    split
    · exact .inl rfl
    · exact .inr rfl
  refine ⟨fun x h => ?_, fun x h => ?_, fun x h => ?_, nd_of F.nd⟩
  · rcases isLoc_inv h with q | q | q
    · refine .inl ?_; rw [comp_kind, q]; rfl
    · exact absurd rfl (F.cell _ (mem_lu q))
    · exact .inr (fr x q)
  · rw [comp_kind, isGlob_inv h]; rfl
  · rcases isCell_inv h with q | q
    · exact absurd rfl (F.cell _ (mem_lu q))
    · refine ⟨fr x q, ?_⟩
      obtain ⟨_, c, e⟩ := S.has x (F.free _ (mem_lu q) rfl)
      exact ⟨c, (hc x (mem_lu q)).trans e⟩
/-- the names of the block, the item at k -/
theorem LocR.comp {X : Cx} {ρ : List Addr} {h : Heap} {l : Loc} {m : Str → Option Value} {v : Value} {a : AV} (S : ScOk sc env) (F : Fine sc csc k) (r : LocR X ρ env h l)
    (h1 : ∀ q ∈ cl, env.cells.lookup q.1 = some q.2) (h2 : ∀ x, (x, NameKind.free) ∈ csc.names → cl.lookup x = env.cells.lookup x) (hn : h.Ns C m) (hv : m k = some v) (rv : Rep X ρ h v a) : LocR X ρ (compEnvC csc cl C env) h ((k, a) :: l) := by
  refine ⟨⟨m, hn, fun x b e h0 hk => ?_⟩, fun c hc => ?_, fun x b e hk => ?_⟩
  · rw [comp_kind] at hk
    cases q : csc.names.lookup x with
    | none => rw [q] at hk; cases hk
    | some kk =>
      rw [q] at hk
      simp only [Option.map_some, Option.some.injEq] at hk
      split at hk
      · cases hk
      · subst hk
        rcases (F.loc _ (mem_lu q) rfl).1 with z | z
        · have z : x = k := z
          subst z
          have e : (bif x == x then some a else getL x l) = some b := e
          rw [beq_self_eq_true] at e
          cases e
          exact ⟨v, hv, rv⟩
        · exact absurd z h0
  · obtain ⟨⟨y, d⟩, hq, rfl⟩ := List.mem_map.mp hc
    exact r.cell _ (cell_mem (h1 _ hq))
  · have hf : csc.names.lookup x = some .free := by
      cases q : csc.names.lookup x with
      | none => rw [comp_kind, q] at hk; rcases hk with hk | hk <;> cases hk
      | some kk =>
        by_cases hkk : kk = .free
        · rw [hkk]
        · have hb : (kk == NameKind.free) = false := beq_eq_false_iff_ne.mpr hkk
          rw [comp_kind, q] at hk
          simp only [Option.map_some, hb, Bool.false_and, Bool.false_eq_true, if_false, Option.some.injEq] at hk
          rcases hk with rfl | rfl
          · exact absurd rfl (F.cell _ (mem_lu q))
          · exact absurd rfl hkk
    have hxk : (k == x) = false := beq_eq_false_iff_ne.mpr fun z => by subst z; rw [F.kl] at hf; cases hf
    have e : (bif k == x then some a else getL x l) = some b := e
    rw [hxk] at e
    obtain ⟨c, v', e1, e2, e3⟩ := r.val x b e (S.has x (F.free _ (mem_lu hf) rfl)).1
    exact ⟨c, v', (h2 x (mem_lu hf)).trans e1, e2, e3⟩
theorem Ct.comp {X : Cx} {n : Nat} {A : Around} {es : List Env} {l : Loc} {ρ' : List Addr} {σ' : Sto} {s' : Shared} {m : Str → Option Value} {v : Value} {a : AV} (S : ScOk sc env) (F : Fine sc csc k) (c : Ct X n A env es ρ' l σ' s')
    (h1 : ∀ q ∈ cl, env.cells.lookup q.1 = some q.2) (h2 : ∀ x, (x, NameKind.free) ∈ csc.names → cl.lookup x = env.cells.lookup x) (hn : s'.heap.Ns C m) (hv : m k = some v) (rv : Rep X ρ' s'.heap v a) (hC : C ∉ ρ') (hCb : X.base.get? C = none) :
    Ct X n A (compEnvC csc cl C env) es ρ' ((k, a) :: l) σ' s' := by
  have sub : ∀ b ∈ own (compEnvC csc cl C env), b = C ∨ b ∈ own env := fun b hb => by
    rcases List.mem_cons.mp hb with h | h
    · exact .inl h
    · obtain ⟨⟨y, d⟩, hq, rfl⟩ := List.mem_map.mp h
      exact .inr (.tail _ (cell_mem (h1 _ hq)))
  exact ⟨c.toCl, F.kind, c.glob, c.blt, c.loc.comp S F h1 h2 hn hv rv, fun b hb => (sub b hb).elim (fun q => q ▸ hC) (c.ownr b), fun b hb => (sub b hb).elim (fun q => q ▸ hCb) (c.ownb b), c.frame⟩
end
end Mine

/- N13 -/
set_option tactic.hygienic false
/-! Mine: a comprehension. -/
namespace Mine
open PySem PySem.Spec PySem.Calls PyProof.Rows

/-- one turn -/
theorem cpS_inv {F : AV → Sto → Out (Option AV)} {src : Src} {m i : Nat} {acc xs : List AV} {σ σ₂ : Sto} (h : cpS F src m i acc σ = .ok xs σ₂) :
    ∃ m' x, m = m' + 1 ∧ srcAt σ i src = some x ∧ (x = none → acc = xs ∧ σ = σ₂) ∧ ∀ a, x = some a → ∃ y σ', F a σ = .ok y σ' ∧ (y = none → cpS F src m' (i + 1) acc σ' = .ok xs σ₂) ∧ ∀ z, y = some z → acc.length ≤ bigN ∧ cpS F src m' (i + 1) (acc ++ [z]) σ' = .ok xs σ₂ := by
  cases m with
  | zero => cases h
  | succ m =>
    unfold cpS at h
    cases hx : srcAt σ i src with
    | none => rw [hx] at h; cases h
    | some x =>
      rw [hx] at h
      refine ⟨m, x, rfl, rfl, fun q => ?_, fun a q => ?_⟩
      · subst q; cases h; exact ⟨rfl, rfl⟩
      · subst q
        cases hF : F a σ with
        | bad => simp only [hF] at h; cases h
        | exc c τ => simp only [hF] at h; cases h
        | ok y τ =>
          simp only [hF] at h
          refine ⟨y, τ, rfl, fun q => ?_, fun z q => ?_⟩
          · subst q; exact h
          · subst q
            obtain ⟨h1, h2⟩ := bif_inv (c := Nat.ble acc.length bigN) (x := cpS F src m (i + 1) (acc ++ [z]) τ) h
            exact ⟨Nat.le_of_ble_eq_true h1, h2⟩
theorem cpS_at {F : AV → Sto → Out (Option AV)} {src : Src} {m i : Nat} {acc xs : List AV} {σ σ₂ : Sto} (h : cpS F src m i acc σ = .ok xs σ₂) : ∃ x, srcAt σ i src = some x :=
  let ⟨_, x, _, e, _⟩ := cpS_inv h; ⟨x, e⟩

/-- the state between two turns -/
structure Lp (X : Cx) (ρ : List Addr) (s : Shared) (I D C : Addr) (src : Src) (i : Nat) (acc : List AV) (ρ' : List Addr) (σ' : Sto) (s' : Shared) : Prop where
  af : After X ρ s ρ' σ' s'
  it : It X ρ' s'.heap I i src
  is : ∃ vs, IsL s'.heap D vs ∧ RepAll X ρ' s'.heap vs acc ∧ vs.length ≤ bigN + 1
  ns : ∃ m, s'.heap.Ns C m
  offI : I ∉ ρ'
  offD : D ∉ ρ'
  offC : C ∉ ρ'
section
variable {X : Cx} {ρ : List Addr} {s : Shared} {I D C : Addr} {src : Src} {i : Nat} {acc : List AV} {ρ' ρ'' : List Addr} {σ' σ'' : Sto} {s' s'' : Shared} {h : Heap}
theorem Lp.after (L : Lp X ρ s I D C src i acc ρ' σ' s') (x : After X ρ' s' ρ'' σ'' s'') : Lp X ρ s I D C src i acc ρ'' σ'' s'' := by
  obtain ⟨oI, fs, eI, dI, _⟩ := L.it.rec'
  obtain ⟨vs, hl, ra, hz⟩ := L.is
  obtain ⟨oD, nD, eD, cD, _, dD⟩ := id hl
  obtain ⟨m, hn⟩ := L.ns
  obtain ⟨oC, es, ep, eC, dC, _⟩ := id hn
  exact ⟨L.af.trans x, L.it.at x.ext fun o e => (by rw [eI] at e; cases e; exact x.keep.fields eI L.offI dI), ⟨vs, hl.at fun o e => (by rw [eD] at e; cases e; exact x.keep.exact eD L.offD fun es j q => by rw [dD] at q; cases q), ra.mono x.keep L.af.wd.sok x.ext, hz⟩, ⟨m, Ns.keep x.keep L.offC hn⟩, x.notin L.offI eI, x.notin L.offD eD, x.notin L.offC eC⟩
end
theorem rep_ext {X : Cx} {ρ : List Addr} {h h' : Heap} {a : Addr} {v : Value} {x : AV} (hk : Heap.ExtBut a h h') (hm : ∀ o, h.get? a = some o → Loose o) (r : Rep X ρ h v x) : Rep X ρ h' v x := r.mono (Keep.ext hk) (.one hm) (.refl _)
theorem repAll_ext {X : Cx} {ρ : List Addr} {h h' : Heap} {a : Addr} {v : List Value} {x : List AV} (hk : Heap.ExtBut a h h') (hm : ∀ o, h.get? a = some o → Loose o) (r : RepAll X ρ h v x) : RepAll X ρ h' v x := r.mono (Keep.ext hk) (.one hm) (.refl _)

section
variable {A : Around} {s : Shared} {X : Cx} {n : Nat} {env : Env} {es : List Env} {ρ : List Addr} {l : Loc} {σ : Sto} {sc csc : Scope} {k : Str} {cl : List (Str × Addr)} {ifs : List Expr} {elt : Expr} {Ev₀ : Ev}

theorem ifs_ok (hT : TvS X n Ev₀.t) (S : ScOk sc env) (c : Ct X n A env es ρ l σ s) {R : Out Bool} (hR : (evIfsW Ev₀ sc ifs l σ).run = R) (hb : R ≠ .bad) :
    wpAny X.M A (forIn ifs true fun c r => if r = true then do let ok ← isTrue c env (eval c env); pure (ForInStep.yield ok) else pure (ForInStep.yield r)) (OkB X ρ s R) (ExV X ρ s R) s := by
  cases ifs with
  | nil => exact wpAny_pure ⟨true, σ, ρ, hR.symm, .refl c.wd, rfl⟩
  | cons e r =>
    obtain ⟨h1, hR⟩ := W.run_cond (show (W.cond r.isEmpty (Ev₀.t sc e l σ) .bad).run = R from hR) hb
    rw [List.isEmpty_iff.mp h1, List.forIn_cons]
    refine wpAny_bind ?_
    rw [if_pos rfl]
    exact wpAny_bind (wpAny_mono (hT e A sc env es ρ l σ s S c R hR hb) (fun v s' q => wpAny_pure (wpAny_pure q)) fun _ _ z => z)

theorem comp_loop {it : Expr} {px pos : Pos} {I D C : Addr} {src : Src} {xsF : List AV} {σ₂ : Sto} {R : Result → Shared → Prop} {m0 : Nat} {ρ₀ : List Addr} {σ₀ : Sto} {s₀ : Shared} (hE : EvS X n Ev₀.v) (hT : TvS X n Ev₀.t)
    (S : ScOk sc env) (F : Fine sc csc k) (h1 : ∀ q ∈ cl, env.cells.lookup q.1 = some q.2) (h2 : ∀ x, (x, NameKind.free) ∈ csc.names → cl.lookup x = env.cells.lookup x) (c : Ct X n A env es ρ l σ s)
    (fI : s.heap.get? I = none) (fD : s.heap.get? D = none) (fC : s.heap.get? C = none) (hID : I ≠ D) (hIC : I ≠ C) (hDC : D ≠ C)
    (hR : ∀ ρ' s' vs m, After X ρ s ρ' σ₂ s' → IsL s'.heap D vs → RepAll X ρ' s'.heap vs xsF → vs.length ≤ bigN + 1 → s'.heap.Ns C m → D ∉ ρ' → C ∉ ρ' → R (.ok .next) s')
    (run : cpS (fun v σ => (cpW Ev₀ csc ifs elt ((k, v) :: l) σ).run) src m0 0 [] σ₀ = .ok xsF σ₂) (L : Lp X ρ s I D C src 0 [] ρ₀ σ₀ s₀) :
    codeAny X.M A (.compLoop (.ListComp elt [⟨.Name k px, it, ifs, 0⟩] csc pos) 0 (.ref I) (.ref D) (compEnvC csc cl C env)) R s₀ := by
  have hk : (compEnvC csc cl C env).kindOf k = some .local := lookup_relabel_local F.kl
  have hp : ((compEnvC csc cl C env).scope.kind == .class || ((compEnvC csc cl C env).scope.kind == .module && (compEnvC csc cl C env).locals != (compEnvC csc cl C env).globals)) = false := by
    rw [show (compEnvC csc cl C env).scope.kind = .function from F.kind]; rfl
  refine codeAny_compLoop_tests (fun m s' => ∃ i acc ρ' σ', cpS (fun v σ => (cpW Ev₀ csc ifs elt ((k, v) :: l) σ).run) src m i acc σ' = .ok xsF σ₂ ∧ Lp X ρ s I D C src i acc ρ' σ' s') ?_ m0 ⟨0, [], ρ₀, σ₀, run, L⟩
  rintro m s' ⟨i, acc, ρ', σ', run, L⟩
  have c' := c.after L.af
  obtain ⟨m', x, rfl, hx, r0, r1⟩ := cpS_inv run
  obtain ⟨vs, hl', ra, hz⟩ := L.is
  obtain ⟨mm, hns⟩ := L.ns
  have mI : ∀ o, s'.heap.get? I = some o → Loose o := fun o e => L.it.mut e
  refine It.next c'.wd c'.hand L.it hx (fun hn h' hx => ?_) fun a ha h' tk v hx it' rv => ?_
  · have af : After X ρ s ρ' σ' { s' with heap := h' } := L.af.off1 c.wd.stays hx mI fI L.offI s'.toks
    obtain ⟨rfl, rfl⟩ := r0 hn
    exact hR ρ' _ vs mm af (hl'.at fun o e => hx _ o (Ne.symm hID) e) (repAll_ext hx mI ra) hz (hns.extBut hx (Ne.symm hIC)) L.offD L.offC
  · have af₁ : After X ρ s ρ' σ' { s' with heap := h', toks := tk } := L.af.off1 c.wd.stays hx mI fI L.offI tk
    have hns₁ := hns.extBut hx (Ne.symm hIC)
    refine wpAny_assign_Name (wpAny_storeName_local hk hns₁ (fun h₂ hn₂ hs₂ => ?_) hp)
    have hn₂ : h₂.Ns C _ := hn₂
    have hs₂ : Heap.SameBut C h' h₂ := hs₂
    have mC : ∀ o, h'.get? C = some o → Loose o := fun o e => Ns.mut hns₁ e
    have L₂ : Lp X ρ s I D C src (i + 1) acc ρ' σ' { s' with heap := h₂, toks := tk + 1 } :=
      ⟨af₁.off1 c.wd.stays hs₂.extBut mC fC L.offC _, it'.at (.refl _) fun o e => (hs₂.2 I hIC).trans e, ⟨vs, (hl'.at fun o e => hx _ o (Ne.symm hID) e).at fun o e => (hs₂.2 D hDC).trans e, repAll_ext hs₂.extBut mC (repAll_ext hx mI ra), hz⟩, ⟨_, hn₂⟩, L.offI, L.offD, L.offC⟩
    have c₂ : Ct X n A (compEnvC csc cl C env) es ρ' ((k, a) :: l) σ' { s' with heap := h₂, toks := tk + 1 } :=
      Ct.comp S F (c.after L₂.af) h1 h2 hn₂ (by simp) (rep_ext hs₂.extBut mC (rep_ext hx mI rv)) L.offC (c.wd.base fC)
    obtain ⟨y, σ₃, hF, q0, q1⟩ := r1 a ha
    have S' : ScOk csc (compEnvC csc cl C env) := S.comp F h2
    have hF : ((evIfsW Ev₀ csc ifs ((k, a) :: l) σ').bind fun b σ => .cond b ((Ev₀.v csc elt ((k, a) :: l) σ).bind fun y σ => .ok (some y) σ) (.ok Option.none σ)).run = .ok y σ₃ := hF
    have hne : (Out.ok y σ₃) ≠ .bad := fun q => by cases q
    refine wpAny_mono (lift (.refl c₂.wd) hF hne (fun r hr hb => ifs_ok hT S' c₂ hr hb) fun b σ₄ ρ₄ bv s₄ hF a₄ a₄' rb => ?_) (fun _ _ z => z) fun e s₄ hq => ?_
    · subst rb
      have L₄ := L₂.after a₄
      have c₄ := c₂.after a₄
      cases bv with
      | false =>
        rw [if_neg (by decide)]
        cases (show Out.ok Option.none σ₄ = .ok y σ₃ from hF)
        exact ⟨_, Nat.lt_succ_self _, i + 1, acc, ρ₄, _, q0 rfl, L₄⟩
      | true =>
        rw [if_pos rfl]
        refine wpAny_mono (lift (.refl c₄.wd) (show ((Ev₀.v csc elt ((k, a) :: l) σ₄).bind fun y σ => W.ok (some y) σ).run = .ok y σ₃ from hF) hne (hE elt A csc _ es ρ₄ _ σ₄ s₄ S' c₄) fun z σ₅ ρ₅ zv s₅ hF a₅ _ rz => ?_) (fun _ _ z => z) fun e s₅ hq => ?_
        · cases (show Out.ok (some z) σ₅ = .ok y σ₃ from hF)
          have L₅ := L₄.after a₅
          obtain ⟨vs₅, hl₅, ra₅, hz₅⟩ := L₅.is
          obtain ⟨m₅, hns₅⟩ := L₅.ns
          obtain ⟨hle, r⟩ := q1 z rfl
          refine list_append hl₅ hz₅ fun h₆ hl₆ hs₆ => ⟨_, Nat.lt_succ_self _, i + 1, acc ++ [z], ρ₅, _, r, ?_⟩
          have mD : ∀ o, s₅.heap.get? D = some o → Loose o := fun o e => hl₅.mut e
          exact ⟨L₅.af.off1 c.wd.stays hs₆.extBut mD fD L₅.offD s₅.toks, L₅.it.at (.refl _) fun o e => (hs₆.2 I hID).trans e, ⟨_, hl₆, repAll_ext hs₆.extBut mD (RepAll.append (.one rz) ra₅), by rw [List.length_append, ra₅.length]; exact Nat.succ_le_succ hle⟩, ⟨m₅, hns₅.extBut hs₆.extBut (Ne.symm hDC)⟩, L₅.offI, L₅.offD, L₅.offC⟩
        · obtain ⟨c, σ', ρ', e1, _⟩ := hq; cases e1
    · obtain ⟨c, σ', ρ', e1, _⟩ := hq; cases e1
end
end Mine

/- N14 -/
set_option tactic.hygienic false
/-! Mine: a comprehension, whole; expressions. -/
namespace Mine
open PySem PySem.Spec PySem.Calls PyProof.Rows

abbrev OkS (X : Cx) := OkG (fun ρ h v src => SrcV X ρ h v src) X

section
variable {A : Around} {E : Value → Shared → Prop} {s : Shared} {X : Cx} {P : Prog} {mg mb : Str → Option Value} {n : Nat} {env : Env} {es : List Env} {ρ : List Addr} {l : Loc} {σ : Sto} {sc csc : Scope} {k : Str} {ifs : List Expr} {elt : Expr} {Ev₀ : Ev}

theorem rangeX_inv {e : Expr} {g : Str} {as : List Expr} (h : rangeX e = some (g, as)) : ∃ p pos, e = .Call (.Name g p) as [] pos := by
  cases e with
  | Call f as' ks pos =>
    obtain ⟨g', h1, h2⟩ := Option.bind_eq_some_iff.mp h
    obtain ⟨p, rfl⟩ := nameX_inv h1
    cases ks with
    | nil => cases h2; exact ⟨p, pos, rfl⟩
    | cons _ _ => cases h2
  | _ => exact nomatch (show (none : Option (Str × List Expr)) = some (g, as) from h)
theorem src_ok {e : Expr} {R : Out Src} (G : Gd X P mg mb) (hE : EvS X n Ev₀.v) (S : ScOk sc env) (c : Ct X n A env es ρ l σ s) (hR : (evSrcW Ev₀ sc e l σ).run = R) (hb : R ≠ .bad) : wpAny X.M A (eval e env) (OkS X ρ s R) (ExV X ρ s R) s := by
  unfold evSrcW at hR
  cases hr : rangeX e with
  | some ga =>
    obtain ⟨g, as⟩ := ga
    rw [hr] at hR
    obtain ⟨p, pos, rfl⟩ := rangeX_inv hr
    obtain ⟨hc, hR2⟩ := W.run_cond (show (W.cond (isGlob sc g && g == "range") _ .bad).run = R from hR) hb
    clear hR
    have hg := Bool.and_eq_true_iff.mp hc
    have hs := evs_noStar rfl (bind_ne hR2 hb)
    have hgr : g = "range" := beq_iff_eq.mp hg.2
    subst hgr
    refine wpAny_Call_Name_kw (glob_name G S c hg.1 (.inr G.range) (PySem.callWith_type (spl_any hs) (args_ok hs (lift (.refl c.wd) hR2 hb (evsOk hE as pos A sc env es ρ l σ s S c) fun xs σ₁ ρ₁ vs s₁ hR a₁ _ r₁ => ?_))))
    obtain ⟨src, σ', e, rfl⟩ := W.run_op hR hb
    refine wpAny_mono (range_ok r₁ e) (fun v s₂ hq => ?_) fun _ _ z => z
    obtain ⟨h, tk, rfl, st, sv, rfl⟩ := hq
    exact ⟨src, _, ρ₁, rfl, a₁.trans (After.grow a₁.wd st tk), sv⟩
  | none =>
    rw [hr] at hR
    obtain ⟨_, hR⟩ := W.run_cond (show (W.cond (plainS e) _ .bad).run = R from hR) hb
    refine lift (.refl c.wd) hR hb (hE e A sc env es ρ l σ s S c) fun x σ₁ ρ₁ v s₁ hR a₁ _ r₁ => ?_
    obtain ⟨src, σ', e, rfl⟩ := W.run_op hR hb
    obtain ⟨rfl, sv⟩ := srcOf_ok r₁ e
    exact ⟨src, _, ρ₁, rfl, a₁, sv⟩
theorem src_fold {e : Expr} {R : Out Src} (hR : (evSrcW Ev₀ sc e l σ).run = R) (hb : R ≠ .bad) (x : Value) : foldedSetIterable e env x = pure x := by
  unfold evSrcW at hR
  cases hr : rangeX e with
  | some ga =>
    obtain ⟨g, as⟩ := ga
    obtain ⟨p, pos, rfl⟩ := rangeX_inv hr
    rfl
  | none =>
    rw [hr] at hR
    obtain ⟨h, _⟩ := W.run_cond (show (W.cond (plainS e) _ .bad).run = R from hR) hb
    cases e with
    | Name x p => rfl
    | Subscript a b p => rfl
    | _ => cases h

theorem comp_ok {it : Expr} {px pos fpos : Pos} {use : Option (Value → Sem Unit)} {Q : Value → Shared → Prop} {R : Out AV} (G : Gd X P mg mb) (hE : EvS X n Ev₀.v) (hT : TvS X n Ev₀.t)
    (S : ScOk sc env) (F : Fine sc csc k) (c : Ct X n A env es ρ l σ s)
    (hR : ((evSrcW Ev₀ sc it l σ).bind fun s σ => (W.op (cpS (fun v σ => (cpW Ev₀ csc ifs elt ((k, v) :: l) σ).run) s bigN 0 [] σ)).bind fun xs σ => .op (newL xs σ)).run = R) (hb : R ≠ .bad)
    (hK : ∀ xs σ₂ ρ' s' D C vs m, (W.op (newL xs σ₂)).run = R → After X ρ s ρ' σ₂ s' → s.heap.get? D = none → s.heap.get? C = none → D ≠ C → IsL s'.heap D vs → RepAll X ρ' s'.heap vs xs → vs.length ≤ bigN + 1 →
      s'.heap.Ns C m → D ∉ ρ' → C ∉ ρ' → compPost X.M A (ExV X ρ s R) use Q (.ref D) C (.ok .next) s') :
    wpAny X.M A (comprehension (.ListComp elt [⟨.Name k px, it, ifs, 0⟩] csc pos) csc env fpos (newList []) false (eval it env) use) Q (ExV X ρ s R) s := by
  obtain ⟨cl, hcl, h1, h2⟩ := closureFor_ok (env := env) (scope := csc) fun p hp e => (S.has p.1 (F.free p hp e)).2
  refine wpAny_comprehension_free (g := ⟨.Name k px, it, ifs, 0⟩) (gs := []) rfl (src_fold rfl (bind_ne hR hb)) hcl F.kind (fun x hx e => (F.loc x hx e).2) (lift (.refl c.wd) hR hb (fun r hr hb => src_ok G hE S c hr hb) fun src σ₁ ρ₁ v s₁ hR a₁ _ sv => ?_)
  rw [W.run_bind] at hR
  obtain ⟨xs, σ₂, run, e2⟩ := W.run_op (o := cpS (fun v σ => (cpW Ev₀ csc ifs elt ((k, v) :: l) σ).run) src bigN 0 [] σ₁) rfl fun q => hb (by rw [← hR, q]; rfl)
  rw [e2] at hR
  obtain ⟨x0, hx0⟩ := cpS_at run
  refine iter_ok a₁.wd sv hx0 fun h' st it0 => ?_
  refine wpAny_newObj_type (wpAny_newFunctionEnv F.cell (by intro y hy; simp at hy) (fun h₁ hns hsb => ?_) F.kind) (by size_fits)
  dsimp only at hns hsb ⊢
  generalize hH2 : h'.push { cls := .type "list", dict := none, data := .seq ([] : List Value).toArray } = H2 at hns hsb ⊢
  obtain ⟨oI, _, eI, _⟩ := it0.rec'
  have zC : H2.objs.size = h'.objs.size + 1 := by rw [← hH2, Heap.size_push]
  have ltI : s₁.heap.objs.size < h'.objs.size := Heap.lt_size eI
  have hID : s₁.heap.objs.size ≠ h'.objs.size := Nat.ne_of_lt ltI
  have hDC : h'.objs.size ≠ H2.objs.size := by rw [zC]; exact Nat.ne_of_lt (Nat.lt_succ_self _)
  have hIC : s₁.heap.objs.size ≠ H2.objs.size := by rw [zC]; exact Nat.ne_of_lt (Nat.lt_succ_of_lt ltI)
  have old : ∀ b o, h'.get? b = some o → h₁.get? b = some o := fun b o e => hsb.extBut b o (fun q => absurd (Heap.lt_size e) (by rw [q, zC]; exact Nat.not_lt.mpr (Nat.le_succ _))) (Heap.get?_push_of_some _ (hH2 ▸ Heap.get?_push_of_some _ e))
  have old' : s₁.heap.StaysIn h₁ := fun b o e => old b o (st b o e)
  have above : ∀ b, h'.objs.size ≤ b → s₁.heap.get? b = none := fun b hb => by
    cases q : s₁.heap.get? b with
    | none => rfl
    | some o => exact absurd (Heap.lt_size (st _ _ q)) (Nat.not_lt.mpr hb)
  have nD := above _ (Nat.le_refl _)
  have nC := above H2.objs.size (by rw [zC]; exact Nat.le_succ _)
  have hlD : IsL h₁ h'.objs.size [] := ⟨_, 0, hsb.extBut _ _ hDC (Heap.get?_push_of_some _ (hH2 ▸ Heap.get?_push_size _ rfl)), rfl, rfl, rfl⟩
  have L : ∀ tk, Lp X ρ s s₁.heap.objs.size h'.objs.size H2.objs.size src 0 [] ρ₁ σ₁ { s₁ with heap := h₁, toks := tk } := fun tk =>
    ⟨a₁.trans (After.grow a₁.wd old' tk), it0.at (.refl _) fun o e => old _ o e, ⟨[], hlD, .nil, Nat.zero_le _⟩, ⟨_, hns⟩, a₁.wd.off (size_none _), a₁.wd.off nD, a₁.wd.off nC⟩
  have loop : ∀ tk, codeAny X.M A (.compLoop (.ListComp elt [⟨.Name k px, it, ifs, 0⟩] csc pos) 0 (.ref s₁.heap.objs.size) (.ref h'.objs.size) (compEnvC csc cl H2.objs.size env)) (compPost X.M A (ExV X ρ s R) use Q (.ref h'.objs.size) H2.objs.size) { s₁ with heap := h₁, toks := tk } := fun tk =>
    comp_loop hE hT S F h1 h2 c (a₁.gone (size_none _)) (a₁.gone nD) (a₁.gone nC) hID hIC hDC (fun ρ' s' vs m af hl' ra hz hn oD oC => hK xs σ₂ ρ' s' _ _ vs m hR af (a₁.gone nD) (a₁.gone nC) hDC hl' ra hz hn oD oC) run (L tk)
  exact codeAny_compStart_list (loop _) ((L _).it.self (s := { s₁ with heap := h₁, toks := _ }) (loop _))

/-- what a comprehension's parts are -/
theorem compW_inv {g : Comprehension} {R : Out AV} (hR : (compW Ev₀ sc csc elt g l σ).run = R) (hb : R ≠ .bad) : ∃ k p it ifs, g = ⟨.Name k p, it, ifs, 0⟩ ∧ scopeFine sc csc k = true ∧
    ((evSrcW Ev₀ sc it l σ).bind fun s σ => (W.op (cpS (fun v σ => (cpW Ev₀ csc ifs elt ((k, v) :: l) σ).run) s bigN 0 [] σ)).bind fun xs σ => .op (newL xs σ)).run = R := by
  obtain ⟨k, hk, hR⟩ := W.run_opt hR hb
  obtain ⟨hc, hR⟩ := W.run_cond hR hb
  obtain ⟨tg, it, ifs, a⟩ := g
  obtain ⟨p, hp⟩ := nameX_inv hk
  have hc := Bool.and_eq_true_iff.mp hc
  have ha : a = 0 := beq_iff_eq.mp hc.1
  have hp : tg = .Name k p := hp
  subst ha hp
  exact ⟨k, p, it, ifs, rfl, hc.2, hR⟩
theorem listComp_ok {g : Comprehension} {pos : Pos} {R : Out AV} (G : Gd X P mg mb) (hE : EvS X n Ev₀.v) (hT : TvS X n Ev₀.t) (S : ScOk sc env) (c : Ct X n A env es ρ l σ s) (hR : (compW Ev₀ sc csc elt g l σ).run = R) (hb : R ≠ .bad) :
    wpAny X.M A (eval (.ListComp elt [g] csc pos) env) (OkV X ρ s R) (ExV X ρ s R) s := by
  obtain ⟨k, p, it, ifs, rfl, hf, hR⟩ := compW_inv hR hb
  rw [eval_ListComp]
  refine comp_ok G hE hT S (Fine.of hf) c hR hb ?_
  intro xs σ₂ ρ' s' D CC vs m hR af fD fC hDC hl ra hz hns oD oC
  refine ⟨m, hns, fun h' hs' => ?_⟩
  obtain ⟨a, σ', e, rfl⟩ := W.run_op hR hb
  obtain ⟨_, rfl, rfl⟩ := newL_inv e
  have hm : ∀ o, s'.heap.get? CC = some o → Loose o := fun o e => Ns.mut hns e
  have af' : After X ρ s ρ' σ₂ { s' with heap := h' } := af.off1 c.wd.stays hs'.extBut hm fC oC s'.toks
  exact ⟨_, _, _, rfl, af'.adopt (o := .list xs) oD fD (c.wd.base fD) ⟨vs, hl.at fun o e => (hs'.2 D hDC).trans e, hz, repAll_ext hs'.extBut hm ra⟩, ref_new af'.wd⟩
end
end Mine

/- N15 -/
set_option tactic.hygienic false
/-! Mine: expressions. -/
namespace Mine
open PySem PySem.Spec PySem.Calls PyProof.Rows
theorem allTrue_cons (op : BoolOp) (x : Expr) (rest : List Expr) (env : Env) : allTrue op (x :: rest) env = (do
    match op, ← isTrue x env (eval x env) with
    | .And, false => pure false
    | .Or, true => pure true
    | _, _ => allTrue op rest env) := rfl
theorem boolOp_two (pos : Pos) (op : BoolOp) (x y : Sem Value) (r : List (Sem Value)) : boolOp pos op (x :: y :: r) = (do
    let v ← x
    standAt pos
    let t ← holding [v] (truthy v)
    match op, t with
    | .And, false | .Or, true => pure v
    | _, _ => boolOp pos op (y :: r)) := rfl
theorem evalEach_cons (e : Expr) (r : List Expr) (env : Env) : evalEach (e :: r) env = eval e env :: evalEach r env := rfl
theorem notSet_marks {op : CmpOp} {b : Expr} (h : notSet b = true) : behindInMarks op b = false := by
  cases b with
  | Set a b c => cases h
  | _ => rfl

section
variable {A : Around} {E : Value → Shared → Prop} {s s₀ : Shared} {X : Cx} {P : Prog} {mg mb : Str → Option Value} {n : Nat} {env : Env} {es : List Env} {ρ ρ₀ : List Addr} {l : Loc} {σ σ' : Sto} {sc : Scope} {Ev₀ : Ev} {cf : Calls}

theorem const_ok {c : Const} {k : Nat} {pos : Pos} {a : AV} (W : Wd X ρ σ s.heap) (h : constA c = some a) : wpAny X.M A (eval (.Constant c k pos) env) (OkV X ρ s (.ok a σ)) E s := by
  cases c with
  | none => cases h; exact wpAny_Constant_none ⟨_, _, _, rfl, .refl W, rfl⟩
  | bool b => cases h; exact wpAny_Constant_bool ⟨_, _, _, rfl, .refl W, rfl⟩
  | int i => cases h; exact wpAny_Constant_int ⟨_, _, _, rfl, .tok W _, _, rfl⟩
  | str x =>
    have h : (bif PyData.strOk x then some (AV.str x) else Option.none) = some a := h
    cases hx : PyData.strOk x with
    | false => rw [hx] at h; cases h
    | true => rw [hx] at h; cases h; exact wpAny_Constant_str ⟨_, _, _, rfl, .tok W _, _, rfl⟩
  | _ => cases h
theorem tupA_ok {vs : List Value} {xs : List AV} {a : AV} (W : Wd X ρ σ s.heap) (ra : RepAll X ρ s.heap vs xs) (e : tupA xs σ = .ok a σ') : wpAny X.M A (newTuple vs) (Gv X ρ s a σ') E s := by
  obtain ⟨hc, e⟩ := bif_inv (c := Nat.ble xs.length bigN) (x := Out.ok (AV.tup xs) σ) e
  cases e
  have hl := Nat.le_of_ble_eq_true hc
  rw [← ra.length] at hl
  have af := After.grow W (push_stays _ { cls := .type "tuple", data := .seq vs.toArray }) s.toks
  refine wpAny_newObj_type ?_ (by show vs.toArray.size ≤ sizeLine; rw [List.size_toArray]; exact Nat.le_trans (Nat.le_succ_of_le hl) big_line)
  exact ⟨ρ, af, _, vs, rfl, hl, ⟨_, Heap.get?_push_size _ rfl, rfl, 0, rfl⟩, ra.mono af.keep W.sok af.ext⟩
theorem part_ok {v : Value} {a : AV} {p : Option Int} {h : Heap} (r : Rep X ρ h v a) (e : part? a = some p) : IsPartV v p := by
  cases a with
  | none => cases e; exact r
  | int i => cases e; exact r
  | _ => cases e
theorem slA_ok {u v : Value} {a b : AV} {R : Out AV} (x : After X ρ₀ s₀ ρ σ s) (hR : (W.op (slA a b σ)).run = R) (hb : R ≠ .bad) (ra : Rep X ρ s.heap u a) (rb : Rep X ρ s.heap v b) :
    OkV X ρ₀ s₀ R (.ref s.heap.objs.size) { s with heap := s.heap.push { cls := .type "slice", data := .fields #[u, v, .none] } } := by
  obtain ⟨r, σ', e, rfl⟩ := W.run_op hR hb
  obtain ⟨p, hp, e⟩ := optR_inv (show optR (part? a) _ = _ from e)
  obtain ⟨q, hq, e⟩ := optR_inv e
  cases e
  exact ⟨.sl p q, σ, ρ, rfl, x.trans (After.grow x.wd (push_stays _ _) s.toks), _, _, u, v, rfl, Heap.get?_push_size _ rfl, rfl, rfl, part_ok ra hp, part_ok rb hq⟩
theorem evOpt_ok {x : Option Expr} {R : Out AV} (hE : EvS X n Ev₀.v) (S : ScOk sc env) (c : Ct X n A env es ρ l σ s) (hR : (evOptW Ev₀ sc x l σ).run = R) (hb : R ≠ .bad) : wpAny X.M A (evalPart x env) (OkV X ρ s R) (ExV X ρ s R) s := by
  cases x with
  | none => exact wpAny_of_eq (evalPart_none env) ⟨.none, σ, ρ, hR.symm, .refl c.wd, rfl⟩
  | some e => rw [evalPart_some]; exact hE e A sc env es ρ l σ s S c R hR hb
theorem evBool_ok (hE : EvS X n Ev₀.v) (op : BoolOp) : ∀ (xs : List Expr) (pos : Pos) (A : Around) (sc : Scope) (env : Env) (es : List Env) (ρ : List Addr) (l : Loc) (σ : Sto) (s : Shared), ScOk sc env → Ct X n A env es ρ l σ s → ∀ R, (evBoolW Ev₀ sc op l xs σ).run = R → R ≠ .bad →
    wpAny X.M A (boolOp pos op (evalEach xs env)) (OkV X ρ s R) (ExV X ρ s R) s
  | [], pos, A, sc, env, es, ρ, l, σ, s, S, c, R, hR, hb => absurd hR.symm hb
  | [e], pos, A, sc, env, es, ρ, l, σ, s, S, c, R, hR, hb => hE e A sc env es ρ l σ s S c R hR hb
  | e :: f :: r, pos, A, sc, env, es, ρ, l, σ, s, S, c, R, hR, hb => by
    have ih := evBool_ok hE op (f :: r) pos A sc env es
    rw [evalEach_cons, evalEach_cons, boolOp_two]
    refine wpAny_bind (lift (.refl c.wd) (show ((Ev₀.v sc e l σ).bind _).run = R from hR) hb (hE e A sc env es ρ l σ s S c) fun x σ₁ ρ₁ v s₁ hR a₁ _ r₁ => ?_)
    refine wpAny_bind (wpAny_standAt (wpAny_bind (wpAny_holding ?_)))
    rw [W.run_bind] at hR
    obtain ⟨b, σ', ht, e2⟩ := W.run_op (o := truthO x σ₁) rfl fun q => hb (by rw [← hR, q]; rfl)
    rw [e2] at hR
    refine truthO_ok a₁.wd r₁ ht fun hσ t => ?_
    subst hσ
    have a₂ := a₁.trans (After.tok a₁.wd t)
    have c₂ := c.after a₂
    have fin' : ∀ R, R ≠ .bad → (evBoolW Ev₀ sc op l (f :: r) σ').run = R → wpAny X.M A (boolOp pos op (evalEach (f :: r) env)) (OkV X ρ s R) (ExV X ρ s R) { s₁ with toks := t } := fun R hb hR => by
      refine wpAny_mono (ih ρ₁ l σ' _ S c₂ R hR hb) (fun v s' q => ?_) fun e s' q => ?_
      · obtain ⟨y, σ', ρ', e1, e2, e3⟩ := q; exact ⟨y, σ', ρ', e1, a₂.trans e2, e3⟩
      · obtain ⟨y, σ', ρ', e1, e2, e3⟩ := q; exact ⟨y, σ', ρ', e1, a₂.trans e2, e3.lift fun _ h => a₂.gone h⟩
    cases op <;> cases b
    · exact wpAny_pure ⟨x, _, _, hR.symm, a₂, r₁⟩
    · exact fin' R hb hR
    · exact fin' R hb hR
    · exact wpAny_pure ⟨x, _, _, hR.symm, a₂, r₁⟩
theorem evTs_ok (hT : TvS X n Ev₀.t) (op : BoolOp) : ∀ (xs : List Expr) (A : Around) (sc : Scope) (env : Env) (es : List Env) (ρ : List Addr) (l : Loc) (σ : Sto) (s : Shared), ScOk sc env → Ct X n A env es ρ l σ s → ∀ R, (evTsW Ev₀ sc op l xs σ).run = R → R ≠ .bad →
    wpAny X.M A (allTrue op xs env) (OkB X ρ s R) (ExV X ρ s R) s
  | [], A, sc, env, es, ρ, l, σ, s, S, c, R, hR, hb => by
    refine wpAny_pure ⟨_, σ, ρ, hR.symm, .refl c.wd, ?_⟩
    cases op <;> rfl
  | e :: r, A, sc, env, es, ρ, l, σ, s, S, c, R, hR, hb => by
    have ih := evTs_ok hT op r A sc env es
    rw [allTrue_cons]
    refine wpAny_bind (lift (.refl c.wd) (show ((Ev₀.t sc e l σ).bind _).run = R from hR) hb (hT e A sc env es ρ l σ s S c) fun b σ₁ ρ₁ v s₁ hR a₁ _ r₁ => ?_)
    subst r₁
    have c₁ := c.after a₁
    have fin' : ∀ R, R ≠ .bad → (evTsW Ev₀ sc op l r σ₁).run = R → wpAny X.M A (allTrue op r env) (OkB X ρ s R) (ExV X ρ s R) s₁ := fun R hb hR => by
      refine wpAny_mono (ih ρ₁ l σ₁ _ S c₁ R hR hb) (fun v s' q => ?_) fun e s' q => ?_
      · obtain ⟨y, σ', ρ', e1, e2, e3⟩ := q; exact ⟨y, σ', ρ', e1, a₁.trans e2, e3⟩
      · obtain ⟨y, σ', ρ', e1, e2, e3⟩ := q; exact ⟨y, σ', ρ', e1, a₁.trans e2, e3.lift fun _ h => a₁.gone h⟩
    cases op <;> cases v
    · exact wpAny_pure ⟨_, _, _, hR.symm, a₁, rfl⟩
    · exact fin' R hb hR
    · exact fin' R hb hR
    · exact wpAny_pure ⟨_, _, _, hR.symm, a₁, rfl⟩

theorem evW_ok (G : Gd X P mg mb) (C : CallS X mg n cf) (hE : EvS X n Ev₀.v) (hT : TvS X n Ev₀.t) : EvS X n (evW P cf Ev₀) := by
  intro e A sc env es ρ l σ s S c R hR hb
  cases e with
  | Constant k j pos =>
    obtain ⟨a, h, hR⟩ := W.run_opt (show (optW (constA k) _).run = R from hR) hb
    subst hR
    exact const_ok c.wd h
  | Name x pos =>
    obtain ⟨a, h, hR⟩ := W.run_opt (show (optW (evName sc x l) _).run = R from hR) hb
    subst hR
    exact name_ok G S c h
  | BoolOp op vs pos => exact evBool_ok hE op vs pos A sc env es ρ l σ s S c R hR hb
  | BinOp a op b pos =>
    refine wpAny_BinOp (lift (.refl c.wd) (show ((Ev₀.v sc a l σ).bind _).run = R from hR) hb (hE a A sc env es ρ l σ s S c) fun x σ₁ ρ₁ v s₁ hR a₁ _ r₁ => ?_)
    refine lift a₁ hR hb (hE b A sc env es ρ₁ l σ₁ s₁ S (c.after a₁)) fun y σ₂ ρ₂ v' s₂ hR a₂ a₂' r₂ => ?_
    exact fin a₂ hR hb fun a σ' h => binop_ok a₂.wd (a₂'.rep a₁.wd r₁) r₂ h
  | UnaryOp op x pos =>
    exact wpAny_UnaryOp (lift (.refl c.wd) (show ((Ev₀.v sc x l σ).bind _).run = R from hR) hb (hE x A sc env es ρ l σ s S c) fun a σ₁ ρ₁ v s₁ hR a₁ _ r₁ => fin a₁ hR hb fun a σ' h => unop_ok a₁.wd r₁ h)
  | Dict ks vs pos =>
    obtain ⟨hc, hR⟩ := W.run_cond (show (W.cond (ks.isEmpty && vs.isEmpty) (.ok (.ref σ.length) (σ ++ [.dict []])) .bad).run = R from hR) hb
    have hc := Bool.and_eq_true_iff.mp hc
    rw [List.isEmpty_iff.mp hc.1, List.isEmpty_iff.mp hc.2]
    subst hR
    refine wpAny_Dict_empty ?_
    exact ⟨_, _, _, rfl, After.fresh (o := .dict []) c.wd (push_stays _ _) (size_none _) ⟨[], Heap.DictOf.new _, Nat.zero_le _, rfl, rfl⟩ s.toks, ref_new c.wd⟩
  | Compare a ops bs pos =>
    obtain ⟨op, h1, hR⟩ := W.run_opt (show (optW (one? ops) _).run = R from hR) hb
    obtain ⟨b, h2, hR⟩ := W.run_opt hR hb
    obtain ⟨hs, hR⟩ := W.run_cond hR hb
    rw [one_inv h1, one_inv h2]
    refine wpAny_Compare1 (lift (.refl c.wd) hR hb (hE a A sc env es ρ l σ s S c) fun x σ₁ ρ₁ v s₁ hR a₁ _ r₁ => ?_) (notSet_marks hs)
    refine lift a₁ hR hb (hE b A sc env es ρ₁ l σ₁ s₁ S (c.after a₁)) fun y σ₂ ρ₂ v' s₂ hR a₂ a₂' r₂ => ?_
    exact fin a₂ hR hb fun a σ' h => cmpop_ok G.sysm a₂.wd (a₂'.rep a₁.wd r₁) r₂ (by have := c.room.2; omega) h
  | Slice lo hi st pos =>
    obtain ⟨hc, hR⟩ := W.run_cond (show (W.cond st.isNone _ .bad).run = R from hR) hb
    rw [Option.isNone_iff_eq_none.mp hc]
    refine wpAny_Slice (lift (.refl c.wd) hR hb (fun r hr hb => evOpt_ok hE S c hr hb) fun x σ₁ ρ₁ v s₁ hR a₁ _ r₁ => ?_)
    refine lift a₁ hR hb (fun r hr hb => evOpt_ok hE S (c.after a₁) hr hb) fun y σ₂ ρ₂ v' s₂ hR a₂ a₂' r₂ => ?_
    exact wpAny_of_eq (evalPart_none env) (slA_ok a₂ hR hb (a₂'.rep a₁.wd r₁) r₂)
  | Subscript o i pos =>
    refine Subscript_ (lift (.refl c.wd) (show ((Ev₀.v sc o l σ).bind _).run = R from hR) hb (hE o A sc env es ρ l σ s S c) fun x σ₁ ρ₁ v s₁ hR a₁ _ r₁ => ?_)
    refine lift a₁ hR hb (hE i A sc env es ρ₁ l σ₁ s₁ S (c.after a₁)) fun y σ₂ ρ₂ v' s₂ hR a₂ a₂' r₂ => ?_
    exact fin a₂ hR hb fun a σ' h => item_ok a₂.wd (a₂'.rep a₁.wd r₁) r₂ h
  | Tuple xs k pos =>
    exact Tuple_ (lift (.refl c.wd) (show ((evsW Ev₀ sc l xs σ).bind _).run = R from hR) hb (evsOk hE xs pos A sc env es ρ l σ s S c) fun x σ₁ ρ₁ v s₁ hR a₁ _ r₁ => fin a₁ hR hb fun a σ' h => tupA_ok a₁.wd r₁ h)
  | List xs pos =>
    exact List_ (lift (.refl c.wd) (show ((evsW Ev₀ sc l xs σ).bind _).run = R from hR) hb (evsOk hE xs pos A sc env es ρ l σ s S c) fun x σ₁ ρ₁ v s₁ hR a₁ _ r₁ => fin a₁ hR hb fun a σ' h => newL_ok a₁.wd r₁ h)
  | ListComp elt gs csc pos =>
    obtain ⟨g, h1, hR⟩ := W.run_opt (show (optW (one? gs) _).run = R from hR) hb
    rw [one_inv h1]
    exact listComp_ok G hE hT S c hR hb
  | Call f args ks pos =>
    obtain ⟨hc, hR⟩ := W.run_cond (show (W.cond ks.isEmpty _ .bad).run = R from hR) hb
    rw [List.isEmpty_iff.mp hc]
    cases f with
    | Name g p =>
      obtain ⟨hg, hR⟩ := W.run_cond (show (W.cond (isGlob sc g && P.known g) _ .bad).run = R from hR) hb
      have hg := Bool.and_eq_true_iff.mp hg
      exact call_ok G C hE S c hg.1 hg.2 hR hb
    | Attribute o m apos => exact meth_ok hE S c hR hb
    | _ => exact absurd hR.symm hb
  | _ => exact absurd hR.symm hb
theorem evTW_ok (G : Gd X P mg mb) (hE : EvS X n Ev₀.v) (hT : TvS X n Ev₀.t) : TvS X n (evTW Ev₀) := by
  intro e A sc env es ρ l σ s S c R hR hb
  have fin' : ∀ {x : AV} {σ₁ : Sto} {ρ₁ : List Addr} {v : Value} {s₁ : Shared}, After X ρ s ρ₁ σ₁ s₁ → Rep X ρ₁ s₁.heap v x → (W.op (truthO x σ₁)).run = R → wpAny X.M A (truthy v) (OkB X ρ s R) (ExV X ρ s R) s₁ := fun a₁ r₁ hR => by
    obtain ⟨b, σ', e2, rfl⟩ := W.run_op hR hb
    refine truthO_ok a₁.wd r₁ e2 fun hσ t => ?_
    subst hσ
    exact ⟨b, _, _, rfl, a₁.trans (After.tok a₁.wd t), rfl⟩
  have go : ∀ {t : Sem Bool} {e : Expr} {p : Pos}, (W.cond (plainT e) ((Ev₀.v sc e l σ).bind fun v σ => W.op (truthO v σ)) .bad).run = R → t = (eval e env >>= fun v => standAt p >>= fun _ => holding [v] (truthy v)) → wpAny X.M A t (OkB X ρ s R) (ExV X ρ s R) s := fun {t e p} hR ht => by
    rw [ht]
    exact wpAny_bind (lift (.refl c.wd) (W.run_cond hR hb).2 hb (hE e A sc env es ρ l σ s S c) fun x σ₁ ρ₁ v s₁ hR a₁ _ r₁ => wpAny_bind (wpAny_standAt (wpAny_holding (fin' a₁ r₁ hR))))
  cases e with
  | UnaryOp op x pos =>
    cases op with
    | Not =>
      show wpAny _ A (isTrue x env (eval x env) >>= fun b => pure (!b)) _ _ s
      exact wpAny_bind (lift (.refl c.wd) (show ((Ev₀.t sc x l σ).bind fun b σ => W.ok (!b) σ).run = R from hR) hb (hT x A sc env es ρ l σ s S c) fun b σ₁ ρ₁ v s₁ hR a₁ _ r₁ => wpAny_pure ⟨_, _, _, hR.symm, a₁, by rw [r₁]⟩)
    | _ => exact absurd hR.symm hb
  | BoolOp op vs pos => exact evTs_ok hT op vs A sc env es ρ l σ s S c R hR hb
  | Compare a ops bs p =>
    obtain ⟨op, h1, hR⟩ := W.run_opt (show (optW (one? ops) _).run = R from hR) hb
    obtain ⟨b, h2, hR⟩ := W.run_opt hR hb
    obtain ⟨hs, hR⟩ := W.run_cond hR hb
    rw [one_inv h1, one_inv h2]
    refine wpAny_isTrue_Compare1 (lift (.refl c.wd) hR hb (hE a A sc env es ρ l σ s S c) fun x σ₁ ρ₁ v s₁ hR a₁ _ r₁ => ?_) (notSet_marks hs)
    refine lift a₁ hR hb (hE b A sc env es ρ₁ l σ₁ s₁ S (c.after a₁)) fun y σ₂ ρ₂ v' s₂ hR a₂ a₂' r₂ => ?_
    rw [W.run_bind] at hR
    obtain ⟨z, σ₃, e2, e3⟩ := W.run_op (o := cmpop op x y σ₂) rfl fun q => hb (by rw [← hR, q]; rfl)
    rw [e3] at hR
    refine wpAny_mono (cmpop_ok G.sysm a₂.wd (a₂'.rep a₁.wd r₁) r₂ (by have := c.room.2; omega) e2) (fun u s₃ g => ?_) fun _ _ z => z
    obtain ⟨ρ₃, a₃, r₃⟩ := g
    exact fin' (a₂.trans a₃) r₃ hR
  | Name x p => exact go (e := .Name x p) hR rfl
  | Subscript a b p => exact go (e := .Subscript a b p) hR rfl
  | Call a b d p => exact go (e := .Call a b d p) hR rfl
  | _ => exact absurd hR.symm hb
theorem lev_ok (G : Gd X P mg mb) (C : CallS X mg n cf) : ∀ k, EvS X n (lev P cf k).v ∧ TvS X n (lev P cf k).t
  | 0 => ⟨fun e A sc env es ρ l σ s S c R hR hb => absurd hR.symm hb, fun e A sc env es ρ l σ s S c R hR hb => absurd hR.symm hb⟩
  | k + 1 => ⟨evW_ok G C (lev_ok G C k).1 (lev_ok G C k).2, evTW_ok G (lev_ok G C k).1 (lev_ok G C k).2⟩
end
end Mine

/- N16 -/
set_option tactic.hygienic false
/-! Mine: statements' ground; raise. -/
namespace Mine
open PySem PySem.Spec PySem.Calls PyProof.Rows

theorem getL_setL (x y : Str) (a : AV) : ∀ (l : Loc), getL y (setL x a l) = bif x == y then some a else getL y l
  | [] => rfl
  | (z, b) :: r => by
    have ih := getL_setL x y a r
    have e1 : setL x a ((z, b) :: r) = bif z == x then (z, a) :: r else (z, b) :: setL x a r := rfl
    have e2 : ∀ (c : AV) (q : Loc), getL y ((z, c) :: q) = bif z == y then some c else getL y q := fun _ _ => rfl
    rw [e1, e2]
    cases hz : z == x with
    | true =>
      rw [← beq_iff_eq.mp hz]
      show getL y ((z, a) :: r) = _
      rw [e2]; cases z == y <;> rfl
    | false =>
      show getL y ((z, b) :: setL x a r) = _
      rw [e2, ih]
      cases hy : z == y with
      | false => rfl
      | true =>
        have : (x == y) = false := beq_eq_false_iff_ne.mpr fun q => by
          rw [beq_iff_eq.mp hy, q, beq_self_eq_true] at hz; cases hz
        rw [this]; rfl

/-- a function's own block -/
structure Sx (sc : Scope) (env : Env) : Prop where
  ok : ScOk sc env
  fn : ∀ x, isLoc sc x = true → env.kindOf x = some .local ∨ (env.kindOf x = some .cell ∧ ∃ c, env.cells.lookup x = some c)
  apart : env.cells.Pairwise fun x y => x.2 ≠ y.2
  frame : env.frame = some env.locals

noncomputable def FlowR (X : Cx) (ρ : List Addr) (h : Heap) : Flow → Fl → Prop
  | .next, .next => True
  | .ret v, .ret a => Rep X ρ h v a
  | _, _ => False
noncomputable def OkF (X : Cx) (env : Env) (ρ : List Addr) (s : Shared) (r : OutS) (f : Flow) (s' : Shared) : Prop := ∃ fl l' σ' ρ', r = .ok fl l' σ' ∧ Step X env ρ s ρ' σ' s' ∧ LocR X ρ' env s'.heap l' ∧ FlowR X ρ' s'.heap f fl
noncomputable def ExS (X : Cx) (env : Env) (ρ : List Addr) (s : Shared) (r : OutS) (e : Value) (s' : Shared) : Prop := ∃ c l' σ' ρ', r = .exc c l' σ' ∧ Step X env ρ s ρ' σ' s' ∧ LocR X ρ' env s'.heap l' ∧ Fly X s e s'

/-- an interpreter of statements is right -/
noncomputable def ExOk (X : Cx) (n : Nat) (ex : Ex) : Prop := ∀ (st : Stmt) (A : Around) (sc : Scope) (env : Env) (es : List Env) (ρ : List Addr) (l : Loc) (σ : Sto) (s : Shared), Sx sc env → Ct X n A env es ρ l σ s →
  ∀ R, (ex sc st l σ).run = R → R ≠ .bad → wpAny X.M A (exec st env) (OkF X env ρ s R) (ExS X env ρ s R) s

section
variable {X : Cx} {n : Nat} {A : Around} {env : Env} {es : List Env} {ρ ρ' : List Addr} {l l' : Loc} {σ σ' : Sto} {s s' : Shared} {h' : Heap} {a : Addr}
theorem Ct.step (c : Ct X n A env es ρ l σ s) (x : Step X env ρ s ρ' σ' s') (r : LocR X ρ' env s'.heap l') : Ct X n A env es ρ' l' σ' s' := by
  refine ⟨⟨x.wd, c.frames, c.frs.keep x.keep fun L hL => ?_, fun L hL q => ?_, c.room, c.hand⟩, c.kind, c.glob, c.blt, r, fun b hb q => ?_, c.ownb, c.frame⟩
  · by_cases q : L ∈ own env
    · refine .inr ?_
      rcases List.mem_cons.mp q with rfl | q
      · obtain ⟨m, ⟨o', es, n, e, d, _⟩, _⟩ := r.ns
        exact ⟨o', es, n, e, d⟩
      · exfalso
        obtain ⟨v₀, o', e, d⟩ := c.loc.cell L q
        obtain ⟨o, ds, k, f3, f4, _⟩ := c.frs.there hL
        rw [e] at f3; cases f3; rw [d] at f4; cases f4
    · exact .inl fun z => (List.mem_append.mp z).elim q (c.offr L hL)
  · obtain ⟨o, _, _, e, _⟩ := c.frs.there hL
    exact x.notin (c.offr L hL) e q
  · obtain ⟨o, e, _⟩ := c.loc.there b hb
    exact x.notin (c.ownr b hb) e q
theorem Step.own1 (c : Ct X n A env es ρ l σ s) (ha : a ∈ own env) (hs : Heap.SameBut a s.heap h') (ht : ∃ o, h'.get? a = some o) (t : Nat) : Step X env ρ s ρ σ { s with heap := h', toks := t } := by
  have k : Keep [a] s.heap h' := Keep.ext hs.extBut
  refine ⟨.refl _, fun b hb => .inl hb, c.wd.step k (.one fun o ho => c.loc.mut a ha o ho) (fun b o e => ?_) (fun b hb o e => (hs.2 b fun q => c.ownr a ha (q ▸ hb)).trans e), k.mono fun b hb => by rw [List.mem_singleton.mp hb]; exact List.mem_append_left _ ha, fun b e => ?_, ⟨_, _, rfl⟩⟩
  · refine (hs.2 b fun q => ?_).trans (c.wd.stays b o e)
    rw [q, c.ownb a ha] at e; cases e
  · by_cases q : b = a
    · obtain ⟨o, ho⟩ := ht; rw [q, ho] at e; cases e
    · exact (hs.2 b q).symm.trans e
end
theorem lookup_apart {l : List (Str × Addr)} (hp : l.Pairwise fun x y => x.2 ≠ y.2) {x y : Str} {c : Addr} (hx : l.lookup x = some c) (hy : l.lookup y = some c) : x = y := by
  have h1 := mem_lu hx
  have h2 := mem_lu hy
  clear hx hy
  induction l with
  | nil => cases h1
  | cons p r ih =>
    rw [List.pairwise_cons] at hp
    rcases List.mem_cons.mp h1 with e1 | e1 <;> rcases List.mem_cons.mp h2 with e2 | e2
    · rw [← e1] at e2; cases e2; rfl
    · exact absurd (by rw [← e1]) (hp.1 _ e2)
    · exact absurd (by rw [← e2]) (hp.1 _ e1)
    · exact ih hp.2 e1 e2

section
variable {M : Model} {A : Around} {E : Value → Shared → Prop} {s : Shared} {X : Cx} {n : Nat} {env : Env} {es : List Env} {ρ : List Addr} {l : Loc} {σ : Sto} {sc : Scope}
theorem store_ok {x : Str} {v : Value} {a : AV} {A' : Around} (S : Sx sc env) (c : Ct X n A' env es ρ l σ s) (hx : isLoc sc x = true) (rv : Rep X ρ s.heap v a) {Q : Unit → Shared → Prop}
    (hQ : ∀ h' t, Step X env ρ s ρ σ { s with heap := h', toks := t } → LocR X ρ env h' (setL x a l) → Q () { s with heap := h', toks := t }) : wpAny M A (storeName env x v) Q E s := by
  have hp : (env.scope.kind == .class || (env.scope.kind == .module && env.locals != env.globals)) = false := by rw [c.kind]; rfl
  obtain ⟨m, hn, fm⟩ := c.loc.ns
  have hdict : ∀ cl ∈ env.cells.map (·.2), cl ≠ env.locals := fun cl hcl q => by
    obtain ⟨v₀, o', e, d⟩ := c.loc.cell cl hcl
    obtain ⟨o, es, ep, e', d', _⟩ := id hn
    rw [q, e'] at e; cases e; rw [d'] at d; cases d
  have get : ∀ {y b}, getL y (setL x a l) = some b → (y = x ∧ b = a) ∨ (y ≠ x ∧ getL y l = some b) := fun {y b} e => by
    rw [getL_setL] at e
    cases q : x == y with
    | true => rw [q] at e; cases e; exact .inl ⟨(beq_iff_eq.mp q).symm, rfl⟩
    | false => rw [q] at e; exact .inr ⟨fun z => (by rw [z, beq_self_eq_true] at q; cases q), e⟩
  rcases S.fn x hx with k | ⟨k, cl, hc⟩
  · refine wpAny_storeName_local k hn (fun h' hn' hs => hQ h' _ (.own1 c (.head _) hs (let ⟨o, _, _, e, _⟩ := hn'; ⟨o, e⟩) _) ?_) hp
    have mv : ∀ {u b}, Rep X ρ s.heap u b → Rep X ρ h' u b := fun r => rep_ext hs.extBut (fun o e => Ns.mut hn e) r
    refine ⟨⟨_, hn', fun y b e h0 hy => ?_⟩, fun cl hcl => ?_, fun y b e hy => ?_⟩
    · rcases get e with ⟨rfl, rfl⟩ | ⟨q, e⟩
      · exact ⟨v, by simp, mv rv⟩
      · obtain ⟨u, hu, r⟩ := fm y b e h0 hy
        exact ⟨u, by simp [q, hu], mv r⟩
    · obtain ⟨v₀, o', e, d⟩ := c.loc.cell cl hcl
      exact ⟨v₀, o', (hs.2 cl (hdict cl hcl)).trans e, d⟩
    · rcases get e with ⟨rfl, rfl⟩ | ⟨q, e⟩
      · rw [k] at hy; rcases hy with hy | hy <;> cases hy
      · obtain ⟨cl, u, e1, ⟨o', e2, d⟩, r⟩ := c.loc.val y b e hy
        exact ⟨cl, u, e1, ⟨o', (hs.2 cl (hdict cl (cell_mem e1))).trans e2, d⟩, mv r⟩
  · have hm : cl ∈ env.cells.map (·.2) := cell_mem hc
    obtain ⟨v₀, hv₀⟩ := c.loc.cell cl hm
    refine wpAny_storeName_cell c.kind k hc hv₀ fun h' hc' hs => hQ h' s.toks (.own1 c (.tail _ hm) hs (let ⟨o, e, _⟩ := hc'; ⟨o, e⟩) _) ?_
    have mv : ∀ {u b}, Rep X ρ s.heap u b → Rep X ρ h' u b := fun r => rep_ext hs.extBut (fun o e => c.loc.mut cl (.tail _ hm) o e) r
    refine ⟨⟨m, hn.sameBut hs (Ne.symm (hdict cl hm)), fun y b e h0 hy => ?_⟩, fun cl' hcl' => ?_, fun y b e hy => ?_⟩
    · rcases get e with ⟨rfl, rfl⟩ | ⟨q, e⟩
      · rw [k] at hy; cases hy
      · obtain ⟨u, hu, r⟩ := fm y b e h0 hy
        exact ⟨u, hu, mv r⟩
    · by_cases q : cl' = cl
      · rw [q]; exact ⟨_, hc'⟩
      · obtain ⟨v₀, o', e, d⟩ := c.loc.cell cl' hcl'
        exact ⟨v₀, o', (hs.2 cl' q).trans e, d⟩
    · rcases get e with ⟨rfl, rfl⟩ | ⟨q, e⟩
      · exact ⟨cl, v, hc, hc', mv rv⟩
      · obtain ⟨cl', u, e1, ⟨o', e2, d⟩, r⟩ := c.loc.val y b e hy
        exact ⟨cl', u, e1, ⟨o', (hs.2 cl' fun z => q (lookup_apart S.apart e1 (z ▸ hc))).trans e2, d⟩, mv r⟩
end

/-! raise -/
section
variable {M : Model} {A : Around} {E : Value → Shared → Prop} {s : Shared} {env : Env}
variable {nm q : Str} {C N : Addr} {bs bm : List Value} {hdct : Bool} {sn : List Str} {sub : List Value} {ab : Bool} {col : Option Bool} {dd : Option Addr} {k0 k1 k2 k3 k5 : Option Value} {newId : String}
theorem raiseStmt_made {x : Sem Value} {Q : Flow → Shared → Prop} (hbase : bm.contains (.type "BaseException") = true)
    (h : wpAny M A x (fun v s₁ => ∃ e t, v = .ref e ∧ s₁.heap.get? C = some (excClassObj nm q C N bs bm hdct sn sub ab col dd k0 k1 k2 k3 k5 newId) ∧
      s₁.heap.get? e = some { cls := .ref C, data := .fields #[.ref t, .none, .none, .none, .bool false, .none] } ∧ wpAny M A (raiseNew (.ref e) : Sem Flow) Q E s₁) E s) :
    wpAny M A (raiseStmt env (some x) none) Q E s := by
  have hcB : (Value.ref C :: bm).contains (.type "BaseException") = true := by rw [List.contains_cons, hbase, Bool.or_true]
  unfold raiseStmt
  refine wpAny_bind (wpAny_mono h (fun v s₁ h₁ => ?_) fun _ _ x => x)
  obtain ⟨e, t, rfl, hC, he, hE⟩ := h₁
  obtain ⟨hp, g, d, tk, os⟩ := s₁
  repeat (first | with_reducible refine wpAny_loadPart_at he ?_ | with_reducible refine wpAny_loadPart_at hC ?_ | (with_reducible refine wpAny_isSubtype_exc hC ?_; rw [hcB]) | wp_step)
  exact hE
end
section
variable {A : Around} {s : Shared} {X : Cx} {P : Prog} {mg mb : Str → Option Value} {n : Nat} {env : Env} {es : List Env} {ρ : List Addr} {l : Loc} {σ : Sto} {sc : Scope}
theorem strX_inv {e : Expr} (h : strX e = true) : ∃ x k p, e = .Constant (.str x) k p := by
  cases e with
  | Constant v k p => cases v with
    | str x => exact ⟨x, k, p, rfl⟩
    | _ => exact (Bool.false_ne_true h).elim
  | _ => exact (Bool.false_ne_true h).elim
theorem raiseN_inv {e : Expr} {c : Str} (h : raiseN P sc e = some c) : (∃ np x k cp p, e = .Call (.Name c np) [.Constant (.str x) k cp] [] p) ∧ isGlob sc c = true ∧ P.cls c = true := by
  cases e with
  | Call f es ks p =>
    obtain ⟨c', h1, h0⟩ := Option.bind_eq_some_iff.mp h
    obtain ⟨x, h2, h5⟩ := Option.bind_eq_some_iff.mp h0
    clear h h0
    obtain ⟨np, rfl⟩ := nameX_inv h1
    cases hg : (isGlob sc c' && P.cls c' && (strX x && ks.isEmpty)) with
    | false => rw [hg] at h5; cases h5
    | true =>
      rw [hg] at h5
      cases h5
      have h3 := Bool.and_eq_true_iff.mp hg
      have h4 := Bool.and_eq_true_iff.mp h3.2
      obtain ⟨y, k, cp, rfl⟩ := strX_inv h4.1
      rw [one_inv h2, List.isEmpty_iff.mp h4.2]
      exact ⟨⟨np, y, k, cp, p, rfl⟩, Bool.and_eq_true_iff.mp h3.1⟩
  | _ => exact nomatch (show (none : Option Str) = some c from h)
theorem raise_ok {c : Str} {x : Str} {k : Nat} {np cp cpos pos : Pos} (G : Gd X P mg mb) (S : Sx sc env) (ct : Ct X n A env es ρ l σ s) (hg : isGlob sc c = true) (hc : P.cls c = true) :
    wpAny X.M A (exec (.Raise (some (.Call (.Name c np) [.Constant (.str x) k cp] [] cpos)) none pos) env) (OkF X env ρ s (.exc c l σ)) (ExS X env ρ s (.exc c l σ)) s := by
  obtain ⟨C, newId, bmB, Bn, inN, bmN, B, nid, initId, tv, O, Fn, hBn, F⟩ := G.cls c hc
  obtain ⟨bm, N, nm, q, bs, hdct, sn, sub, ab, col, dd, k0, k1, k2, k3, k5, mN, hC, hN, hni, T⟩ := O.obj
  rw [arm_exec_Raise]
  refine wpAny_bind (wpAny_standAt (raiseStmt_made (C := C) (nm := nm) (q := q) (N := N) (bs := bs) (bm := bm) (hdct := hdct) (sn := sn) (sub := sub) (ab := ab) (col := col) (dd := dd) (k0 := k0) (k1 := k1) (k2 := k2) (k3 := k3) (k5 := k5) (newId := newId) (T.hasType F.hasBase) ?_))
  refine wpAny_bind ?_
  refine wpAny_mono (Q := fun v s₁ => ∃ e t, v = .ref e ∧ s₁.heap.get? C = some (excClassObj nm q C N bs bm hdct sn sub ab col dd k0 k1 k2 k3 k5 newId) ∧
      s₁.heap.get? e = some { cls := .ref C, data := .fields #[.ref t, .none, .none, .none, .bool false, .none] } ∧ wpAny X.M A (raiseNew (.ref e) : Sem Flow) (OkF X env ρ s (.exc c l σ)) (ExS X env ρ s (.exc c l σ)) s₁) ?_ (fun v s₃ h₃ => wpAny_bind (wpAny_standAt (wpAny_pure h₃))) fun _ _ z => z
  show wpAny _ A (eval (.Call (.Name c np) [.Constant (.str x) k cp] [] cpos) env) _ _ s
  refine wpAny_Call_Name_kw (glob_name G S.ok ct hg (.inl O.bound) ?_)
  unfold callWith
  refine wpAny_bind (wpAny_holding (evalArgs_plain (spliced_cons (wpAny_Constant_str (k := k) (pos := cp) (spliced_nil ?_)))))
  refine wpAny_bind (wpAny_standAt ?_)
  have st := ct.wd.stays
  have hC₁ := st _ _ hC
  refine wpAny_bind (wpAny_keeperOf_exc hC₁ ?_)
  show wpAny _ A (call (.ref C) [.str x s.toks] >>= fun r => holding [r] point >>= fun _ => pure r) _ _ _
  refine wpAny_bind (wpAny_call_exc_subU (h := s.heap) Fn hBn F (T.keeps st) hC₁ (hN.keeps st) hni (fun h' e hm => wpAny_bind (wpAny_holding (wpAny_point (wpAny_pure ?_)))))
  obtain ⟨t, ht, _, _⟩ := hm.there
  refine ⟨e, t, rfl, hm.keeps _ _ hC₁, ht, ?_⟩
  have af : After X ρ s ρ σ { s with heap := h', toks := s.toks + 1 } := After.grow ct.wd hm.keeps _
  unfold raiseNew
  refine wpAny_bind (wpAny_handled ?_)
  rw [ct.hand]
  refine wpAny_bind (wpAny_pure (wpAny_throw ?_))
  exact ⟨c, l, σ, ρ, rfl, af.step, (ct.after af).loc, e, _, C, _, rfl, hm.new, ht, rfl, tv, rfl, (by decide : 1 < 6), .inl ⟨trivial, rfl⟩⟩
end
end Mine

/- N17 -/
set_option tactic.hygienic false
/-! Mine: loops. -/
namespace Mine
open PySem PySem.Spec PySem.Calls PyProof.Rows

theorem WS.run_of {α : Type} (x : W α) (l : Loc) (g : α → Sto → WS) : (WS.of x l g).run = pk (ktS.e l) x.run fun a σ => (g a σ).run := x.nat _ _ _
theorem WS.run_seq (x : WS) (g : Loc → Sto → WS) : (x.seq g).run = sk ktS x.run fun l σ => (g l σ).run := x.nat _ _ _
theorem WS.run_out (o : OutS) : (WS.out o).run = o := by
  cases o with
  | ok f l σ => cases f <;> rfl
  | _ => rfl
theorem WS.run_cond {b : Bool} {x : WS} {R : OutS} (h : (WS.cond b x .bad).run = R) (hb : R ≠ .bad) : b = true ∧ x.run = R := by
  cases b with
  | true => exact ⟨rfl, h⟩
  | false => exact absurd h.symm hb
theorem WS.run_opt {β : Type} {r : Option β} {f : β → WS} {R : OutS} (h : (optS r f).run = R) (hb : R ≠ .bad) : ∃ y, r = some y ∧ (f y).run = R := by
  cases r with
  | some y => exact ⟨y, rfl, h⟩
  | none => exact absurd h.symm hb

section
variable {A : Around} {s s₀ : Shared} {X : Cx} {n : Nat} {env : Env} {es : List Env} {ρ ρ₀ : List Addr} {l : Loc} {σ σ₀ : Sto} {sc : Scope} {Ev₀ : Ev} {Ex₀ : Ex}
theorem of_ne {α : Type} {x : W α} {g : α → Sto → WS} {R : OutS} (h : (WS.of x l g).run = R) (hb : R ≠ .bad) : x.run ≠ .bad := fun q => hb (by rw [← h, WS.run_of, q]; rfl)
theorem liftS {α γ : Type} {Rl : List Addr → Heap → α → γ → Prop} {t : Sem α} {x : W γ} {g : γ → Sto → WS} {R : OutS} {K : α → Shared → Prop} (c₀ : Ct X n A env es ρ₀ l σ₀ s₀) (a₀ : After X ρ₀ s₀ ρ σ s) (hR : (WS.of x l g).run = R) (hb : R ≠ .bad)
    (h : ∀ r, x.run = r → r ≠ .bad → wpAny X.M A t (OkG Rl X ρ s r) (ExV X ρ s r) s)
    (hK : ∀ a σ' ρ' v s', (g a σ').run = R → After X ρ₀ s₀ ρ' σ' s' → After X ρ s ρ' σ' s' → Rl ρ' s'.heap v a → K v s') : wpAny X.M A t K (ExS X env ρ₀ s₀ R) s := by
  have hne := of_ne hR hb
  rw [WS.run_of] at hR
  refine wpAny_mono (h _ rfl hne) (fun v s' q => ?_) fun e s' q => ?_
  · obtain ⟨a, σ', ρ', e1, e2, e3⟩ := q
    exact hK a σ' ρ' v s' (by rw [e1] at hR; exact hR) (a₀.trans e2) e2 e3
  · obtain ⟨c, σ', ρ', e1, e2, e3⟩ := q
    have af := a₀.trans e2
    exact ⟨c, l, σ', ρ', by rw [e1] at hR; exact hR.symm, af.step, (c₀.after af).loc, e3.lift fun _ h => a₀.gone h⟩
theorem stepF {t : Sem Flow} {r : OutS} (h : wpAny X.M A t (OkF X env ρ s r) (ExS X env ρ s r) s) (x : Step X env ρ₀ s₀ ρ σ s) : wpAny X.M A t (OkF X env ρ₀ s₀ r) (ExS X env ρ₀ s₀ r) s := by
  refine wpAny_mono h (fun f s₁ hq => ?_) fun e s₁ hq => ?_
  · obtain ⟨fl, l₁, σ₁, ρ₁, e₁, st₁, lr₁, hf⟩ := hq
    exact ⟨fl, l₁, σ₁, ρ₁, e₁, x.trans st₁, lr₁, hf⟩
  · obtain ⟨cc, l₁, σ₁, ρ₁, e₁, st₁, lr₁, fl⟩ := hq
    exact ⟨cc, l₁, σ₁, ρ₁, e₁, x.trans st₁, lr₁, fl.lift fun _ h => x.gone _ h⟩
/-- a block -/
theorem exs_ok (hX : ExOk X n Ex₀) : ∀ (sts : List Stmt) (A : Around) (sc : Scope) (env : Env) (es : List Env) (ρ : List Addr) (l : Loc) (σ : Sto) (s : Shared), Sx sc env → Ct X n A env es ρ l σ s → ∀ R, (exsW Ex₀ sc sts l σ).run = R → R ≠ .bad →
    wpAny X.M A (execs sts env) (OkF X env ρ s R) (ExS X env ρ s R) s
  | [], A, sc, env, es, ρ, l, σ, s, S, c, R, hR, hb => wpAny_execs_nil ⟨.next, l, σ, ρ, hR.symm, .refl c.wd, c.loc, trivial⟩
  | st :: r, A, sc, env, es, ρ, l, σ, s, S, c, R, hR, hb => by
    have ih := exs_ok hX r A sc env es
    have hR : ((Ex₀ sc st l σ).seq fun l σ => exsW Ex₀ sc r l σ).run = R := hR
    rw [WS.run_seq] at hR
    refine wpAny_execs_cons (wpAny_mono (hX st A sc env es ρ l σ s S c _ rfl fun q => hb (by rw [← hR, q]; rfl)) (fun f s₁ hq => ?_) fun e s₁ hq => ?_)
    · obtain ⟨fl, l₁, σ₁, ρ₁, e₁, st₁, lr₁, hf⟩ := hq
      rw [e₁] at hR
      cases fl with
      | next =>
        cases f with
        | next => exact stepF (ih ρ₁ l₁ σ₁ s₁ S (c.step st₁ lr₁) R hR hb) st₁
        | _ => exact hf.elim
      | ret v =>
        cases f with
        | ret u => exact ⟨.ret v, l₁, σ₁, ρ₁, hR.symm, st₁, lr₁, hf⟩
        | _ => exact hf.elim
    · obtain ⟨cc, l₁, σ₁, ρ₁, e₁, st₁, lr₁, fl⟩ := hq
      rw [e₁] at hR
      exact ⟨cc, l₁, σ₁, ρ₁, hR.symm, st₁, lr₁, fl⟩

theorem whileG_inv {T : Loc → Sto → Out Bool} {B : Loc → Sto → OutS} {m : Nat} {R : OutS} (h : whileG T B m l σ = R) (hb : R ≠ .bad) :
    ∃ m' b σ₁, m = m' + 1 ∧ T l σ = .ok b σ₁ ∧ (b = false → R = .ok .next l σ₁) ∧ (b = true → ∃ l' σ', B l σ₁ = .ok .next l' σ' ∧ whileG T B m' l' σ' = R) := by
  cases m with
  | zero => exact absurd h.symm hb
  | succ m =>
    unfold whileG at h
    cases hT : T l σ with
    | bad => rw [hT] at h; exact absurd h.symm hb
    | exc c τ => rw [hT] at h; exact absurd h.symm hb
    | ok b σ₁ =>
      simp only [hT] at h
      refine ⟨m, b, σ₁, rfl, rfl, fun q => ?_, fun q => ?_⟩
      · subst q; exact h.symm
      · subst q
        cases hB : B l σ₁ with
        | bad => simp only [hB, cond_true] at h; exact absurd h.symm hb
        | exc c l' τ => simp only [hB, cond_true] at h; exact absurd h.symm hb
        | ok f l' τ =>
          simp only [hB, cond_true] at h
          cases f with
          | next => exact ⟨l', τ, rfl, h⟩
          | ret v => exact absurd h.symm hb
theorem while_ok {t : Expr} {b : List Stmt} {pos : Pos} {f : Nat} {R : OutS} (hT : TvS X n Ev₀.t) (hX : ExOk X n Ex₀) (S : Sx sc env) (c : Ct X n A env es ρ l σ s)
    (hR : whileG (fun l σ => (Ev₀.t sc t l σ).run) (fun l σ => (exsW Ex₀ sc b l σ).run) f l σ = R) (hb : R ≠ .bad) : wpAny X.M A (exec (.While t b [] pos) env) (OkF X env ρ s R) (ExS X env ρ s R) s := by
  refine wpAny_While (codeAny_whileLoop (fun m s' => ∃ l' σ' ρ', whileG (fun l σ => (Ev₀.t sc t l σ).run) (fun l σ => (exsW Ex₀ sc b l σ).run) m l' σ' = R ∧ Step X env ρ s ρ' σ' s' ∧ LocR X ρ' env s'.heap l') ?_ f ⟨l, σ, ρ, hR, .refl c.wd, c.loc⟩)
  rintro m s' ⟨l', σ', ρ', run, st, lr⟩
  have c' := c.step st lr
  obtain ⟨m', bb, σ₁, rfl, hT1, h0, h1⟩ := whileG_inv run hb
  refine wpAny_mono (hT t A sc env es ρ' l' σ' s' S.ok c' _ hT1 fun q => by cases q) (fun bv s₂ hq => ?_) fun x s₂ hq => ?_
  · obtain ⟨b', σ₃, ρ₃, e3, af, eb⟩ := hq
    cases e3
    cases bb with
    | false =>
      rw [show bv = false from eb, if_neg (by decide)]
      exact wpAny_execs_nil ⟨.next, _, _, ρ₃, h0 rfl, st.trans af.step, (c'.after af).loc, trivial⟩
    | true =>
      rw [show bv = true from eb, if_pos rfl]
      obtain ⟨l₂, σ₂, hB, run⟩ := h1 rfl
      refine wpAny_mono (exs_ok hX b A sc env es ρ₃ l' _ s₂ S (c'.after af) _ hB fun q => by cases q) (fun fl s₃ hq => ?_) fun x s₃ hq => ?_
      · obtain ⟨f', l₃, σ₄, ρ₄, e4, st₄, lr₄, hf⟩ := hq
        cases e4
        cases fl with
        | next => exact ⟨_, Nat.lt_succ_self _, _, _, ρ₄, run, (st.trans af.step).trans st₄, lr₄⟩
        | _ => exact hf.elim
      · obtain ⟨c, l', σ', ρ', e1, _⟩ := hq; cases e1
  · obtain ⟨c, σ', ρ', e1, _⟩ := hq; cases e1

/-- the state between two turns of a for -/
structure FLp (X : Cx) (env : Env) (ρ : List Addr) (s : Shared) (I : Addr) (src : Src) (i : Nat) (l' : Loc) (ρ' : List Addr) (σ' : Sto) (s' : Shared) : Prop where
  st : Step X env ρ s ρ' σ' s'
  loc : LocR X ρ' env s'.heap l'
  it : It X ρ' s'.heap I i src
  off : I ∉ ρ'
  offo : I ∉ own env
theorem FLp.step {I : Addr} {src : Src} {i : Nat} {l' l'' : Loc} {ρ' ρ'' : List Addr} {σ' σ'' : Sto} {s' s'' : Shared} (L : FLp X env ρ s I src i l' ρ' σ' s') (x : Step X env ρ' s' ρ'' σ'' s'') (r : LocR X ρ'' env s''.heap l'') : FLp X env ρ s I src i l'' ρ'' σ'' s'' := by
  obtain ⟨oI, fs, eI, dI, _⟩ := L.it.rec'
  exact ⟨L.st.trans x, r, L.it.at x.ext fun o e => (by rw [eI] at e; cases e; exact x.keep.fields eI (fun q => (List.mem_append.mp q).elim L.offo L.off) dI), x.notin L.off eI, L.offo⟩
/-- an exception out of a loop's turn -/
theorem exc_out {A' : Around} {ρ' : List Addr} {l' : Loc} {σ' : Sto} {s' : Shared} {c : Str} {e : Value} {R : OutS} (S : Sx sc env) (ct : Ct X n A env es ρ l σ s) (c' : Ct X n A env es ρ' l' σ' s') (st : Step X env ρ s ρ' σ' s') (fl : Fly X s e s') (hR : R = .exc c l' σ') (hA : A'.frames = A.frames) :
    notedBy X.M A' env (cameBackBy X.M A env (ExS X env ρ s R)) e s' := by
  obtain ⟨hv, r, e1, e2⟩ := c'.frame
  have hF : ∀ L ∈ fra es, L ∉ ρ' ∧ X.base.get? L = none := fun L hL => ⟨c'.offr L hL, let ⟨_, _, _, _, _, q⟩ := c'.frs.there hL; q⟩
  subst e1
  refine cameBack_ok (hA.trans c'.frames) e2 c'.frs S.frame (fun b h => st.gone b h) fl fun s'' q => ?_
  obtain ⟨f, h', rfl, t⟩ := q
  exact ⟨c, l', σ', ρ', hR, st.turn ct.wd.stays t hF s'.toks, c'.loc.turn t, f.weak⟩
theorem forS_inv {B : AV → Loc → Sto → OutS} {src : Src} {m i : Nat} {R : OutS} (h : forS B src m i l σ = R) (hb : R ≠ .bad) :
    ∃ m' x, m = m' + 1 ∧ srcAt σ i src = some x ∧ (x = none → R = .ok .next l σ) ∧ ∀ v, x = some v → B v l σ ≠ .bad ∧ (∀ l' σ', B v l σ = .ok .next l' σ' → forS B src m' (i + 1) l' σ' = R) ∧ (∀ u l' σ', B v l σ = .ok (.ret u) l' σ' → R = .ok (.ret u) l' σ') ∧ ∀ c l' σ', B v l σ = .exc c l' σ' → R = .exc c l' σ' := by
  cases m with
  | zero => exact absurd h.symm hb
  | succ m =>
    unfold forS at h
    cases hx : srcAt σ i src with
    | none => rw [hx] at h; exact absurd h.symm hb
    | some x =>
      rw [hx] at h
      refine ⟨m, x, rfl, rfl, fun q => ?_, fun v q => ?_⟩
      · subst q; exact h.symm
      · subst q
        have h : andThen (B v l σ) (forS B src m (i + 1)) = R := h
        refine ⟨fun q => hb (by rw [← h, q]; rfl), fun l' σ' q => ?_, fun u l' σ' q => ?_, fun c l' σ' q => ?_⟩
        · rw [q] at h; exact h
        · rw [q] at h; exact h.symm
        · rw [q] at h; exact h.symm
theorem for_ok {P : Prog} {mg mb : Str → Option Value} {it : Expr} {x : Str} {px pos : Pos} {b : List Stmt} {R : OutS} (G : Gd X P mg mb) (hE : EvS X n Ev₀.v) (hX : ExOk X n Ex₀) (S : Sx sc env) (c : Ct X n A env es ρ l σ s) (hx : isLoc sc x = true)
    (hR : (WS.of (evSrcW Ev₀ sc it l σ) l fun s σ => .out (forS (fun v l σ => (exsW Ex₀ sc b (setL x v l) σ).run) s bigN 0 l σ)).run = R) (hb : R ≠ .bad) :
    wpAny X.M A (exec (.For (.Name x px) it b [] pos) env) (OkF X env ρ s R) (ExS X env ρ s R) s := by
  refine wpAny_For ?_ (src_fold rfl (of_ne hR hb))
  refine liftS c (.refl c.wd) hR hb (fun r hr hb => src_ok G hE S.ok c hr hb) fun src σ₁ ρ₁ v s₁ hR a₁ _ sv => ?_
  rw [WS.run_out] at hR
  obtain ⟨_, x0, _, hx0, _⟩ := forS_inv hR hb
  refine iter_ok a₁.wd sv hx0 fun h' st it0 => ?_
  obtain ⟨oI, fsI, eI, dI, _⟩ := it0.rec'
  have a₂ : After X ρ s ρ₁ σ₁ { s₁ with heap := h' } := a₁.trans (After.grow a₁.wd st s₁.toks)
  have c₂ := c.after a₂
  have L0 : FLp X env ρ s s₁.heap.objs.size src 0 l ρ₁ σ₁ { s₁ with heap := h' } := ⟨a₂.step, c₂.loc, it0, c₂.wd.record eI dI, c₂.loc.record eI dI⟩
  have fI := a₁.gone (size_none s₁.heap)
  refine codeAny_forLoop (fun m s' => ∃ i l' ρ' σ', forS (fun v l σ => (exsW Ex₀ sc b (setL x v l) σ).run) src m i l' σ' = R ∧ FLp X env ρ s s₁.heap.objs.size src i l' ρ' σ' s') ?_ bigN ⟨0, l, ρ₁, σ₁, hR, L0⟩
  rintro m s' ⟨i, l', ρ', σ', run, L⟩
  have c' := c.step L.st L.loc
  obtain ⟨m', y, rfl, hy, h0, h1⟩ := forS_inv run hb
  have hm : ∀ o, s'.heap.get? s₁.heap.objs.size = some o → Loose o := fun o e => L.it.mut e
  refine It.next c'.wd c'.hand L.it hy (fun hn h' hx => ?_) fun a ha h' tk v hx' it' rv => ?_
  · exact wpAny_execs_nil ⟨.next, l', σ', ρ', h0 hn, L.st.off1 c.wd.stays hx hm fI L.off s'.toks, L.loc.off1 hx hm L.offo, trivial⟩
  · have st₁ : Step X env ρ s ρ' σ' { s' with heap := h', toks := tk } := L.st.off1 c.wd.stays hx' hm fI L.off tk
    have lr₁ := L.loc.off1 hx' hm L.offo
    have L₁ : FLp X env ρ s s₁.heap.objs.size src (i + 1) l' ρ' σ' { s' with heap := h', toks := tk } := ⟨st₁, lr₁, it', L.off, L.offo⟩
    refine wpAny_assign_Name (store_ok S (c.step st₁ lr₁) hx (rep_ext hx' hm rv) fun h₂ t₂ st₂ lr₂ => ?_)
    have L₂ := L₁.step st₂ lr₂
    obtain ⟨hne, k1, k2, k3⟩ := h1 a ha
    refine wpAny_mono (exs_ok hX b A sc env es ρ' (setL x a l') σ' _ S (c.step L₂.st L₂.loc) _ rfl hne) (fun f s₃ hq => ?_) fun e s₃ hq => ?_
    · obtain ⟨fl, l₃, σ₃, ρ₃, e3, st₃, lr₃, hf⟩ := hq
      have L₃ := L₂.step st₃ lr₃
      cases f with
      | next =>
        cases fl with
        | next => exact ⟨_, Nat.lt_succ_self _, i + 1, _, ρ₃, _, k1 _ _ e3, L₃⟩
        | ret a => exact hf.elim
      | ret v =>
        cases fl with
        | ret a => exact ⟨.ret a, l₃, σ₃, ρ₃, k2 _ _ _ e3, L₃.st, L₃.loc, hf⟩
        | next => exact hf.elim
      | _ => exact hf.elim
    · obtain ⟨cc, l₃, σ₃, ρ₃, e3, st₃, lr₃, fl⟩ := hq
      have L₃ := L₂.step st₃ lr₃
      exact exc_out S c (c.step L₃.st L₃.loc) L₃.st (fl.lift fun _ h => L₂.st.gone _ h) (k3 _ _ _ e3) rfl
end
end Mine

/- N18 -/
set_option tactic.hygienic false
/-! Mine: try, assignments, statements. -/
namespace Mine
open PySem PySem.Spec PySem.Calls PyProof.Rows
section
variable {A : Around} {s s₀ : Shared} {X : Cx} {P : Prog} {mg mb : Str → Option Value} {n : Nat} {env : Env} {es : List Env} {ρ ρ₀ : List Addr} {l l₀ : Loc} {σ σ₀ : Sto} {sc : Scope} {Ev₀ : Ev} {Ex₀ : Ex}

theorem constX_inv {e : Expr} {c : Const} (h : constX e = some c) : ∃ k p, e = .Constant c k p := by
  cases e with
  | Constant v k p => cases h; exact ⟨k, p, rfl⟩
  | _ => exact nomatch (show (none : Option Const) = some c from h)
theorem setX_inv {st : Stmt} {xc : Str × Const} (h : setX sc st = some xc) : ∃ p k q pos, st = .Assign [.Name xc.1 p] (.Constant xc.2 k q) pos ∧ isLoc sc xc.1 = true := by
  cases st with
  | Assign ts e pos =>
    obtain ⟨t, h1, h2⟩ := Option.bind_eq_some_iff.mp h
    obtain ⟨x, h3, h4⟩ := Option.bind_eq_some_iff.mp h2
    obtain ⟨c, h5, h6⟩ := Option.bind_eq_some_iff.mp h4
    clear h h2 h4
    obtain ⟨p, rfl⟩ := nameX_inv h3
    obtain ⟨k, q, rfl⟩ := constX_inv h5
    cases hl : isLoc sc x with
    | false => rw [hl] at h6; cases h6
    | true => rw [hl] at h6; cases h6; rw [one_inv h1]; exact ⟨p, k, q, pos, rfl, hl⟩
  | _ => exact nomatch (show (none : Option (Str × Const)) = some xc from h)
theorem clauseX_inv {h : ExceptHandler} {xc : Str × Const} (e : clauseX P sc h = some xc) : ∃ tp st pos, h = .ExceptHandler (some (.Name P.top tp)) none [st] pos ∧ isGlob sc P.top = true ∧ setX sc st = some xc := by
  obtain ⟨ty, nm, b, pos⟩ := h
  obtain ⟨t, h1, e2⟩ := Option.bind_eq_some_iff.mp e
  obtain ⟨t', h3, e4⟩ := Option.bind_eq_some_iff.mp e2
  obtain ⟨st, h5, e6⟩ := Option.bind_eq_some_iff.mp e4
  clear e e2 e4
  obtain ⟨tp, rfl⟩ := nameX_inv h3
  cases hc : (t' == P.top && isGlob sc t' && nm.isNone) with
  | false => rw [hc] at e6; cases e6
  | true =>
    rw [hc] at e6
    have h6 := Bool.and_eq_true_iff.mp hc
    have h7 := Bool.and_eq_true_iff.mp h6.1
    have ht : t' = P.top := beq_iff_eq.mp h7.1
    have h1 : ty = some (.Name t' tp) := h1
    subst h1
    rw [ht] at h7 ⊢
    rw [Option.isNone_iff_eq_none.mp h6.2, one_inv h5]
    exact ⟨tp, st, pos, rfl, h7.2, e6⟩

theorem clause_ok {h : ExceptHandler} {xc : Str × Const} {e : Value} {R : OutS} (G : Gd X P mg mb) (S : Sx sc env) (ct₀ : Ct X n A env es ρ₀ l₀ σ₀ s₀) (st : Step X env ρ₀ s₀ ρ σ s) (lr : LocR X ρ env s.heap l) (f : FlyG X False s₀ e s)
    (hx : clauseX P sc h = some xc) (hR : (optS (constA xc.2) fun v => WS.next (setL xc.1 v l) σ).run = R) (hb : R ≠ .bad) :
    wpAny X.M A (handleBy e env [h]) (OkF X env ρ₀ s₀ R) (ExS X env ρ₀ s₀ R) s := by
  obtain ⟨tp, st', pos, rfl, hg, hx⟩ := clauseX_inv hx
  obtain ⟨p, k, q, pos', rfl, hl⟩ := setX_inv hx
  obtain ⟨a, ha, hR⟩ := WS.run_opt hR hb
  subst hR
  have ct := ct₀.step st lr
  obtain ⟨vt, hmt, hex⟩ := G.top
  obtain ⟨b, oe, C, vs, rfl, h2, h3, h4, h5, h6, h7, h9⟩ := id f
  refine wpAny_handleBy_cons (codeAny_handlers_test (glob_name G S.ok ct hg (.inl hmt) (hex _ _ s b oe C _ ct.wd.stays h3 h4 h5 ?_))) (by intro q; cases q)
  simp only [if_true]
  refine codeAny_handlers_suite (wpAny_mono (setFlight_ok (F := fra es) f) (fun _ s₁ hq => ?_) fun _ _ z => z)
  obtain ⟨f₁, h', rfl, t₁⟩ := hq
  have hF : ∀ L ∈ fra es, L ∉ ρ ∧ X.base.get? L = none := fun L hL => ⟨ct.offr L hL, let ⟨_, _, _, _, _, q⟩ := ct.frs.there hL; q⟩
  have st₁ : Step X env ρ₀ s₀ ρ σ { s with heap := h' } := st.turn ct₀.wd.stays t₁ hF s.toks
  have c₁ := ct₀.step st₁ (lr.turn t₁)
  refine wpAny_execs_cons (wpAny_Assign_Name (wpAny_mono (const_ok c₁.wd ha) (fun v s₂ hq => ?_) fun _ _ z => z) (show swapsWith _ _ _ _ = pure false from rfl))
  obtain ⟨a', σ', ρ', e1, af, rv⟩ := hq
  cases e1
  refine store_ok S (c₁.after af) hl rv fun h₃ t₃ st₃ lr₃ => ?_
  exact wpAny_execs_nil ⟨.next, _, _, ρ', rfl, (st₁.trans af.step).trans st₃, lr₃, trivial⟩
theorem try_ok {b : List Stmt} {h : ExceptHandler} {xc : Str × Const} {pos : Pos} {R : OutS} (G : Gd X P mg mb) (hX : ExOk X n Ex₀) (S : Sx sc env) (ct : Ct X n A env es ρ l σ s) (hx : clauseX P sc h = some xc)
    (hR : tryO (exsW Ex₀ sc b l σ).run (fun l σ => (optS (constA xc.2) fun v => WS.next (setL xc.1 v l) σ).run) = R) (hb : R ≠ .bad) :
    wpAny X.M A (exec (.Try b [h] [] [] pos) env) (OkF X env ρ s R) (ExS X env ρ s R) s := by
  refine wpAny_Try_except (wpAny_mono (exs_ok hX b A sc env es ρ l σ s S ct _ rfl fun q => hb (by rw [← hR, q]; rfl)) (fun fl s₁ hq => ?_) fun e s₁ hq => ?_)
  · obtain ⟨fl', l₂, σ₂, ρ₂, e2, st₂, lr₂, hf⟩ := hq
    rw [e2] at hR
    subst hR
    cases fl with
    | next =>
      cases fl' with
      | next => exact wpAny_execs_nil ⟨.next, l₂, σ₂, ρ₂, rfl, st₂, lr₂, trivial⟩
      | ret v => exact hf.elim
    | ret u =>
      cases fl' with
      | next => exact hf.elim
      | ret v => exact ⟨.ret v, l₂, σ₂, ρ₂, rfl, st₂, lr₂, hf⟩
    | _ => exact hf.elim
  · obtain ⟨c, l₂, σ₂, ρ₂, e2, st₂, lr₂, fl⟩ := hq
    rw [e2] at hR
    have c₂ := ct.step st₂ lr₂
    have hF : ∀ L ∈ fra es, L ∉ ρ₂ ∧ X.base.get? L = none := fun L hL => ⟨c₂.offr L hL, let ⟨_, _, _, _, _, q⟩ := c₂.frs.there hL; q⟩
    obtain ⟨hv, r, e1, e2'⟩ := c₂.frame
    subst e1
    refine wpAny_mono (noteFrame_ok c₂.frames e2' c₂.frs S.frame (fun b h => st₂.gone b h) fl) (fun _ s₂ n₁ => wpAny_mono (setFlight_ok (F := fra (hv :: r)) n₁.1) (fun _ s₃ n₂ => ?_) fun _ _ z => z) fun _ _ z => z
    obtain ⟨f₂, h'', rfl, t⟩ := n₁.trans n₂
    exact clause_ok G S ct (st₂.turn ct.wd.stays t hF s₁.toks) (lr₂.turn t) f₂ hx hR hb

/-! assignments -/
theorem swaps_no {e : Expr} (h : notComp e = true) (t : Option Expr) (line : Nat) : swapsWith e t line env = pure false := by
  cases e with
  | ListComp a b c d => cases h
  | SetComp a b c d => cases h
  | DictComp a b c d f => cases h
  | _ => rfl
theorem swaps_sub {e : Expr} {o i : Expr} {p : Pos} (line : Nat) : swapsWith e (some (.Subscript o i p)) line env = pure false := by
  cases e <;> rfl
theorem swaps_name (e : Expr) (x : Str) (p : Pos) (line : Nat) : ∃ b, swapsWith e (some (.Name x p)) line env = pure b := by
  cases e with
  | ListComp a b c d => exact ⟨_, rfl⟩
  | SetComp a b c d => exact ⟨_, rfl⟩
  | DictComp a b c d f => exact ⟨_, rfl⟩
  | _ => exact ⟨false, rfl⟩
theorem used_ok {elt : Expr} {g : Comprehension} {csc : Scope} {x : Str} {p' pos spos : Pos} {R : OutS} (G : Gd X P mg mb) (hE : EvS X n Ev₀.v) (hT : TvS X n Ev₀.t) (S : Sx sc env) (c : Ct X n A env es ρ l σ s) (hx : isLoc sc x = true)
    (hsw : swapsWith (.ListComp elt [g] csc pos) (some (.Name x p')) spos.line env = pure true)
    (hR : (WS.of (compW Ev₀ sc csc elt g l σ) l fun v σ => .next (setL x v l) σ).run = R) (hb : R ≠ .bad) :
    wpAny X.M A (exec (.Assign [.Name x p'] (.ListComp elt [g] csc pos) spos) env) (OkF X env ρ s R) (ExS X env ρ s R) s := by
  have hne := of_ne hR hb
  rw [WS.run_of] at hR
  generalize hr : (compW Ev₀ sc csc elt g l σ).run = r at hR hne
  obtain ⟨k, p, it, ifs, rfl, hf, hr⟩ := compW_inv hr hne
  have E1 : ∀ e s', ExV X ρ s r e s' → ExS X env ρ s R e s' := fun e s' q => by
    obtain ⟨cc, σ', ρ', e1, e2, e3⟩ := q
    exact ⟨cc, l, σ', ρ', by rw [e1] at hR; exact hR.symm, e2.step, (c.after e2).loc, e3⟩
  rw [exec_Assign_Name_used _ _ _ _ hsw]
  refine wpAny_bind (wpAny_standAt (wpAny_bind ?_))
  show wpAny _ A (do let _ ← comprehension (.ListComp elt [⟨.Name k p, it, ifs, 0⟩] csc pos) csc env (firstIterPos [⟨.Name k p, it, ifs, 0⟩] pos) (newList []) false (eval it env) (some (assign (.Name x p') env))) _ _ s
  refine wpAny_bind (wpAny_mono (comp_ok (Q := fun _ s' => OkF X env ρ s R .next s') G hE hT S.ok (Fine.of hf) c hr hne ?_) (fun _ s' hq => wpAny_pure (wpAny_pure hq)) E1)
  intro xs σ₂ ρ' s' D CC vs m hr2 af fD fC hDC hl ra hz hns oD oC
  obtain ⟨a, σ', e, rfl⟩ := W.run_op hr2 hne
  obtain ⟨_, rfl, rfl⟩ := newL_inv e
  have af2 := af.adopt (o := .list xs) oD fD (c.wd.base fD) ⟨vs, hl, hz, ra⟩
  have oC2 : CC ∉ ρ' ++ [D] := fun q => (List.mem_append.mp q).elim oC fun z => hDC (List.mem_singleton.mp z).symm
  have oC3 : CC ∉ own env := c.loc.off fC
  show wpAny _ A (assign (.Name x p') env (.ref D)) _ _ s'
  refine wpAny_assign_Name (store_ok S (c.after af2) hx (ref_new af.wd) fun h₂ t₂ st₂ lr₂ => ⟨m, Ns.keep st₂.keep (fun q => (List.mem_append.mp q).elim oC3 oC2) hns, fun h' hs' => ?_⟩)
  have hns₂ : h₂.Ns CC m := Ns.keep st₂.keep (fun q => (List.mem_append.mp q).elim oC3 oC2) hns
  have hm : ∀ o, h₂.get? CC = some o → Loose o := fun o e => Ns.mut hns₂ e
  exact ⟨.next, _, _, _, hR.symm, (af2.step.trans st₂).off1 c.wd.stays hs'.extBut hm fC oC2 t₂, lr₂.off1 hs'.extBut hm oC3, trivial⟩
theorem assign_ok {cf : Calls} {t e : Expr} {pos : Pos} {R : OutS} (G : Gd X P mg mb) (C : CallS X mg n cf) (k : Nat) (S : Sx sc env) (c : Ct X n A env es ρ l σ s) (ht : okT sc t = true)
    (hR : (WS.of ((lev P cf (k + 1)).v sc e l σ) l fun v σ => bindT (lev P cf (k + 1)) sc t v l σ).run = R) (hb : R ≠ .bad) : wpAny X.M A (exec (.Assign [t] e pos) env) (OkF X env ρ s R) (ExS X env ρ s R) s := by
  have L := lev_ok (n := n) G C (k + 1)
  cases t with
  | Name x p =>
    have hx : isLoc sc x = true := ht
    have hR : (WS.of ((lev P cf (k + 1)).v sc e l σ) l fun v σ => .cond (isLoc sc x) (.next (setL x v l) σ) .bad).run = R := hR
    rw [hx] at hR
    obtain ⟨sw, hsw⟩ := swaps_name (env := env) e x p pos.line
    cases sw with
    | false =>
      refine wpAny_Assign_Name (liftS c (.refl c.wd) hR hb (L.1 e A sc env es ρ l σ s S.ok c) fun a σ₁ ρ₁ v s₁ hR a₁ _ r₁ => ?_) hsw
      exact store_ok S (c.after a₁) hx r₁ fun h' t st lr => ⟨.next, _, σ₁, ρ₁, hR.symm, a₁.step.trans st, lr, trivial⟩
    | true =>
      cases e with
      | ListComp elt gs csc cpos =>
        have hne := of_ne hR hb
        obtain ⟨g, h1, _⟩ := W.run_opt (show (optW (one? gs) fun g => compW (lev P cf k) sc csc elt g l σ).run = _ from rfl) hne
        have e1 := one_inv h1
        subst e1
        have Lk := lev_ok (n := n) G C k
        exact used_ok G Lk.1 Lk.2 S c hx hsw hR hb
      | SetComp => exact absurd rfl (of_ne hR hb)
      | DictComp => exact absurd rfl (of_ne hR hb)
      | _ => cases (show (pure false : Sem Bool) = pure true from hsw)
  | Subscript o i p =>
    refine wpAny_Assign_Subscript (liftS c (.refl c.wd) hR hb (L.1 e A sc env es ρ l σ s S.ok c) fun a σ₁ ρ₁ v s₁ hR a₁ _ r₁ => ?_) (swaps_sub _)
    refine liftS c a₁ (show (WS.of ((lev P cf (k + 1)).v sc o l σ₁) l _).run = R from hR) hb (L.1 o A sc env es ρ₁ l σ₁ s₁ S.ok (c.after a₁)) fun b σ₂ ρ₂ v₂ s₂ hR a₂ a₂' r₂ => ?_
    refine liftS c a₂ hR hb (L.1 i A sc env es ρ₂ l σ₂ s₂ S.ok (c.after a₂)) fun d σ₃ ρ₃ v₃ s₃ hR a₃ a₃' r₃ => ?_
    rw [WS.run_of] at hR
    obtain ⟨u, σ₄, e2, e3⟩ := W.run_op (o := setItem b d a σ₃) rfl fun q => hb (by rw [← hR, q]; rfl)
    rw [e3] at hR
    refine wpAny_mono (setItem_ok a₃.wd (a₃'.rep a₂.wd r₂) r₃ (a₃'.rep a₂.wd (a₂'.rep a₁.wd r₁)) e2) (fun _ s₄ hq => ?_) fun _ _ z => z
    have a₄ := a₃.trans hq
    exact ⟨.next, l, σ₄, ρ₃, hR.symm, a₄.step, (c.after a₄).loc, trivial⟩
  | _ => cases ht

theorem exW_ok {cf : Calls} (G : Gd X P mg mb) (C : CallS X mg n cf) (hX : ExOk X n Ex₀) : ExOk X n (exW P (lev P cf 24) Ex₀) := by
  intro st A sc env es ρ l σ s S c R hR hb
  have L := lev_ok (n := n) G C 24
  cases st with
  | If t b o pos =>
    refine wpAny_If (liftS c (.refl c.wd) (show (WS.of (.call ((lev P cf 24).t sc t l σ).run) l _).run = R from hR) hb (fun r hr hb => by rw [W.run_call] at hr; exact L.2 t A sc env es ρ l σ s S.ok c r hr hb) fun a σ₁ ρ₁ v s₁ hR a₁ _ r₁ => ?_)
    have c₁ := c.after a₁
    cases a with
    | true => rw [show v = true from r₁, if_pos rfl]; exact stepF (exs_ok hX b A sc env es ρ₁ l σ₁ s₁ S c₁ R hR hb) a₁.step
    | false => rw [show v = false from r₁, if_neg (by decide)]; exact stepF (exs_ok hX o A sc env es ρ₁ l σ₁ s₁ S c₁ R hR hb) a₁.step
  | Return e pos =>
    obtain ⟨e, rfl, hR⟩ := WS.run_opt (show (optS e _).run = R from hR) hb
    exact wpAny_Return_some (liftS c (.refl c.wd) hR hb (L.1 e A sc env es ρ l σ s S.ok c) fun a σ₁ ρ₁ v s₁ hR a₁ _ r₁ => ⟨.ret a, l, σ₁, ρ₁, hR.symm, a₁.step, (c.after a₁).loc, r₁⟩)
  | Assign ts e pos =>
    obtain ⟨t, h1, hR⟩ := WS.run_opt (show (optS (one? ts) _).run = R from hR) hb
    obtain ⟨ht, hR⟩ := WS.run_cond hR hb
    rw [one_inv h1]
    exact assign_ok G C 23 S c ht hR hb
  | Expr e pos =>
    obtain ⟨hn, hR⟩ := WS.run_cond (show (WS.cond (notComp e) _ .bad).run = R from hR) hb
    exact wpAny_Expr_any (liftS c (.refl c.wd) hR hb (L.1 e A sc env es ρ l σ s S.ok c) fun a σ₁ ρ₁ v s₁ hR a₁ _ r₁ => ⟨.next, l, σ₁, ρ₁, hR.symm, a₁.step, (c.after a₁).loc, trivial⟩) (by unfold interactive; rw [c.kind]; rfl) (swaps_no hn _ _)
  | While t b o pos =>
    obtain ⟨ho, hR⟩ := WS.run_cond (show (WS.cond o.isEmpty (.out _) .bad).run = R from hR) hb
    rw [List.isEmpty_iff.mp ho]
    rw [WS.run_out] at hR
    exact while_ok L.2 hX S c hR hb
  | For tg it b o pos =>
    obtain ⟨x, h1, hR⟩ := WS.run_opt (show (optS (nameX tg) _).run = R from hR) hb
    obtain ⟨px, rfl⟩ := nameX_inv h1
    obtain ⟨hc, hR⟩ := WS.run_cond hR hb
    have hc := Bool.and_eq_true_iff.mp hc
    rw [List.isEmpty_iff.mp hc.2]
    exact for_ok G L.1 hX S c hc.1 hR hb
  | Raise e cs pos =>
    obtain ⟨hc, hR⟩ := WS.run_cond (show (WS.cond cs.isNone _ .bad).run = R from hR) hb
    obtain ⟨cc, h1, hR2⟩ := WS.run_opt hR hb
    clear hR
    obtain ⟨e, rfl, h4⟩ := Option.bind_eq_some_iff.mp h1
    obtain ⟨⟨np, x, k, cp, p, rfl⟩, h2, h3⟩ := raiseN_inv h4
    rw [Option.isNone_iff_eq_none.mp hc]
    subst hR2
    exact raise_ok G S c h2 h3
  | Try b hs o f pos =>
    obtain ⟨hc, hR⟩ := WS.run_cond (show (WS.cond (o.isEmpty && f.isEmpty) _ .bad).run = R from hR) hb
    have hc := Bool.and_eq_true_iff.mp hc
    rw [List.isEmpty_iff.mp hc.1, List.isEmpty_iff.mp hc.2]
    obtain ⟨xc, h1, hR⟩ := WS.run_opt hR hb
    obtain ⟨h, h2, h3⟩ := Option.bind_eq_some_iff.mp h1
    rw [one_inv h2]
    rw [WS.run_out] at hR
    exact try_ok G hX S c h3 hR hb
  | _ => exact absurd hR.symm hb
theorem lex_ok {cf : Calls} (G : Gd X P mg mb) (C : CallS X mg n cf) : ∀ k, ExOk X n (lex P cf k)
  | 0 => fun st A sc env es ρ l σ s S c R hR hb => absurd hR.symm hb
  | k + 1 => exW_ok G C (lex_ok G C k)
end
end Mine

/- N19 -/
set_option tactic.hygienic false
/-! Mine: calls. -/
namespace Mine
open PySem PySem.Spec PySem.Calls PyProof.Rows

theorem distinct_nodup : ∀ {l : List Str}, distinct l = true → l.Nodup
  | [], _ => .nil
  | x :: r, h => by
    have h := Bool.and_eq_true_iff.mp (show (!r.contains x && distinct r) = true from h)
    refine List.nodup_cons.mpr ⟨fun q => ?_, distinct_nodup h.2⟩
    rw [List.contains_iff_mem.mpr q] at h; cases h.1
theorem cells_mem : ∀ (names : List (Str × NameKind)) (k : Nat) (acc : List (Str × Addr)) (n : Str), n ∈ (cellsFrom k names acc).map (·.1) ↔ ((n, NameKind.cell) ∈ names ∨ n ∈ acc.map (·.1))
  | [], k, acc, n => ⟨.inr, fun h => h.elim (fun q => (nomatch q)) id⟩
  | (m, kd) :: r, k, acc, n => by
    unfold cellsFrom
    rw [List.mem_cons]
    by_cases h : kd = .cell
    · subst h
      rw [if_pos (beq_self_eq_true _), cells_mem r, List.map_cons, List.mem_cons]
      constructor
      · rintro (h | h | h)
        · exact .inl (.inr h)
        · exact .inl (.inl (by rw [h]))
        · exact .inr h
      · rintro ((h | h) | h)
        · exact .inr (.inl (Prod.mk.inj h).1)
        · exact .inl h
        · exact .inr (.inr h)
    · rw [if_neg (fun q => h (beq_iff_eq.mp q)), cells_mem r]
      exact ⟨fun z => z.imp .inr id, fun z => z.imp (fun z => z.resolve_left fun q => h (Prod.mk.inj q).2.symm) id⟩
theorem cells_nodup : ∀ (names : List (Str × NameKind)) (k : Nat) (acc : List (Str × Addr)), (names.map (·.1)).Nodup → (acc.map (·.1)).Nodup → (∀ n ∈ names.map (·.1), n ∉ acc.map (·.1)) → ((cellsFrom k names acc).map (·.1)).Nodup
  | [], _, _, _, h, _ => h
  | (m, kd) :: r, k, acc, hn, ha, hd => by
    unfold cellsFrom
    rw [List.map_cons, List.nodup_cons] at hn
    by_cases h : kd = .cell
    · subst h
      rw [if_pos (beq_self_eq_true _)]
      refine cells_nodup r _ _ hn.2 (by rw [List.map_cons]; exact List.nodup_cons.mpr ⟨hd m (.head _), ha⟩) fun n hn' q => ?_
      rw [List.map_cons] at q
      rcases List.mem_cons.mp q with rfl | q
      · exact hn.1 hn'
      · exact hd n (.tail _ hn') q
    · rw [if_neg (fun q => h (beq_iff_eq.mp q))]
      exact cells_nodup r _ _ hn.2 ha fun n hn' => hd n (.tail _ hn')
theorem lookup_of_mem {α : Type} {x : Str} {c : α} : ∀ {l : List (Str × α)}, (l.map (·.1)).Nodup → (x, c) ∈ l → l.lookup x = some c
  | [], _, h => (nomatch h)
  | (y, d) :: r, hn, h => by
    rw [List.map_cons, List.nodup_cons] at hn
    rw [List.lookup_cons]
    rcases List.mem_cons.mp h with e | h2
    · cases e; rw [beq_self_eq_true]
    · rw [show (x == y) = false from beq_eq_false_iff_ne.mpr fun q => hn.1 (by rw [show (y, d).1 = x from q.symm]; exact List.mem_map.mpr ⟨_, h2, rfl⟩)]; exact lookup_of_mem hn.2 h2
theorem mem_lookup {α : Type} {x : Str} : ∀ {l : List (Str × α)}, x ∈ l.map (·.1) → ∃ c, l.lookup x = some c
  | [], h => (nomatch h)
  | (y, d) :: r, h => by
    rw [List.lookup_cons]
    cases q : x == y with
    | true => exact ⟨d, rfl⟩
    | false =>
      rcases List.mem_cons.mp h with e | h
      · rw [show x = y from e, beq_self_eq_true] at q; cases q
      · exact mem_lookup h
theorem cells_some {names : List (Str × NameKind)} {k : Nat} {x : Str} (h : names.lookup x = some .cell) : ∃ c, (cellsFrom k names []).lookup x = some c :=
  mem_lookup ((cells_mem names k [] x).mpr (.inl (mem_lu h)))
theorem bindL_other {kd : Str → Option NameKind} {x : Str} : ∀ (bs : List (Str × Value)) (m : Str → Option Value), x ∉ bs.map (·.1) → bindL kd bs m x = m x
  | [], m, _ => rfl
  | (n, v) :: r, m, h => by
    rw [List.map_cons, List.mem_cons, not_or] at h
    unfold bindL
    rw [bindL_other r _ h.2]
    split
    · exact if_neg h.1
    · rfl
theorem bindC_other {kd : Str → Option NameKind} {x : Str} : ∀ (bs : List (Str × Value)) (m : Str → Option Value), x ∉ bs.map (·.1) → bindC kd bs m x = m x
  | [], m, _ => rfl
  | (n, v) :: r, m, h => by
    rw [List.map_cons, List.mem_cons, not_or] at h
    unfold bindC
    rw [bindC_other r _ h.2]
    split
    · rfl
    · exact if_neg h.1
theorem zip_names {α : Type} : ∀ {ps : List Str} {vs : List α}, ∀ x, x ∈ (ps.zip vs).map (·.1) → x ∈ ps
  | [], _, _, h => (nomatch h)
  | _ :: _, [], _, h => (nomatch h)
  | p :: ps, v :: vs, x, h => by
    rcases List.mem_cons.mp h with rfl | h
    · exact .head _
    · exact .tail _ (zip_names x h)
theorem bound_rep {X : Cx} {ρ : List Addr} {h : Heap} {kd : Str → Option NameKind} {x : Str} {a : AV} : ∀ {ps : List Str} {xs : List AV} {vs : List Value} (m cm : Str → Option Value), ps.Nodup → RepAll X ρ h vs xs → getL x (ps.zip xs) = some a →
    ∃ v, Rep X ρ h v a ∧ (kd x = some .local → bindL kd (ps.zip vs) m x = some v) ∧ (kd x ≠ some .local → bindC kd (ps.zip vs) cm x = some v)
  | [], _, _, _, _, _, _, e => by cases e
  | _ :: _, [], _, _, _, _, _, e => by cases e
  | p :: ps, y :: ys, _, m, cm, hn, r, e => by
    obtain ⟨v, vs, rfl, r, rs⟩ := r
    rw [List.nodup_cons] at hn
    rw [List.zip_cons_cons]
    have e : (bif p == x then some y else getL x (ps.zip ys)) = some a := e
    by_cases hp : p = x
    · subst hp
      rw [beq_self_eq_true] at e
      cases e
      have nx : p ∉ (ps.zip vs).map (·.1) := fun q => hn.1 (zip_names _ q)
      refine ⟨v, r, fun hk => ?_, fun hk => ?_⟩
      · unfold bindL; rw [bindL_other _ _ nx, if_pos hk]; simp
      · unfold bindC; rw [bindC_other _ _ nx, if_neg hk]; simp
    · rw [beq_eq_false_iff_ne.mpr hp] at e
      unfold bindL bindC
      exact bound_rep _ _ hn.2 rs e
theorem After.callee {X : Cx} {env : Env} {ρ ρ' : List Addr} {σ' : Sto} {s s₁ s' : Shared} (hk : s.heap.StaysIn s₁.heap) (hs : ∃ h tk, s₁ = { s with heap := h, toks := tk }) (ho : ∀ b ∈ own env, s.heap.get? b = none) (x : Step X env ρ s₁ ρ' σ' s') : After X ρ s ρ' σ' s' := by
  refine ⟨x.ext, fun b hb => (x.new b hb).imp id fun h => ?_, x.wd, fun b o e n => x.keep b o (hk b o e) fun q => (List.mem_append.mp q).elim (fun z => ?_) n, ?_⟩
  · cases q : s.heap.get? b with
    | none => rfl
    | some o => rw [hk b o q] at h; cases h
  · rw [ho b z] at e; cases e
  · obtain ⟨h, tk, rfl⟩ := hs
    obtain ⟨h', tk', rfl⟩ := x.same
    exact ⟨h', tk', rfl⟩
/-- a function's table -/
structure FnF (ps : List Str) (sc : Scope) : Prop where
  kind : sc.kind = .function
  nd : ∀ p ∈ sc.names, (p.1 == ("__debug__" : Str)) = false ∧ (p.1 == ("__classdict__" : Str)) = false
  gen : sc.isGenerator = false
  cor : sc.isCoroutine = false
  names : (sc.names.map (·.1)).Nodup
  pnd : ps.Nodup
  loc : ∀ x ∈ ps, isLoc sc x = true
  free : ∀ p ∈ sc.names, p.2 ≠ .free
theorem FnF.of {ps : List Str} {sc : Scope} (h : fnFine ps sc = true) : FnF ps sc := by
  have h1 := Bool.and_eq_true_iff.mp h
  have h2 := Bool.and_eq_true_iff.mp h1.1
  have h3 := Bool.and_eq_true_iff.mp h2.1
  have h4 := Bool.and_eq_true_iff.mp h3.1
  obtain ⟨t1, t2, t3, t4⟩ := tableFine_nd h4.1
  refine ⟨t1, t2, t3, t4, distinct_nodup h4.2, distinct_nodup h3.2, fun x hx => List.all_eq_true.mp h2.2 x hx, fun p hp q => ?_⟩
  have := List.all_eq_true.mp h1.2 p hp
  rw [q] at this; cases this
theorem FnF.lk {ps : List Str} {sc : Scope} {x : Str} (F : FnF ps sc) (hx : isLoc sc x = true) : sc.names.lookup x = some .local ∨ sc.names.lookup x = some .cell := by
  rcases isLoc_inv hx with q | q | q
  · exact .inl q
  · exact .inr q
  · exact absurd rfl (F.free _ (mem_lu q))
theorem fn_sx {fd : FuncData} {L a : Addr} {ps : List Str} {sc : Scope} (hs : fd.scope = sc) (F : FnF ps sc) (hp : (cellsFrom (L + 1) sc.names []).Pairwise fun x y => x.2 ≠ y.2) : Sx sc (callEnvC fd L a) := by
  subst hs
  have hk : ∀ x, (callEnvC fd L a).kindOf x = fd.scope.names.lookup x := fun _ => rfl
  have hc : (callEnvC fd L a).cells = cellsFrom (L + 1) fd.scope.names [] := rfl
  refine ⟨⟨fun x hx => ?_, fun x hx => ?_, fun x hx => ?_, nd_of F.nd⟩, fun x hx => ?_, hp, rfl⟩
  · rw [hk]; exact (F.lk hx).imp id .inl
  · rw [hk]; exact isGlob_inv hx
  · rw [hk, hc]
    rcases isCell_inv hx with q | q
    · exact ⟨.inl q, cells_some q⟩
    · exact absurd rfl (F.free _ (mem_lu q))
  · rw [hk, hc]
    rcases F.lk hx with q | q
    · exact .inl q
    · exact .inr ⟨q, cells_some q⟩

section
variable {X : Cx} {P : Prog} {mg mb : Str → Option Value}
theorem callOk (G : Gd X P mg mb) : ∀ n, CallS X mg n (callN P n)
  | 0 => fun A es ρ σ s f a o fd vs xs c hmg ho hd ra hb => absurd rfl hb
  | n + 1 => fun A es ρ σ s f a o fd vs xs c hmg ho hd ra hb => by
    have IH := callOk G n
    have hN : callN P (n + 1) f xs σ = sk ktO (bodyW P (callN P n) f xs σ).run fun _ σ => .ok .none σ := (bodyW P (callN P n) f xs σ).nat _ _ _
    rw [hN] at hb ⊢
    generalize hR : (bodyW P (callN P n) f xs σ).run = R at hb ⊢
    have hne : R ≠ .bad := fun q => hb (by rw [q]; rfl)
    obtain ⟨⟨ps, body, sc⟩, hfn, hR⟩ := WS.run_opt hR hne
    obtain ⟨hlf, hR⟩ := WS.run_cond hR hne
    have hlf := Bool.and_eq_true_iff.mp hlf
    have hlen : ps.length = xs.length := beq_iff_eq.mp hlf.1
    have F := FnF.of hlf.2
    obtain ⟨f1, f2, f3, f4, f5, f6, f7⟩ := G.fn f ps body sc a o fd hfn hmg ho hd
    have hvl : vs.length = ps.length := by rw [ra.length, hlen]
    have stb : X.base.StaysIn s.heap := c.wd.stays
    refine wpAny_call (codeAny_call_cells (fd := fd) (Nat.lt_of_le_of_lt (Nat.le_add_right _ _) c.room.1) (stb _ _ ho) hd (G.nolimit.keeps stb) (f7.keeps stb) f1 (f6 vs hvl) f3 (fun x hx => ?_) (fun s₁ ic => ?_)
      (by rw [f2]; exact F.cor) (by rw [f2]; exact F.gen) (by rw [f2]; exact F.kind))
    · rw [f2]
      have hx1 : x.1 ∈ ps := zip_names (vs := vs) _ (List.mem_map.mpr ⟨x, hx, rfl⟩)
      rcases F.lk (F.loc _ hx1) with q | q
      · exact .inl q
      · obtain ⟨z, hz⟩ := cells_some (k := s.heap.objs.size + 1) q
        exact .inr ⟨q, by rw [hz]; rfl⟩
    · have keep := ic.toInCall.keep
      generalize hEv : callEnvC fd s.heap.objs.size a = en at ic ⊢
      have hcl : en.cells = cellsFrom (s.heap.objs.size + 1) sc.names [] := by rw [← hEv, ← f2]; rfl
      have hkd : ∀ x, en.kindOf x = sc.names.lookup x := fun x => by rw [← hEv, ← f2]; rfl
      have hsc : en.scope = sc := by rw [← hEv]; exact f2
      have S : Sx sc en := hEv ▸ fn_sx f2 F (by have := ic.apart; rwa [hcl] at this)
      have own0 : ∀ b ∈ own en, s.heap.get? b = none := fun b hb' => by
        refine Heap.get?_none_of_le ?_
        rcases List.mem_cons.mp hb' with rfl | hb'
        · exact ic.toInCall.fresh
        · obtain ⟨⟨y, d⟩, hy, rfl⟩ := List.mem_map.mp hb'
          exact Nat.le_trans ic.toInCall.fresh (Nat.le_of_lt (ic.above y d hy))
      have up : ∀ {v : Value} {x : AV}, Rep X ρ s.heap v x → Rep X ρ s₁.heap v x := fun r => r.mono (Keep.of_stays (S := []) keep) .nil (.refl _)
      have frs₁ : Frs s₁.heap X.base es := c.frs.keep (Keep.of_stays (S := []) keep) fun L _ => .inl List.not_mem_nil
      have hfr : en.frame = some en.locals := S.frame
      have ct : Ct X n (A.deeper en) en (en :: es) ρ (ps.zip xs) σ s₁ := by
        refine ⟨⟨c.wd.grow keep, ?_, ?_, fun L hL q => ?_, ?_, c.hand⟩, by rw [hsc]; exact F.kind, by rw [← hEv]; exact f4, by rw [← hEv]; exact f5, ⟨⟨_, ic.toInCall.ns, fun x v e _ k => ?_⟩, fun d hd' => ?_, fun x v e k => ?_⟩, fun b hb' => c.wd.off (own0 b hb'), fun b hb' => c.wd.base (own0 b hb'), ⟨_, es, rfl, rfl⟩⟩
        · show A.frames.map _ = _
          rw [c.frames]; rfl
        · intro e he
          rcases List.mem_cons.mp he with rfl | he
          · obtain ⟨o', ds, k', e1, d1, _⟩ := ic.toInCall.ns
            exact ⟨by rw [hsc, F.kind]; decide, _, o', ds, k', hfr, c.wd.base (own0 _ (.head _)), e1, d1⟩
          · exact frs₁ e he
        · unfold fra at hL
          rw [List.filterMap_cons, hfr] at hL
          rcases List.mem_cons.mp hL with rfl | hL
          · exact c.wd.off (own0 _ (.head _)) q
          · exact c.offr L hL q
        · obtain ⟨r1, r2⟩ := c.room
          exact ⟨show A.depth + 1 + n < recursionLimit by omega, show A.units + 3 + 16 * n + 200 < cLine by omega⟩
        · obtain ⟨u, ru, h1, _⟩ := bound_rep (kd := en.kindOf) (fun _ => none) (fun _ => none) F.pnd ra e
          exact ⟨u, h1 k, up ru⟩
        · obtain ⟨⟨y, d'⟩, hy, rfl⟩ := List.mem_map.mp hd'
          refine ⟨_, ic.cell y d' (lookup_of_mem ?_ hy)⟩
          rw [hcl]
          exact cells_nodup _ _ _ F.names .nil fun _ _ q => (nomatch q)
        · obtain ⟨u, ru, _, h2⟩ := bound_rep (kd := en.kindOf) (fun _ => none) (fun _ => none) F.pnd ra e
          have hcell : sc.names.lookup x = some .cell := by
            rw [hkd] at k
            exact k.resolve_right fun k => absurd rfl (F.free _ (mem_lu k))
          obtain ⟨d, hd'⟩ := cells_some (k := s.heap.objs.size + 1) hcell
          have hd2 : en.cells.lookup x = some d := by rw [hcl]; exact hd'
          refine ⟨d, u, hd2, ?_, up ru⟩
          have := ic.cell x d hd2
          rwa [h2 fun q => by rw [hkd, hcell] at q; cases q] at this
      have sub₁ : ∀ b, s₁.heap.get? b = none → s.heap.get? b = none := fun b h => by
        cases q : s.heap.get? b with
        | none => rfl
        | some o' => rw [keep b o' q] at h; cases h
      refine wpAny_mono (exs_ok (lex_ok G IH 12) body _ sc _ _ ρ (ps.zip xs) σ s₁ S ct R hR hne) (fun fl s' q => ?_) fun e s' q => ?_
      · obtain ⟨fl', l', σ', ρ', e1, st, lr, fr⟩ := q
        rw [e1]
        have af : After X ρ s ρ' σ' s' := After.callee keep ic.toInCall.same own0 st
        cases fl' with
        | next => cases fl with
          | next => exact ⟨.none, σ', ρ', rfl, af, rfl⟩
          | _ => exact fr.elim
        | ret v => cases fl with
          | ret u => exact ⟨v, σ', ρ', rfl, af, fr⟩
          | _ => exact fr.elim
      · obtain ⟨cc, l', σ', ρ', e1, st, lr, fr⟩ := q
        rw [e1]
        have af : After X ρ s ρ' σ' s' := After.callee keep ic.toInCall.same own0 st
        have c₂ := ct.step st lr
        have hF : ∀ L ∈ fra (en :: es), L ∉ ρ' ∧ X.base.get? L = none := fun L hL => ⟨c₂.offr L hL, let ⟨_, _, _, _, _, q⟩ := c₂.frs.there hL; q⟩
        refine wpAny_mono (leaving_ok (s₀ := s) c₂.frames rfl c₂.frs hfr (fun b h => sub₁ b (st.gone b h)) (fr.lift sub₁)) (fun _ s'' hq => ?_) fun _ _ z => z
        obtain ⟨fl, h', rfl, t⟩ := hq
        have w' := t.wd af.wd c.wd.stays hF
        obtain ⟨N, k, so, nw, _⟩ := t
        obtain ⟨h₁, tk₁, e2⟩ := af.same
        refine ⟨cc, σ', ρ', rfl, ⟨af.ext, af.new, w', fun b o e n => ?_, ⟨h', s'.toks, by rw [e2]⟩⟩, fl.weak⟩
        obtain ⟨sl, e₁, q₁⟩ := af.keep b o e n
        obtain ⟨sl', e₂, q₂⟩ := k b _ e₁ fun q => by rw [nw b q] at e; cases e
        exact ⟨sl', e₂, fun z => (q₂ z).trans (q₁ z)⟩
end
end Mine

/- H13 -/
set_option tactic.hygienic false
/-! Mine: the head of claim 13: the text's own run by the kernel at once, with a hook of my own. -/
namespace Mine
open PySem PySem.W PyProof.Rows
set_option Elab.async false
set_option maxRecDepth 100000
set_option maxHeartbeats 8000000

noncomputable def keepSt : Stmt → Bool
  | .Assign _ _ _ => false
  | _ => true
noncomputable def q13 : Program := { PySem.Challenge.pw_uf010032_13 with main := { PySem.Challenge.pw_uf010032_13.main with body := PySem.Challenge.pw_uf010032_13.main.body.filter keepSt } }

noncomputable def fragOf (h : Heap) (as : List Addr) : Frag := as.filterMap fun a => (h.get? a).map fun o => (a, o)
theorem fragOf_in (h : Heap) : ∀ as, (fragOf h as).In h
  | [], _, _, e => by cases e
  | a :: r, b, o, e => by
    unfold fragOf at e
    rw [List.filterMap_cons] at e
    cases q : h.get? a with
    | none => rw [q] at e; exact fragOf_in h r b o e
    | some o' =>
      rw [q] at e
      simp only [Option.map_some, List.lookup_cons] at e
      cases z : b == a with
      | true => rw [z] at e; cases e; rw [beq_iff_eq.mp z]; exact q
      | false => rw [z] at e; exact fragOf_in h r b o e

noncomputable def clsA : List (Str × Addr) := [("NoKey", 37), ("NotApart", 49), ("NotRising", 61)]
noncomputable def addrs : List Addr := [mainGlobals, sysModules, 23, 24, 36, 37, 48, 49, 60, 61]
noncomputable def sub3 : List (String × String × Bool) := [("int", "int", true), ("bool", "int", true), ("NoneType", "int", false), ("str", "int", false), ("tuple", "int", false),
  ("int", "bool", false), ("bool", "bool", true), ("NoneType", "bool", false), ("str", "bool", false), ("tuple", "bool", false),
  ("int", "tuple", false), ("bool", "tuple", false), ("NoneType", "tuple", false), ("str", "tuple", false), ("tuple", "tuple", true)]
noncomputable def atG (K : Frag) (x : Str) : Option Value := match K.lookup mainGlobals with | some o => (match o.data with | .dict es _ => nsFind es x | _ => none) | none => none
noncomputable def chkG (K : Frag) : Bool := atG K "TreeError" == some (.ref 24) && (K.lookup sysModules).isSome && clsA.all fun x => atG K x.1 == some (.ref x.2)
noncomputable def chkE (K : Frag) : Bool := clsA.all fun x => exmOne K (.ref x.2) (.ref 24) == some true
noncomputable def chkS (K : Frag) : Bool := sub3.all fun x => kitOne K (.type x.1) (.type x.2.1) == some x.2.2

noncomputable def hook : Hook where
  α := Bool
  obs := fun s => chkG (fragOf s.heap addrs) && chkE (fragOf s.heap addrs) && chkS (fragOf s.heap addrs)
  val := fun _ => true
  says := fun _ h => ∃ K : Frag, K.In h ∧ chkG K = true ∧ chkE K = true ∧ chkS K = true
  of := fun w s e => by
    simp only [Bool.and_eq_true] at e
    exact ⟨_, fragOf_in s.heap addrs, e.1.1, e.1.2, e.2⟩
  keeps := fun w h h' ⟨K, X, r⟩ k => ⟨K, X.keeps k, r⟩

theorem left13 : LeftO PySem.Challenge.pw_uf010032_13 q13 [] (fun s => xlAt q13 [] s && recOk [] s) (Hook.obs hook) (Hook.val hook) 5000 := by
  intro w
  kernel_rfl
end Mine

/- J13 -/
set_option tactic.hygienic true
/-! Mine: the ground of the program of claim 13. -/
namespace Mine
open PySem PySem.Spec PySem.Calls PyProof.Rows PySem.W
set_option maxRecDepth 100000
set_option Elab.async false

theorem ns_at {K : Frag} {h : Heap} {a : Addr} {mg : Str → Option Value} {o : Obj} {x : Str} {v : Value} (X : K.In h) (N : h.Ns a mg) (e : K.lookup a = some o) (hx : (match o.data with | .dict es _ => nsFind es x | _ => none) = some v) : mg x = some v := by
  obtain ⟨o', es, ep, ho, hd, _, hf⟩ := N
  rw [X a o e] at ho; cases ho
  rw [hd] at hx
  rw [← hf x]; exact hx

/-- the records' own text, by its name -/
noncomputable def lookR (f : Str) : List DefRec → Option (List Str × List Stmt × Scope)
  | [] => Option.none
  | d :: r => bif d.name == f then some (d.params.args.map (·.arg), d.body, d.scope) else lookR f r
theorem lookR_ok {f : Str} {t : List Str × List Stmt × Scope} : ∀ {ds : List DefRec}, lookR f ds = some t → ∃ d ∈ ds, d.name = f ∧ (d.params.args.map (·.arg), d.body, d.scope) = t
  | [], h => nomatch h
  | d :: r, h => by
    have h : (bif d.name == f then some (d.params.args.map (·.arg), d.body, d.scope) else lookR f r) = some t := h
    cases q : d.name == f with
    | true => rw [q] at h; exact ⟨d, .head _, beq_iff_eq.mp q, Option.some.inj h⟩
    | false =>
      rw [q] at h
      obtain ⟨d', h1, h2⟩ := lookR_ok (ds := r) h
      exact ⟨d', .tail _ h1, h2⟩
noncomputable def recFine (d : DefRec) : Bool := d.params.posonlyargs.isEmpty && d.params.kwonlyargs.isEmpty && d.params.vararg.isNone && d.params.kwarg.isNone && distinct (d.params.args.map (·.arg))
noncomputable def freeOk (p : Program) (loose : List Str) (x : Str) : Bool := !startupNames.contains x && !loose.contains x && !((recsOf p).map (·.name)).contains x && !((litsOf p).map (·.1)).contains x && !((clssOf p loose).map (·.name)).contains x
theorem free_of {p : Program} {loose : List Str} {mean : ExcName → Option Value} {mg mb : Str → Option Value} {h : Heap} (T : Top p loose mean mg mb h) {x : Str} (e : freeOk p loose x = true) : mg x = none := by
  unfold freeOk at e
  simp only [Bool.and_eq_true, Bool.not_eq_true', List.contains_eq_mem, decide_eq_false_iff_not] at e
  exact T.free x e.1.1.1.1 e.1.1.1.2 e.1.1.2 e.1.2 e.2

/-- built-in names that the program reads, and what they stand for -/
noncomputable def bvals : List (Str × Value) := blts.map (fun b => (b.name, b.val)) ++ ([("range", .type "range"), ("bool", .type "bool")] : List (Str × Value))
theorem c_fn (f : Str) : PP.fn f = lookR f (recsOf q13) := by kernel_rfl
theorem c_recs : (recsOf q13).all recFine = true := by decide +kernel
theorem c_free : bvals.all (fun x => freeOk q13 (looseW q13 []) x.1 && (bootBuiltins x.1 == some x.2 && !(x.1 == ("__name__" : Str)))) = true := by decide +kernel
theorem c_owns : clsA.all (fun x => (ownsOf q13).any fun o => o.name == x.1 && o.newId == "ValueError.__new__" && o.bm == [.type "ValueError", .type "Exception", .type "BaseException", .type "object"]) = true := by decide +kernel
theorem c_said : PySem.Challenge.rw_uf010032_13.wellSaid = true := by decide +kernel
theorem c_blts : ∀ b ∈ blts, (b.name, b.val) ∈ bvals := fun b hb => List.mem_append_left _ (List.mem_map.mpr ⟨b, hb, rfl⟩)

theorem str_inj {a b : String} (h : Str.ofString a = Str.ofString b) : a = b := by
  rw [Str.ofString_eq_toList, Str.ofString_eq_toList] at h
  have h1 : (a.toList.map Char.toNat).toArray = (b.toList.map Char.toNat).toArray := by injection h
  have h2 : a.toList.map Char.toNat = b.toList.map Char.toNat := by simpa using h1
  exact String.toList_inj.mp ((List.map_inj_right fun x y e => Char.toNat_inj.mp e).mp h2)

section
variable {mean : ExcName → Option Value} {w : World} {h : Heap} {K : Frag} {mg mb : Str → Option Value}
theorem b_of (T : Top q13 (looseW q13 []) mean mg mb h) {x : Str} {v : Value} (hx : (x, v) ∈ bvals) : mg x = none ∧ mb x = some v := by
  have e := Bool.and_eq_true_iff.mp (List.all_eq_true.mp c_free _ hx)
  have e2 := Bool.and_eq_true_iff.mp e.2
  refine ⟨free_of T e.1, ?_⟩
  rw [T.builtins x fun q => by
    have e3 := e2.2
    rw [show (((x, v) : Str × Value).1 == ("__name__" : Str)) = true from beq_iff_eq.mpr q] at e3
    cases e3]
  exact beq_iff_eq.mp e2.1
theorem mg_at (T : Top q13 (looseW q13 []) mean mg mb h) (KX : K.In h) {x : Str} {a : Addr} (e : (atG K x == some (.ref a)) = true) : mg x = some (.ref a) := by
  have e := beq_iff_eq.mp e
  unfold atG at e
  cases ho : K.lookup mainGlobals with
  | none => rw [ho] at e; cases e
  | some o => rw [ho] at e; exact ns_at KX T.g ho e
theorem rec_of {f : Str} {ps : List Str} {body : List Stmt} {sc : Scope} (e : PP.fn f = some (ps, body, sc)) : ∃ d ∈ recsOf q13, d.name = f ∧ d.params.args.map (·.arg) = ps ∧ d.body = body ∧ d.scope = sc ∧ recFine d = true := by
  rw [c_fn] at e
  obtain ⟨d, hd, hn, ht⟩ := lookR_ok e
  cases ht
  exact ⟨d, hd, hn, rfl, rfl, rfl, List.all_eq_true.mp c_recs d hd⟩
noncomputable def tyN (k : Nat) : String := (["NoneType", "bool", "int", "str", "tuple"][k]?).getD ""
theorem isi_val {prog : Program} {A : Around} {E : Value → Shared → Prop} {s : Shared} {X : Cx} {ρ : List Addr} {v : Value} {a : AV} {k : Nat} {T2 : String} {b : Bool} {Q : Value → Shared → Prop} (KS : K.In s.heap) (r : Rep X ρ s.heap v a) (hT : typeNo a = some k) (e : kitOne K (.type (tyN k)) (.type T2) = some b)
    (hq : ∀ tk, Q (.bool b) { s with toks := tk }) : wpAny (model prog w) A (call (.builtin "isinstance") [v, .type T2]) Q E s := by
  cases a with
  | none => cases hT; cases (show v = .none from r); exact kia_one kitx_none KS trivial e (by intro z; cases z) hq
  | bool b => cases hT; cases (show v = .bool b from r); exact kia_one kitx_bool KS trivial e (by intro z; cases z) hq
  | int i => cases hT; obtain ⟨tk, rfl⟩ := r; exact kia_one kitx_int KS trivial e (by intro z; cases z) hq
  | str x => cases hT; obtain ⟨tk, rfl⟩ := r; exact kia_one kitx_str KS trivial e (by intro z; cases z) hq
  | tup z =>
    cases hT
    obtain ⟨l, ws, rfl, _, ⟨o, ho, hc, _⟩, _⟩ := r
    exact kia_one kitx_tuple KS ⟨o, ho, hc⟩ e (by intro z; cases z) hq
  | _ => exact nomatch (show (none : Option Nat) = some k from hT)
theorem typeNo_lt {a : AV} {k : Nat} (h : typeNo a = some k) : k < 5 := by
  cases a <;> first | (cases h; decide) | exact nomatch (show (none : Option Nat) = some k from h)
theorem inst_sub {t : String} {k : Nat} {b : Bool} (hk : k < 5) (h : isInst t k = some b) : (tyN k, t, b) ∈ sub3 := by
  have key : ∀ t' ∈ ["int", "bool", "tuple"], ∀ k < 5, ∀ b, isInst (Str.ofString t') k = some b → (tyN k, t', b) ∈ sub3 := by decide +kernel
  refine key t ?_ k hk b h
  unfold isInst at h
  cases e1 : (Str.ofString t == ("int" : Str)) with
  | true => rw [str_inj (beq_iff_eq.mp e1)]; decide
  | false =>
  cases e2 : (Str.ofString t == ("bool" : Str)) with
  | true => rw [str_inj (beq_iff_eq.mp e2)]; decide
  | false =>
  cases e3 : (Str.ofString t == ("tuple" : Str)) with
  | true => rw [str_inj (beq_iff_eq.mp e3)]; decide
  | false => rw [e1, e2, e3] at h; cases h

noncomputable def cx (prog : Program) (w : World) (h : Heap) : Cx := ⟨prog, w, h, fun C => ∃ c, (c, C) ∈ clsA⟩
theorem gd13 (prog : Program) (T : Top q13 (looseW q13 []) mean mg mb h) (KX : K.In h) (CG : chkG K = true) (CE : chkE K = true) (CS : chkS K = true) : Gd (cx prog w h) PP mg mb where
  g := T.g
  b := T.b
  nolimit := T.nolimit
  sysm := by
    have h1 := (Bool.and_eq_true_iff.mp (Bool.and_eq_true_iff.mp CG).1).2
    obtain ⟨o, ho⟩ := Option.isSome_iff_exists.mp h1
    show h.get? sysModules ≠ none
    rw [KX _ _ ho]; exact fun z => (by cases z)
  isi := fun A E s ρ v a t k b Q st r hk hi hq => isi_val (prog := prog) (KX.keeps st) r hk (beq_iff_eq.mp (List.all_eq_true.mp CS _ (inst_sub (typeNo_lt hk) hi))) hq
  blt := fun b hb => b_of T (c_blts b hb)
  typ := fun t ht => by
    have : ∀ t ∈ types, ∃ n : String, t = n ∧ (t, Value.type n) ∈ bvals := fun t ht => by
      simp only [types, List.mem_cons, List.not_mem_nil, or_false] at ht
      rcases ht with rfl | rfl | rfl
      · exact ⟨"int", rfl, by decide +kernel⟩
      · exact ⟨"bool", rfl, by decide +kernel⟩
      · exact ⟨"tuple", rfl, by decide +kernel⟩
    obtain ⟨n, e, hb⟩ := this t ht
    exact ⟨n, e, b_of T hb⟩
  known := fun g e hb => by
    have e : ((findB g blts).isSome || (PP.fn g).isSome) = true := e
    rw [hb] at e
    obtain ⟨⟨ps, body, sc⟩, ht⟩ := Option.isSome_iff_exists.mp (show (PP.fn g).isSome = true from e)
    obtain ⟨d, hd, hn, _⟩ := rec_of ht
    obtain ⟨a, o, pm, code, doc, h1, h2, h3, h4⟩ := T.fn d hd
    rw [hn] at h1
    exact ⟨a, o, _, h1, h2, h3⟩
  range := b_of T (by decide +kernel)
  fn := fun f ps body sc a o fd e hm ho hd => by
    obtain ⟨d, hdm, hn, h1, h2, h3, hf⟩ := rec_of e
    obtain ⟨a', o', pm, code, doc, g1, g2, g3, g4⟩ := T.fn d hdm
    rw [hn, hm] at g1; cases g1
    rw [show h.get? a = some o from ho] at g2; cases g2
    rw [hd] at g3; cases g3
    unfold recFine at hf
    simp only [Bool.and_eq_true, List.isEmpty_iff, Option.isNone_iff_eq_none] at hf
    obtain ⟨⟨⟨⟨f1, f2⟩, f3⟩, f4⟩, f5⟩ := hf
    refine ⟨by rw [← h2]; rfl, h3, rfl, rfl, rfl, fun vals hl => ?_, g4⟩
    rw [← h1]
    exact bind_plain f1 f2 f3 f4 (distinct_nodup f5) vals (by rw [hl, ← h1, List.length_map])
  cls := fun c hc => by
    have ha : ∃ a, (c, a) ∈ clsA := by
      have hm : c ∈ clsNames := List.contains_iff_mem.mp hc
      simp only [clsNames, List.mem_cons, List.not_mem_nil, or_false] at hm
      rcases hm with rfl | rfl | rfl
      · exact ⟨37, by decide +kernel⟩
      · exact ⟨49, by decide +kernel⟩
      · exact ⟨61, by decide +kernel⟩
    obtain ⟨a, ha⟩ := ha
    obtain ⟨o, ho, hq⟩ := List.any_eq_true.mp (List.all_eq_true.mp c_owns _ ha)
    simp only [Bool.and_eq_true, beq_iff_eq] at hq
    obtain ⟨⟨q1, q2⟩, q3⟩ := hq
    obtain ⟨C, O, _⟩ := T.own o ho
    rw [q1, q2, q3] at O
    have hb := O.bound
    rw [mg_at T KX (List.all_eq_true.mp (Bool.and_eq_true_iff.mp CG).2 _ ha)] at hb; cases hb
    exact ⟨a, _, _, "ValueError", _, _, "ValueError", _, _, ⟨c, ha⟩, O.own, PySem.F.excBase_ValueError, by decide +kernel, PySem.F.excBase_ValueError⟩
  top := by
    refine ⟨.ref 24, mg_at T KX (Bool.and_eq_true_iff.mp (Bool.and_eq_true_iff.mp CG).1).1, fun A E s a oe C Q st ho hc ⟨c, hC⟩ hq => ?_⟩
    have e := beq_iff_eq.mp (List.all_eq_true.mp CE _ hC)
    exact (exm_one (M := model prog w) (KX.keeps st) (hc ▸ (Looks.ld ho).andThen .now) e).here hq

theorem weightAll_mem : ∀ {ns : List Int} {x : Int}, x ∈ ns → PyData.weight (.int x) ≤ PyData.weightAll (ns.map .int)
  | [], _, h => by simp at h
  | y :: r, x, h => by
    simp only [List.map_cons, PyData.weightAll]
    rcases List.mem_cons.mp h with rfl | h
    · omega
    · have := weightAll_mem h; omega
theorem bd_of {ns : List Int} (h : (PyData.list (ns.map .int)).layable0 = true) : ∀ x ∈ ns, L.Bit x := by
  unfold PyData.layable0 at h
  simp only [Bool.and_eq_true, decide_eq_true_eq] at h
  have hw := h.2
  simp only [PyData.weight] at hw
  intro x hm
  have := weightAll_mem hm
  simp only [PyData.weight] at this
  have hb : Builtin.Int.intBits x = if (x == 0) = true then 0 else x.natAbs.log2 + 1 := rfl
  unfold L.Bit
  rw [hb]; omega

theorem end13 {s₁ : Shared} {fa : Addr} {o : Obj} {fd : FuncData} (prog : Program) (T : Top q13 (looseW q13 []) mean mg mb s₁.heap) (KX : K.In s₁.heap) (CG : chkG K = true) (CE : chkE K = true) (CS : chkS K = true)
    (hmg : mg "law" = some (.ref fa)) (ho : s₁.heap.get? fa = some o) (hd : o.data = .func fd) {ns : List Int} {la : Addr} {vs : List Value} (hL : s₁.heap.IsList la vs.toArray) (hI : IntsAre vs ns) (hz : ¬ (((63 : Nat) : Int) < (ns.length : Int))) (hlay : (PyData.list (ns.map .int)).layable0 = true)
    {Q : Value → Shared → Prop} {E : Value → Shared → Prop} (hQ : ∀ s', s₁.heap.StaysIn s'.heap → s'.os = s₁.os → s'.gens = s₁.gens → Q (.bool true) s') : wpAny (model prog w) callerA (call (.ref fa) [.ref la]) Q E s₁ := by
  obtain ⟨σ', e⟩ := L.law_ok ns (by omega) (bd_of hlay)
  have G := gd13 (w := w) prog T KX CG CE CS
  have wd : Wd (cx prog w s₁.heap) [] [] s₁.heap := ⟨fun _ _ e => e, fun _ q => (nomatch q), .nil, rfl, fun n o e => by simp at e⟩
  have cl : Cl (cx prog w s₁.heap) 100 callerA [] [] [] s₁ := ⟨wd, rfl, fun _ q => (nomatch q), fun _ q => (nomatch q), ⟨by decide, by decide⟩, rfl⟩
  have ra : RepAll (cx prog w s₁.heap) [] s₁.heap [.ref la] [L.scr ns] := ⟨_, _, rfl, ⟨la, vs, rfl, hL, hI⟩, rfl⟩
  have := callOk G 100 callerA [] [] [] s₁ "law" fa o fd [.ref la] [L.scr ns] cl hmg ho hd ra (by rw [e]; exact fun z => by cases z)
  refine wpAny_mono this (fun v s' q => ?_) fun x s' q => ?_
  · obtain ⟨a, σ₂, ρ', e1, af, rp⟩ := q
    rw [e] at e1; cases e1
    cases (show v = .bool true from rp)
    obtain ⟨h', tk, rfl⟩ := af.same
    exact hQ _ af.wd.stays rfl rfl
  · obtain ⟨c, σ₂, ρ', e1, _⟩ := q
    rw [e] at e1; cases e1
end
end Mine

open PySem PySem.W PyProof.Rows PySem.Calls PySem.Spec
set_option Elab.async false
set_option maxRecDepth 100000
set_option maxHeartbeats 8000000 in
theorem PySem.Challenge.cw_uf010032_13_holds : PySem.Challenge.rw_uf010032_13.Holds := by
  refine holds_law Mine.c_said fun said => ?_
  refine holds_open (q := Mine.q13) (loose := []) (Xt := fun s => xlAt Mine.q13 [] s && recOk (RowW.records (OpenRow.toRowW PySem.Challenge.rw_uf010032_13.row)) s) (XP := XL Mine.q13 []) (Yf := Hook.obs Mine.hook) (Ya := Hook.val Mine.hook) (YP := Hook.says Mine.hook) (N := 5000)
    Mine.left13 (Hook.of Mine.hook) (Hook.keeps Mine.hook) (fun s e => xl_of s (Bool.and_eq_true_iff.mp e).1) XL.keeps (by rfl) (by rfl) (by rfl) (fun s e => recFacts_of (Bool.and_eq_true_iff.mp e).2) (by rfl) said (by decide +kernel) ⟨rfl, rfl, rfl, rfl, rfl, by decide +kernel⟩ ?hw ?hc
  case hw => w_witness2
  intro w s₀ s₁ mg mb G Y fa o pm cd doc dV kV ho hd hcd hD hmg hg args vals as hpre hlay hrd hwl hlo
  obtain ⟨K, KX, CG, CE, CS⟩ := Y
  refine Ground.open G ?_
  intro T B D TE TW
  wrow_args hpre hlay hrd hwl hlo
  rename_i ns _ _ hlay1 _ _ _ _ la vs _ hL _ _ _ hI _ hz _
  refine Mine.end13 _ T KX CG CE CS hmg ho hd hL hI hz hlay1 fun s' hk hos hgn => ?_
  refine ⟨.inl ⟨.bool true, .bool true, [], rfl, ?_, .bool _, ?_, ?_⟩, ?_, hos, ?_⟩
  · exact fun _ => rfl
  · kernel_rfl
  · exact fun _ => ⟨.nil, fun _ z => (nomatch z)⟩
  · exact .of_keep hk
  · exact .of_eq (hgn.trans hg)
