import PyProof.Rows.All
import PyProof.Rows.SumAny
import KE.KIntText
import PyProof.StrCalls6
import PyProof.Rows.StrLen
import PyProof.Rows.StrInSeq3
import PyProof.Rows.StrNews
import PyProof.Rows.StrJoin2
import PyProof.ToksMono
import KE.LcTurns
import PyProof.StrBlockI
import PyProof.EnumMake
import Imp.Common
import KE.KIsAll
import KE.KItem
import KE.KSlice
import KE.KSliceW
import KE.KTryDeep
import KE.KTryMore
import ObjForm.Claim3
import Open.Claim
import Open.Head
import Open.Line
import Open.Row
import OpenK.KCall
import OpenK.KDescr
import OpenK.KFacts
import OpenK.KFor
import OpenK.KGet
import OpenK.KLine
import OpenK.KList
import OpenK.KMake
import OpenK.KOwn
import OpenK.KRaise
import OpenK.KWalk
import OpenK.Peek
import OpenK.TopRead
import Wide.Bridge
import Wide.BridgeG
import Wide.Claim
import Wide.Data
import Wide.Ends
import Wide.FinOn
import Wide.Head
import Wide.Lay
import Wide.Line
import Wide.Loose
import Wide.ObjOpen
import Wide.OfPy
import Wide.OfTm
import Wide.OneHead
import Wide.Pins
import Wide.Reads
import Wide.Row
import Wide.Tac
import Wide.Tm
import Wide.Vals
import Wide.Well
import PySem.Challenge.RW_uf050010_13
set_option Elab.async false
set_option linter.all false
set_option maxRecDepth 100000
set_option genSizeOf false
namespace Mine
open PySem

/-- values of the small interpreter -/
inductive V where
  | none
  | bool (b : Bool)
  | int (i : Int)
  | str (s : Str)
  | tup (vs : List V)
  | lst (vs : List V)
  | loc (i : Nat)
  | exc (c : Addr)

/-- objects that the run owns and may change -/
inductive Ob where
  | list (vs : List V)
  | inst (c : Nat) (fs : List (Nat × V))

noncomputable abbrev Store := List Ob
noncomputable abbrev Loc := List (Option V)

inductive R (α : Type) where
  | ok (a : α) (σ : Store)
  | exn (c : Addr) (σ : Store)
  | stuck

noncomputable def R.bind {α β : Type} (r : R α) (f : α → Store → R β) : R β :=
  match r with
  | .ok a σ => f a σ
  | .exn c σ => .exn c σ
  | .stuck => .stuck

/-- the same, but no exception may come -/
noncomputable def R.got {α β : Type} (r : R α) (f : α → Store → R β) : R β :=
  match r with
  | .ok a σ => f a σ
  | _ => .stuck

/-- built-in functions of plain arguments -/
inductive BI where
  | len | max2 | min2 | sorted | int
  deriving DecidableEq

/-- what isinstance asks -/
inductive TY where
  | int | bool | tuple | list | str
  | exc (x : Str) (j : Nat)
  | verr
  deriving DecidableEq

inductive ME where
  | var (i : Nat)
  | cint (k : Int)
  | cstr (s : Str)
  | cnone
  | cbool (b : Bool)
  | gint (x : Str) (k : Int)
  | gstr (x : Str) (s : Str)
  | bin (op : Operator) (a b : ME)
  | neg (a : ME)
  | not (a : ME)
  | and (es : List ME)
  | or (es : List ME)
  | cmp (op : CmpOp) (a b : ME)
  | cmp2 (op₁ op₂ : CmpOp) (a b c : ME)
  | call (f : Nat) (args : List ME)
  | bi (b : BI) (args : List ME)
  | copy (own : Bool) (e : ME)
  | isi (e : ME) (t : TY)
  | make (c : Nat) (args : List ME)
  | meth (o : ME) (f : Nat) (args : List ME)
  | attr (o : ME) (k : Nat)
  | idx (a i : ME)
  | sliceTo (own : Bool) (a k : ME)
  | sliceFrom (own : Bool) (a k : ME)
  | tup (es : List ME)
  | lst (own : Bool) (es : List ME)
  | sumAt (k i : Nat)
  | rev (e : ME)
  | strMul (s : Str) (e : ME)
  | cat (a b : ME)
  | slen (a : ME)
  | sidx (a i : ME)
  | sTo (a k : ME)
  | sFrom (a k : ME)
  | split (own : Bool) (a : ME)
  | join (a : ME)
  | upper (a : ME)
  | giveRepl (i : Nat)
  | strOf (a : ME)
  | intOf (a : ME)
  | notIn (a b : ME)
  | inT (ws : List Str) (a : ME)
  | notInL (ws : List Str) (a : ME)
  | minL (a : ME)
  | shownL (i : Nat)

inductive MS where
  | expr (e : ME)
  | append (o e : ME)
  | assign (i : Nat) (e : ME)
  | unpack (is : List Nat) (e : ME)
  | setattr (o : ME) (k : Nat) (e : ME)
  | setitem (o k e : ME)
  | unpackSub (i : Nat) (o k e : ME)
  | unpackL (is : List Nat) (e : ME)
  | ite (c : ME) (a b : List MS)
  | forIn (i : Nat) (it : ME) (body : List MS)
  | forRange (i : Nat) (args : List ME) (body : List MS)
  | while (fuel : Nat) (c : ME) (body : List MS)
  | forTup (is : List Nat) (it : ME) (body : List MS)
  | forStr (i : Nat) (it : ME) (body : List MS)
  | asgMap (i f j : Nat)
  | ret (e : ME)
  | retNone
  | brk
  | cont
  | pass
  | raise (x : Str) (k : Nat) (s : Str)
  | try (body hs : List MS)
  | hand (j : Nat) (as : Option Nat) (suite : List MS)

/-- what lies in a list -/
noncomputable def listOf (σ : Store) : V → Option (List V)
  | .lst vs => some vs
  | .loc i => match σ[i]? with
    | some (.list vs) => some vs
    | _ => Option.none
  | _ => Option.none
noncomputable def seqOf (σ : Store) : V → Option (List V)
  | .tup vs => some vs
  | v => listOf σ v

noncomputable def truth : V → Option Bool
  | .bool b => some b
  | .none => some false
  | .int i => some (i != 0)
  | _ => Option.none

/-- plain data: ints, None, strs and lists and tuples of them, so deep at most -/
noncomputable def plain : Nat → V → Bool
  | _, .none => true
  | _, .int _ => true
  | n + 1, .tup vs => vs.all (plain n)
  | n + 1, .lst vs => vs.all (plain n)
  | _, _ => false

/-- a value as == sees it: a list that is owned is looked at -/
noncomputable def seen (σ : Store) (v : V) : V := match listOf σ v with | some vs => V.lst vs | Option.none => v

open Classical in
/-- == : structural on plain data -/
noncomputable def eqV (σ : Store) (a b : V) : Option Bool :=
  match a, b with
  | .str x, .str y => some (decide (x = y))
  | a, b => if plain 8 (seen σ a) = true ∧ plain 8 (seen σ b) = true then some (decide (seen σ a = seen σ b)) else Option.none

/-- the int that a value is -/
noncomputable def V.asInt (v : V) : Option Int := match v with | .int i => some i | _ => Option.none
theorem asInt_inv {v : V} {i : Int} (h : v.asInt = some i) : v = .int i := by
  cases v with
  | int k => exact congrArg V.int (Option.some.inj h)
  | _ => cases h
/-- of two ints -/
noncomputable def on2 (a b : V) (f : Int → Int → Option V) : Option V := a.asInt.bind fun x => b.asInt.bind fun y => f x y
theorem on2_inv {a b : V} {f : Int → Int → Option V} {r : V} (h : on2 a b f = some r) : ∃ x y, a = .int x ∧ b = .int y ∧ f x y = some r := by
  obtain ⟨x, h1, h⟩ := Option.bind_eq_some_iff.mp h
  obtain ⟨y, h2, h⟩ := Option.bind_eq_some_iff.mp h
  exact ⟨x, y, asInt_inv h1, asInt_inv h2, h⟩
noncomputable def addL (σ : Store) (a b : V) : Option V := (listOf σ a).bind fun xs => (listOf σ b).bind fun ys => if xs.length + ys.length ≤ 1000000 then some (.lst (xs ++ ys)) else Option.none
noncomputable def mulF (x y : Int) : Option V := if (Builtin.Int.intBits x ≤ 64 ∨ Builtin.Int.intBits y ≤ 64) ∨ (Builtin.Int.intBits x ≤ 2 ^ 20 ∧ Builtin.Int.intBits y ≤ 2 ^ 20) then some (.int (x * y)) else Option.none
noncomputable def divF (x y : Int) : Option V := if y = 0 then Option.none else some (.int (x.fdiv y))
noncomputable def modF (x y : Int) : Option V := if y = 0 then Option.none else some (.int (x.fmod y))
noncomputable def powF (x y : Int) : Option V := if 0 ≤ y ∧ (Builtin.Int.intBits x : Int) * y ≤ 2 ^ 27 then some (.int (x ^ y.toNat)) else Option.none
noncomputable def binV (σ : Store) (op : Operator) (a b : V) : Option V :=
  match op with
  | .Add => (on2 a b fun x y => some (.int (x + y))).or (addL σ a b)
  | .Sub => on2 a b fun x y => some (.int (x - y))
  | .Mult => on2 a b mulF
  | .FloorDiv => on2 a b divF
  | .Mod => on2 a b modF
  | .Pow => on2 a b powF
  | _ => Option.none

noncomputable def isNone (v : V) : Bool := match v with | .none => true | _ => false
theorem isNone_inv {v : V} (h : isNone v = true) : v = .none := by
  cases v with
  | none => rfl
  | _ => cases h
noncomputable def cmpV (σ : Store) (op : CmpOp) (a b : V) : Option V :=
  match op with
  | .Lt => on2 a b fun x y => some (.bool (decide (x < y)))
  | .LtE => on2 a b fun x y => some (.bool (decide (x ≤ y)))
  | .Gt => on2 a b fun x y => some (.bool (decide (y < x)))
  | .GtE => on2 a b fun x y => some (.bool (decide (y ≤ x)))
  | .Eq => (eqV σ a b).map .bool
  | .NotEq => (eqV σ a b).map fun r => .bool (!r)
  | .Is => if isNone b = true then some (.bool (isNone a)) else Option.none
  | .IsNot => if isNone b = true then some (.bool (!isNone a)) else Option.none
  | _ => Option.none

/-- an item by an int, from the end where it is below nought -/
noncomputable def itemV (σ : Store) (a i : V) : Option V := (seqOf σ a).bind fun vs => i.asInt.bind fun k =>
  if 0 ≤ k then (if k < 1000000 then vs[k.toNat]? else Option.none) else if 0 ≤ k + vs.length ∧ -1000000 ≤ k then vs[(k + vs.length).toNat]? else Option.none

noncomputable def cutT (upto : Bool) (k : Int) (a : V) : Option V := match a with
  | .tup vs => if upto = false ∧ 1 ≤ k ∧ k ≤ vs.length ∧ vs.length ≤ 1000000 then some (.tup (vs.drop k.toNat)) else Option.none
  | _ => Option.none
/-- a part of a list or a tuple -/
noncomputable def cutV (σ : Store) (upto : Bool) (a i : V) : Option V :=
  match i with
  | .int k => if 0 ≤ k ∧ k < 1000000 then (match listOf σ a with
      | some vs => if vs.length ≤ 1000000 then some (.lst (if upto then vs.take k.toNat else vs.drop k.toNat)) else Option.none
      | Option.none => cutT upto k a) else Option.none
  | _ => Option.none
/-- a new list: an owned one or not -/
noncomputable def newL (own : Bool) (v : V) (σ : Store) : R V := match own, v with
  | true, .lst vs => .ok (.loc σ.length) (σ ++ [.list vs])
  | _, v => .ok v σ

noncomputable def intsOf : List V → Option (List Int)
  | [] => some []
  | .int i :: r => (intsOf r).map (i :: ·)
  | _ => Option.none

noncomputable def insertI (a : Int) : List Int → List Int
  | [] => [a]
  | b :: r => if a ≤ b then a :: b :: r else b :: insertI a r
noncomputable def sortI : List Int → List Int
  | [] => []
  | a :: r => insertI a (sortI r)

/-- the exception classes by number: the first is above all -/
noncomputable def subX (k j : Nat) : Bool := j.beq 0 || k.beq j
noncomputable def isI (v : V) : Option Bool := match v with | .int _ => some true | .bool _ => some true | _ => Option.none
noncomputable def isB (v : V) : Option Bool := match v with | .int _ => some false | .bool _ => some true | _ => Option.none
noncomputable def isT (v : V) : Option Bool := match v with | .tup _ => some true | _ => Option.none
noncomputable def isS (v : V) : Option Bool := match v with | .str _ => some true | _ => Option.none
noncomputable def asX (v : V) : Option Nat := match v with | .exc k => some k | _ => Option.none
theorem isT_inv {v : V} {b : Bool} (h : isT v = some b) : (∃ vs, v = .tup vs) ∧ b = true := by
  cases v with
  | tup vs => exact ⟨⟨vs, rfl⟩, (Option.some.inj h).symm⟩
  | _ => cases h
theorem isS_inv {v : V} {b : Bool} (h : isS v = some b) : (∃ s, v = .str s) ∧ b = true := by
  cases v with
  | str s => exact ⟨⟨s, rfl⟩, (Option.some.inj h).symm⟩
  | _ => cases h
theorem asX_inv {v : V} {k : Nat} (h : asX v = some k) : v = .exc k := by
  cases v with
  | exc j => exact congrArg V.exc (Option.some.inj h)
  | _ => cases h
noncomputable def isiV (σ : Store) (v : V) (t : TY) : Option Bool :=
  match t with
  | .int => isI v
  | .bool => isB v
  | .tuple => isT v
  | .list => (listOf σ v).map fun _ => true
  | .str => isS v
  | .exc _ j => (asX v).map fun k => subX k j
  | .verr => (asX v).map fun _ => true

noncomputable def bi1 (vs : List V) (f : V → Option V) : Option V := match vs with
  | [v] => f v
  | _ => Option.none
noncomputable def bi2 (vs : List V) (f : Int → Int → V) : Option V := match vs with
  | [a, b] => on2 a b fun x y => some (f x y)
  | _ => Option.none
theorem bi1_inv {vs : List V} {f : V → Option V} {v : V} (h : bi1 vs f = some v) : ∃ w, vs = [w] ∧ f w = some v := by
  unfold bi1 at h
  split at h
  · exact ⟨_, rfl, h⟩
  · cases h
theorem bi2_inv {vs : List V} {f : Int → Int → V} {v : V} (h : bi2 vs f = some v) : ∃ a b, vs = [.int a, .int b] ∧ v = f a b := by
  unfold bi2 at h
  split at h
  · obtain ⟨x, y, rfl, rfl, e⟩ := on2_inv h
    exact ⟨x, y, rfl, (Option.some.inj e).symm⟩
  · cases h

noncomputable def intOf (v : V) : Option V := match v with | .bool b => some (.int (if b then 1 else 0)) | _ => Option.none
theorem intOf_inv {v r : V} (h : intOf v = some r) : ∃ b, v = .bool b ∧ r = .int (if b then 1 else 0) := by
  cases v with
  | bool b => exact ⟨b, rfl, (Option.some.inj h).symm⟩
  | _ => cases h
noncomputable def biV (σ : Store) (b : BI) (vs : List V) : Option V :=
  match b with
  | .len => bi1 vs fun v => (seqOf σ v).bind fun l => if l.length ≤ 1000000 then some (.int (l.length : Int)) else Option.none
  | .max2 => bi2 vs fun a b => .int (if a < b then b else a)
  | .min2 => bi2 vs fun a b => .int (if b < a then b else a)
  | .sorted => bi1 vs fun v => ((listOf σ v).bind intsOf).bind fun l => if l.length < 64 then some (.lst ((sortI l).map .int)) else Option.none
  | .int => bi1 vs intOf

/-- the sum of the ints that lie at a place of tuples -/
noncomputable def tupOf (v : V) : Option (List V) := match v with
  | .tup vs => some vs
  | _ => Option.none
noncomputable def colOf (k : Nat) : List V → Option (List Int)
  | [] => some []
  | v :: r => (tupOf v).bind fun ws => (ws[k]?).bind fun w => w.asInt.bind fun i => (colOf k r).map (i :: ·)
noncomputable def sumAtV (σ : Store) (k : Nat) (v : V) : Option V := (listOf σ v).bind fun vs => (colOf k vs).bind fun is => if vs.length ≤ 1000000 ∧ k < 1000000 then some (.int is.sum) else Option.none

/-- four items turned round -/
noncomputable def rev4 (vs : List V) : Option V := match vs with
  | [a, b, c, d] => some (.lst [d, c, b, a])
  | _ => Option.none
/-- a str, as often as a bool says -/
noncomputable def strMulV (s : Str) (n : Int) : Option V := if n = 0 then some (.str "") else if n = 1 then some (.str s) else if n = 31 ∧ s.length ≤ 100 then some (.str (Txt.mul s 31)) else Option.none

/-- of a str of a plain length -/
noncomputable def V.asStr (v : V) : Option Str := match v with
  | .str s => some s
  | _ => Option.none
noncomputable def onS (v : V) (f : Str → Option V) : Option V := v.asStr.bind fun s => if s.length ≤ 10000 then f s else Option.none
noncomputable abbrev strsV (l : List Str) : List V := l.map V.str
noncomputable def strsL : List V → Option (List Str)
  | [] => some []
  | v :: r => v.asStr.bind fun s => (strsL r).map (s :: ·)
noncomputable def catV (a b : V) : Option V := onS a fun x => onS b fun y => some (.str (x ++ y))
noncomputable def sidxV (a i : V) : Option V := onS a fun x => i.asInt.bind fun k => if 0 ≤ k ∧ k < (x.length : Int) then some (.str (Txt.item x k)) else Option.none
noncomputable def scutV (upto : Bool) (a i : V) : Option V := onS a fun x => i.asInt.bind fun k => some (.str (if upto then Txt.slice x Option.none (some k) else Txt.slice x (some k) Option.none))
noncomputable def joinV (ys : List Str) : Option V := if (ys.map (·.length)).sum + ys.length ≤ 10000 then some (.str (Txt.join " " ys)) else Option.none
noncomputable def giveV (x : Str) : Option V := some (.lst [.str ("give" ++ Txt.slice x (some 3) Option.none), .str (Txt.replace x " " "\t")])
noncomputable def textV (n : Int) : Option V := if n.natAbs.log2 < 1920 then some (.str (Str.ofString (toString n))) else Option.none
noncomputable def numV (x : Str) : Option V := if x.length ≤ 640 then (intText? x).map .int else Option.none
noncomputable def minV (is : List Int) : Option V := match is with
  | [] => Option.none
  | a :: r => if r.length ≤ 1000 then some (.int (r.foldl min a)) else Option.none
noncomputable def texts : List Int → Option (List V)
  | [] => some []
  | n :: r => (textV n).bind fun v => (texts r).map (v :: ·)
noncomputable def textsV (vs : List V) : Option V := match vs with
  | [] => Option.none
  | v :: r => (intsOf r).bind fun is => if is.length ≤ 1000 then (texts is).map fun ts => .lst (v :: ts) else Option.none

noncomputable def fieldOf (x : Nat) : List (Nat × V) → Option V
  | [] => Option.none
  | (y, v) :: r => if x = y then some v else fieldOf x r
noncomputable def putField (x : Nat) (v : V) : List (Nat × V) → List (Nat × V)
  | [] => [(x, v)]
  | (y, w) :: r => if x = y then (y, v) :: r else (y, w) :: putField x v r

/-- what the defs mean: by number; classes: the number of __init__; which defs are a class's methods, which names its fields -/
structure Fns where
  fn : Nat → List V → Store → R V
  init : Nat → Option Nat
  methOk : Nat → Nat → Bool
  attrOk : Nat → Nat → Bool

noncomputable def ofOpt {α : Type} (o : Option α) (σ : Store) : R α := match o with
  | some a => .ok a σ
  | Option.none => .stuck

mutual
noncomputable def evalE (Φ : Fns) (ρ : Loc) : ME → Store → R V
  | .var i, σ => match ρ[i]? with
    | some (some v) => .ok v σ
    | _ => .stuck
  | .cint k, σ => .ok (.int k) σ
  | .cstr s, σ => .ok (.str s) σ
  | .cnone, σ => .ok .none σ
  | .cbool b, σ => .ok (.bool b) σ
  | .gint _ k, σ => .ok (.int k) σ
  | .gstr _ s, σ => .ok (.str s) σ
  | .bin op a b, σ => (evalE Φ ρ a σ).bind fun x σ => (evalE Φ ρ b σ).bind fun y σ => ofOpt (binV σ op x y) σ
  | .neg a, σ => (evalE Φ ρ a σ).bind fun x σ => match x with
    | .int i => .ok (.int (-i)) σ
    | _ => .stuck
  | .not a, σ => (evalE Φ ρ a σ).bind fun x σ => ofOpt ((truth x).map fun b => .bool (!b)) σ
  | .and es, σ => evalAnd Φ ρ es σ
  | .or es, σ => evalOr Φ ρ es σ
  | .cmp op a b, σ => (evalE Φ ρ a σ).bind fun x σ => (evalE Φ ρ b σ).bind fun y σ => ofOpt (cmpV σ op x y) σ
  | .cmp2 op₁ op₂ a b c, σ => (evalE Φ ρ a σ).bind fun x σ => (evalE Φ ρ b σ).bind fun y σ => (ofOpt (cmpV σ op₁ x y) σ).bind fun r σ => (ofOpt (truth r) σ).bind fun t σ =>
      if t then (evalE Φ ρ c σ).bind fun z σ => ofOpt (cmpV σ op₂ y z) σ else .ok r σ
  | .call f args, σ => (evalEs Φ ρ args σ).bind fun vs σ => Φ.fn f vs σ
  | .bi b args, σ => (evalEs Φ ρ args σ).bind fun vs σ => ofOpt (biV σ b vs) σ
  | .copy own e, σ => (evalE Φ ρ e σ).bind fun v σ => match listOf σ v with
    | some vs => if vs.length ≤ 1000000 then (if own then .ok (.loc σ.length) (σ ++ [.list vs]) else .ok (.lst vs) σ) else .stuck
    | Option.none => .stuck
  | .isi e t, σ => (evalE Φ ρ e σ).bind fun x σ => ofOpt ((isiV σ x t).map .bool) σ
  | .make c args, σ => (evalEs Φ ρ args σ).bind fun vs σ => match Φ.init c with
    | some f => (Φ.fn f (.loc σ.length :: vs) (σ ++ [.inst c []])).bind fun r σ' => match r with
      | .none => .ok (.loc σ.length) σ'
      | _ => .stuck
    | _ => .stuck
  | .meth o f args, σ => (evalE Φ ρ o σ).bind fun x σ₁ => match x with
    | .loc i => (evalEs Φ ρ args σ₁).got fun vs σ => match σ[i]?, σ₁[i]? with
      | some (.inst c _), some (.inst c' _) => if c' = c ∧ Φ.methOk c f = true then Φ.fn f (.loc i :: vs) σ else .stuck
      | _, _ => .stuck
    | _ => .stuck
  | .attr o x, σ => (evalE Φ ρ o σ).bind fun v σ => match v with
    | .loc i => match σ[i]? with
      | some (.inst c fs) => if Φ.attrOk c x = true then ofOpt (fieldOf x fs) σ else .stuck
      | _ => .stuck
    | _ => .stuck
  | .idx a i, σ => (evalE Φ ρ a σ).bind fun x σ => (evalE Φ ρ i σ).bind fun y σ => ofOpt (itemV σ x y) σ
  | .sliceTo own a k, σ => (evalE Φ ρ a σ).bind fun x σ => (evalE Φ ρ k σ).bind fun y σ => (ofOpt (cutV σ true x y) σ).bind fun v σ => newL own v σ
  | .sliceFrom own a k, σ => (evalE Φ ρ a σ).bind fun x σ => (evalE Φ ρ k σ).bind fun y σ => (ofOpt (cutV σ false x y) σ).bind fun v σ => newL own v σ
  | .tup es, σ => (evalEs Φ ρ es σ).bind fun vs σ => .ok (.tup vs) σ
  | .lst own es, σ => (evalEs Φ ρ es σ).bind fun vs σ => if own then .ok (.loc σ.length) (σ ++ [.list vs]) else .ok (.lst vs) σ
  | .sumAt k i, σ => match ρ[i]? with
    | some (some v) => ofOpt (sumAtV σ k v) σ
    | _ => .stuck
  | .rev e, σ => (evalE Φ ρ e σ).bind fun v σ => ofOpt ((listOf σ v).bind rev4) σ
  | .strMul s e, σ => (evalE Φ ρ e σ).bind fun v σ => ofOpt (v.asInt.bind (strMulV s)) σ
  | .cat a b, σ => (evalE Φ ρ a σ).bind fun x σ => (evalE Φ ρ b σ).bind fun y σ => ofOpt (catV x y) σ
  | .slen a, σ => (evalE Φ ρ a σ).bind fun x σ => ofOpt (onS x fun s => some (.int (s.length : Int))) σ
  | .sidx a i, σ => (evalE Φ ρ a σ).bind fun x σ => (evalE Φ ρ i σ).bind fun y σ => ofOpt (sidxV x y) σ
  | .sTo a k, σ => (evalE Φ ρ a σ).bind fun x σ => (evalE Φ ρ k σ).bind fun y σ => ofOpt (scutV true x y) σ
  | .sFrom a k, σ => (evalE Φ ρ a σ).bind fun x σ => (evalE Φ ρ k σ).bind fun y σ => ofOpt (scutV false x y) σ
  | .split own a, σ => (evalE Φ ρ a σ).bind fun x σ => (ofOpt (onS x fun s => some (.lst (strsV (Txt.split s " ")))) σ).bind fun v σ => newL own v σ
  | .join a, σ => (evalE Φ ρ a σ).bind fun x σ => ofOpt (((listOf σ x).bind strsL).bind joinV) σ
  | .upper a, σ => (evalE Φ ρ a σ).bind fun x σ => ofOpt (onS x fun s => some (.str (Txt.upper s))) σ
  | .giveRepl i, σ => match ρ[i]? with
    | some (some v) => ofOpt (onS v giveV) σ
    | _ => .stuck
  | .strOf a, σ => (evalE Φ ρ a σ).bind fun x σ => ofOpt (x.asInt.bind textV) σ
  | .intOf a, σ => (evalE Φ ρ a σ).bind fun x σ => ofOpt (onS x numV) σ
  | .notIn a b, σ => (evalE Φ ρ a σ).bind fun x σ => (evalE Φ ρ b σ).bind fun y σ => ofOpt (onS x fun s => onS y fun t => some (.bool (!Txt.contains t s))) σ
  | .inT ws a, σ => (evalE Φ ρ a σ).bind fun x σ => ofOpt (onS x fun s => some (.bool (ws.any (· == s)))) σ
  | .notInL ws a, σ => (evalE Φ ρ a σ).bind fun x σ => ofOpt (onS x fun s => some (.bool (!ws.any (· == s)))) σ
  | .minL a, σ => (evalE Φ ρ a σ).bind fun x σ => ofOpt (((listOf σ x).bind intsOf).bind minV) σ
  | .shownL i, σ => match ρ[i]? with
    | some (some v) => ofOpt ((tupOf v).bind textsV) σ
    | _ => .stuck
noncomputable def evalEs (Φ : Fns) (ρ : Loc) : List ME → Store → R (List V)
  | [], σ => .ok [] σ
  | e :: es, σ => (evalE Φ ρ e σ).bind fun v σ => (evalEs Φ ρ es σ).bind fun vs σ => .ok (v :: vs) σ
noncomputable def evalAnd (Φ : Fns) (ρ : Loc) : List ME → Store → R V
  | [], _ => .stuck
  | e :: es, σ => (evalE Φ ρ e σ).bind fun v σ => match es with
    | [] => .ok v σ
    | _ :: _ => (ofOpt (truth v) σ).bind fun t σ => if t then evalAnd Φ ρ es σ else .ok v σ
noncomputable def evalOr (Φ : Fns) (ρ : Loc) : List ME → Store → R V
  | [], _ => .stuck
  | e :: es, σ => (evalE Φ ρ e σ).bind fun v σ => match es with
    | [] => .ok v σ
    | _ :: _ => (ofOpt (truth v) σ).bind fun t σ => if t then .ok v σ else evalOr Φ ρ es σ
end

inductive Fl where
  | next (ρ : Loc)
  | brk (ρ : Loc)
  | cont (ρ : Loc)
  | ret (v : V)

inductive SR where
  | ok (f : Fl) (σ : Store)
  | exn (made : Bool) (c : Addr) (ρ : Loc) (σ : Store)
  | stuck

/-- the same, but no exception may come -/
noncomputable def R.son {α : Type} (r : R α) (f : α → Store → SR) : SR :=
  match r with
  | .ok a σ => f a σ
  | _ => .stuck
/-- an expression's outcome within a statement -/
noncomputable def R.on {α : Type} (r : R α) (ρ : Loc) (f : α → Store → SR) : SR :=
  match r with
  | .ok a σ => f a σ
  | .exn c σ => .exn false c ρ σ
  | .stuck => .stuck

open Classical in
noncomputable def forL (src : V) (all : List V) (body : Loc → Store → SR) (i : Nat) : List V → Loc → Store → SR
  | [], ρ, σ => .ok (.next ρ) σ
  | v :: r, ρ, σ => match body (ρ.set i (some v)) σ with
    | .ok (.next ρ') σ' => if listOf σ' src = some all then forL src all body i r ρ' σ' else .stuck
    | .ok (.cont ρ') σ' => if listOf σ' src = some all then forL src all body i r ρ' σ' else .stuck
    | .ok (.brk ρ') σ' => .ok (.next ρ') σ'
    | .ok (.ret v) σ' => .ok (.ret v) σ'
    | .exn b c ρ' σ' => .exn b c ρ' σ'
    | .stuck => .stuck

open Classical in
/-- the same with any way of binding -/
noncomputable def forG (src : V) (all : List V) (body : Loc → Store → SR) (bnd : V → Loc → Option Loc) : List V → Loc → Store → SR
  | [], ρ, σ => .ok (.next ρ) σ
  | v :: r, ρ, σ => match bnd v ρ with
    | Option.none => .stuck
    | some ρ₁ => match body ρ₁ σ with
      | .ok (.next ρ') σ' => if listOf σ' src = some all then forG src all body bnd r ρ' σ' else .stuck
      | .ok (.cont ρ') σ' => if listOf σ' src = some all then forG src all body bnd r ρ' σ' else .stuck
      | .ok (.brk ρ') σ' => .ok (.next ρ') σ'
      | .ok (.ret v) σ' => .ok (.ret v) σ'
      | .exn b c ρ' σ' => .exn b c ρ' σ'
      | .stuck => .stuck
noncomputable def forR (body : Loc → Store → SR) (i : Nat) : Nat → Int → Loc → Store → SR
  | 0, _, ρ, σ => .ok (.next ρ) σ
  | n + 1, k, ρ, σ => match body (ρ.set i (some (.int k))) σ with
    | .ok (.next ρ') σ' => forR body i n (k + 1) ρ' σ'
    | .ok (.cont ρ') σ' => forR body i n (k + 1) ρ' σ'
    | .ok (.brk ρ') σ' => .ok (.next ρ') σ'
    | .ok (.ret v) σ' => .ok (.ret v) σ'
    | .exn b c ρ' σ' => .exn b c ρ' σ'
    | .stuck => .stuck

/-- the same over the signs of a str -/
noncomputable def forC (body : Loc → Store → SR) (i : Nat) : List Nat → Loc → Store → SR
  | [], ρ, σ => .ok (.next ρ) σ
  | k :: r, ρ, σ => match body (ρ.set i (some (.str ⟨#[k]⟩))) σ with
    | .ok (.next ρ') σ' => forC body i r ρ' σ'
    | .ok (.cont ρ') σ' => forC body i r ρ' σ'
    | .ok (.brk ρ') σ' => .ok (.next ρ') σ'
    | .ok (.ret v) σ' => .ok (.ret v) σ'
    | .exn b c ρ' σ' => .exn b c ρ' σ'
    | .stuck => .stuck
/-- a def's answers, item by item -/
noncomputable def mapR (g : List V → Store → R V) : List V → Store → R (List V)
  | [], σ => .ok [] σ
  | v :: r, σ => (g [v] σ).got fun y σ => (mapR g r σ).bind fun ys σ => .ok (y :: ys) σ

noncomputable def whileL (test : Loc → Store → R V) (body : Loc → Store → SR) : Nat → Loc → Store → SR
  | 0, _, _ => .stuck
  | n + 1, ρ, σ => (test ρ σ).on ρ fun v σ => match truth v with
    | some true => match body ρ σ with
      | .ok (.next ρ') σ' => whileL test body n ρ' σ'
      | .ok (.cont ρ') σ' => whileL test body n ρ' σ'
      | .ok (.brk ρ') σ' => .ok (.next ρ') σ'
      | .ok (.ret v) σ' => .ok (.ret v) σ'
      | .exn b c ρ' σ' => .exn b c ρ' σ'
      | .stuck => .stuck
    | some false => .ok (.next ρ) σ
    | Option.none => .stuck

/-- names bound to the items of a tuple -/
noncomputable def setAll : List Nat → List V → Loc → Option Loc
  | [], [], ρ => some ρ
  | i :: is, v :: vs, ρ => setAll is vs (ρ.set i (some v))
  | _, _, _ => Option.none

noncomputable def bindT (is : List Nat) (v : V) (ρ : Loc) : Option Loc := match v with
  | .tup vs => setAll is vs ρ
  | _ => Option.none
noncomputable def rangeOf (vs : List V) : Option (Int × Nat) := match vs with
  | [a] => a.asInt.bind fun b => if -1000000 < b ∧ b < 1000000 then some (0, b.toNat) else Option.none
  | [x, y] => x.asInt.bind fun a => y.asInt.bind fun b => if (-1000000 < a ∧ a < 1000000) ∧ (-1000000 < b ∧ b < 1000000) then some (a, (b - a).toNat) else Option.none
  | _ => Option.none

/-- the name of a caught exception -/
noncomputable def putX (as : Option Nat) (k : Nat) (ρ : Loc) : Loc := match as with
  | some i => ρ.set i (some (.exc k))
  | Option.none => ρ
noncomputable def clr (as : Option Nat) (ρ : Loc) : Loc := match as with
  | some i => ρ.set i Option.none
  | Option.none => ρ
noncomputable def endF (as : Option Nat) : Fl → Fl
  | .next ρ => .next (clr as ρ)
  | .brk ρ => .brk (clr as ρ)
  | .cont ρ => .cont (clr as ρ)
  | .ret v => .ret v
noncomputable def endH (as : Option Nat) : SR → SR
  | .ok f σ => .ok (endF as f) σ
  | _ => .stuck

/-- an owned list -/
noncomputable def ownL (σ : Store) (w : V) : Option (Nat × List V) := match w with
  | .loc i => match σ[i]? with
    | some (.list vs) => some (i, vs)
    | _ => Option.none
  | _ => Option.none
/-- an item of an owned list is put -/
noncomputable def putAt (σ : Store) (w j v : V) : Option Store := (ownL σ w).bind fun q => j.asInt.bind fun n => if 0 ≤ n ∧ n.toNat < q.2.length ∧ q.2.length ≤ 1000000 then some (σ.set q.1 (.list (q.2.set n.toNat v))) else Option.none
noncomputable def sofO (ρ : Loc) (o : Option Store) : SR := match o with
  | some σ => .ok (.next ρ) σ
  | Option.none => .stuck
noncomputable def lstOf (v : V) : Option (List V) := match v with
  | .lst vs => some vs
  | _ => Option.none
noncomputable def nextO (o : Option Loc) (σ : Store) : SR := match o with
  | some ρ => .ok (.next ρ) σ
  | Option.none => .stuck
noncomputable def pairOf (v : V) : Option (V × V) := match v with
  | .tup vs => match vs with
    | [a, b] => some (a, b)
    | _ => Option.none
  | _ => Option.none

mutual
noncomputable def execS (Φ : Fns) : MS → Loc → Store → SR
  | .expr e, ρ, σ => (evalE Φ ρ e σ).on ρ fun _ σ => .ok (.next ρ) σ
  | .append o e, ρ, σ => (evalE Φ ρ o σ).on ρ fun x σ₁ => match x with
    | .loc i => (evalE Φ ρ e σ₁).son fun v σ => match σ[i]?, σ₁[i]? with
      | some (.list vs), some (.list _) => if vs.length < 1000000 then .ok (.next ρ) (σ.set i (.list (vs ++ [v]))) else .stuck
      | _, _ => .stuck
    | _ => .stuck
  | .assign i e, ρ, σ => (evalE Φ ρ e σ).on ρ fun v σ => .ok (.next (ρ.set i (some v))) σ
  | .unpack is e, ρ, σ => (evalE Φ ρ e σ).on ρ fun v σ => match v with
    | .tup vs => match setAll is vs ρ with
      | some ρ' => .ok (.next ρ') σ
      | Option.none => .stuck
    | _ => .stuck
  | .setattr o x e, ρ, σ => (evalE Φ ρ e σ).on ρ fun v σ => (evalE Φ ρ o σ).on ρ fun w σ => match w with
    | .loc i => match σ[i]? with
      | some (.inst c fs) => if Φ.attrOk c x = true ∧ fs.length < 900 then .ok (.next ρ) (σ.set i (.inst c (putField x v fs))) else .stuck
      | _ => .stuck
    | _ => .stuck
  | .setitem o k e, ρ, σ => (evalE Φ ρ e σ).on ρ fun v σ => (evalE Φ ρ o σ).on ρ fun w σ => (evalE Φ ρ k σ).on ρ fun j σ => sofO ρ (putAt σ w j v)
  | .unpackSub i o k e, ρ, σ => (evalE Φ ρ e σ).on ρ fun v σ => match pairOf v with
    | some q => (evalE Φ (ρ.set i (some q.1)) o σ).on (ρ.set i (some q.1)) fun w σ => (evalE Φ (ρ.set i (some q.1)) k σ).on (ρ.set i (some q.1)) fun j σ => sofO (ρ.set i (some q.1)) (putAt σ w j q.2)
    | Option.none => .stuck
  | .unpackL is e, ρ, σ => (evalE Φ ρ e σ).on ρ fun v σ => nextO ((lstOf v).bind fun vs => setAll is vs ρ) σ
  | .ite c a b, ρ, σ => (evalE Φ ρ c σ).on ρ fun v σ => match truth v with
    | some true => execB Φ a ρ σ
    | some false => execB Φ b ρ σ
    | Option.none => .stuck
  | .forIn i it body, ρ, σ => (evalE Φ ρ it σ).on ρ fun v σ => match listOf σ v with
    | some vs => forL v vs (execB Φ body) i vs ρ σ
    | Option.none => .stuck
  | .forRange i args body, ρ, σ => (evalEs Φ ρ args σ).on ρ fun vs σ => match rangeOf vs with
    | some (a, n) => forR (execB Φ body) i n a ρ σ
    | Option.none => .stuck
  | .forTup is it body, ρ, σ => (evalE Φ ρ it σ).on ρ fun v σ => match listOf σ v with
    | some vs => forG v vs (execB Φ body) (bindT is) vs ρ σ
    | Option.none => .stuck
  | .forStr i it body, ρ, σ => (evalE Φ ρ it σ).on ρ fun v σ => match v with
    | .str s => if s.length ≤ 10000 then forC (execB Φ body) i s.cps.toList ρ σ else .stuck
    | _ => .stuck
  | .asgMap i f j, ρ, σ => match ρ[j]? with
    | some (some v) => match listOf σ v with
      | some vs => if vs.length ≤ 1000 then (mapR (Φ.fn f) vs.tail σ).on ρ fun ys σ => .ok (.next (ρ.set i (some (.lst ys)))) σ else .stuck
      | Option.none => .stuck
    | _ => .stuck
  | .while fuel c body, ρ, σ => whileL (fun ρ σ => evalE Φ ρ c σ) (execB Φ body) fuel ρ σ
  | .ret e, ρ, σ => (evalE Φ ρ e σ).on ρ fun v σ => .ok (.ret v) σ
  | .retNone, _, σ => .ok (.ret .none) σ
  | .brk, ρ, σ => .ok (.brk ρ) σ
  | .cont, ρ, σ => .ok (.cont ρ) σ
  | .pass, ρ, σ => .ok (.next ρ) σ
  | .raise _ k _, ρ, σ => .exn true k ρ σ
  | .try body hs, ρ, σ => match execB Φ body ρ σ with
    | .ok f σ' => .ok f σ'
    | .exn false k ρ' σ' => execH Φ hs k ρ' σ'
    | _ => .stuck
  | .hand _ _ _, _, _ => .stuck
noncomputable def execH (Φ : Fns) : List MS → Nat → Loc → Store → SR
  | .hand j as suite :: hs, k, ρ, σ => if subX k j = true then endH as (execB Φ suite (putX as k ρ) σ) else execH Φ hs k ρ σ
  | _, _, _, _ => .stuck
noncomputable def execB (Φ : Fns) : List MS → Loc → Store → SR
  | [], ρ, σ => .ok (.next ρ) σ
  | s :: r, ρ, σ => match execS Φ s ρ σ with
    | .ok (.next ρ') σ' => execB Φ r ρ' σ'
    | x => x
end

/-- a def -/
structure Fn where
  addr : Addr
  name : Str
  slots : List Str
  nargs : Nat
  body : List MS
  quiet : Bool := false

noncomputable def callFn (Φ : Fns) (f : Fn) (vs : List V) (σ : Store) : R V :=
  if vs.length = f.nargs then
    match execB Φ f.body (vs.map some ++ List.replicate (f.slots.length - f.nargs) Option.none) σ with
    | .ok (.ret v) σ' => .ok v σ'
    | .ok (.next _) σ' => .ok .none σ'
    | .exn _ c _ σ' => .exn c σ'
    | _ => .stuck
  else .stuck

structure Prog where
  fns : List (Nat × Fn)
  classes : List (Addr × Nat)
  meths : List (Nat × Nat)
  attrs : List (Nat × Nat)

noncomputable def mkFns (p : Prog) (f : Nat → List V → Store → R V) : Fns :=
  { fn := f, init := fun c => (p.classes[c]?).map (·.2), methOk := fun c f => p.meths.contains (c, f), attrOk := fun c k => p.attrs.contains (c, k) }

/-- the defs below n -/
noncomputable def upTo (p : Prog) : Nat → Nat → List V → Store → R V
  | 0, _, _, _ => .stuck
  | n + 1, f, vs, σ => if f < n then upTo p n f vs σ else if f = n then
      (match p.fns.lookup n with
       | some d => callFn (mkFns p (upTo p n)) d vs σ
       | Option.none => .stuck) else .stuck

/-- a def by its number -/
noncomputable def fn (p : Prog) (f : Nat) (vs : List V) (σ : Store) : R V := upTo p (f + 1) f vs σ
/-- the defs that def n may call -/
noncomputable def pre (p : Prog) (n : Nat) : Fns := mkFns p (upTo p n)

theorem upTo_fn (p : Prog) : ∀ (n f : Nat) (vs : List V) (σ : Store), f < n → upTo p n f vs σ = fn p f vs σ
  | 0, _, _, _, h => absurd h (Nat.not_lt_zero _)
  | n + 1, f, vs, σ, h => by
    by_cases e : f < n
    · rw [upTo, if_pos e]; exact upTo_fn p n f vs σ e
    · have : f = n := by omega
      subst this; rfl
theorem fn_def {p : Prog} {f : Nat} {d : Fn} (h : p.fns.lookup f = some d) (vs : List V) (σ : Store) : fn p f vs σ = callFn (pre p f) d vs σ := by
  unfold fn
  rw [upTo, if_neg (Nat.lt_irrefl _), if_pos rfl, h]
  rfl
theorem pre_fn {p : Prog} {n f : Nat} (h : f < n) (vs : List V) (σ : Store) : (pre p n).fn f vs σ = fn p f vs σ := upTo_fn p n f vs σ h
end Mine
set_option maxRecDepth 100000
namespace Mine
open PySem
theorem ee_var {Φ : Fns} {ρ : Loc} {σ : Store} {i : Nat} : evalE Φ ρ (.var i) σ = (match ρ[i]? with
    | some (some v) => .ok v σ
    | _ => .stuck) := rfl
theorem ee_cint {Φ : Fns} {ρ : Loc} {σ : Store} {k : Int} : evalE Φ ρ (.cint k) σ = (.ok (.int k) σ) := rfl
theorem ee_cstr {Φ : Fns} {ρ : Loc} {σ : Store} {s : Str} : evalE Φ ρ (.cstr s) σ = (.ok (.str s) σ) := rfl
theorem ee_cnone {Φ : Fns} {ρ : Loc} {σ : Store} : evalE Φ ρ (.cnone) σ = (.ok .none σ) := rfl
theorem ee_cbool {Φ : Fns} {ρ : Loc} {σ : Store} {b : Bool} : evalE Φ ρ (.cbool b) σ = (.ok (.bool b) σ) := rfl
theorem ee_gint {Φ : Fns} {ρ : Loc} {σ : Store} {z1 : Str} {k : Int} : evalE Φ ρ (.gint z1 k) σ = (.ok (.int k) σ) := rfl
theorem ee_gstr {Φ : Fns} {ρ : Loc} {σ : Store} {z1 : Str} {s : Str} : evalE Φ ρ (.gstr z1 s) σ = (.ok (.str s) σ) := rfl
theorem ee_bin {Φ : Fns} {ρ : Loc} {σ : Store} {op : Operator} {a : ME} {b : ME} : evalE Φ ρ (.bin op a b) σ = ((evalE Φ ρ a σ).bind fun x σ => (evalE Φ ρ b σ).bind fun y σ => ofOpt (binV σ op x y) σ) := rfl
theorem ee_neg {Φ : Fns} {ρ : Loc} {σ : Store} {a : ME} : evalE Φ ρ (.neg a) σ = ((evalE Φ ρ a σ).bind fun x σ => match x with
    | .int i => .ok (.int (-i)) σ
    | _ => .stuck) := rfl
theorem ee_not {Φ : Fns} {ρ : Loc} {σ : Store} {a : ME} : evalE Φ ρ (.not a) σ = ((evalE Φ ρ a σ).bind fun x σ => ofOpt ((truth x).map fun b => .bool (!b)) σ) := rfl
theorem ee_and {Φ : Fns} {ρ : Loc} {σ : Store} {es : List ME} : evalE Φ ρ (.and es) σ = (evalAnd Φ ρ es σ) := rfl
theorem ee_or {Φ : Fns} {ρ : Loc} {σ : Store} {es : List ME} : evalE Φ ρ (.or es) σ = (evalOr Φ ρ es σ) := rfl
theorem ee_cmp {Φ : Fns} {ρ : Loc} {σ : Store} {op : CmpOp} {a : ME} {b : ME} : evalE Φ ρ (.cmp op a b) σ = ((evalE Φ ρ a σ).bind fun x σ => (evalE Φ ρ b σ).bind fun y σ => ofOpt (cmpV σ op x y) σ) := rfl
theorem ee_cmp2 {Φ : Fns} {ρ : Loc} {σ : Store} {op₁ : CmpOp} {op₂ : CmpOp} {a : ME} {b : ME} {c : ME} : evalE Φ ρ (.cmp2 op₁ op₂ a b c) σ = ((evalE Φ ρ a σ).bind fun x σ => (evalE Φ ρ b σ).bind fun y σ => (ofOpt (cmpV σ op₁ x y) σ).bind fun r σ => (ofOpt (truth r) σ).bind fun t σ =>
      if t then (evalE Φ ρ c σ).bind fun z σ => ofOpt (cmpV σ op₂ y z) σ else .ok r σ) := rfl
theorem ee_call {Φ : Fns} {ρ : Loc} {σ : Store} {f : Nat} {args : List ME} : evalE Φ ρ (.call f args) σ = ((evalEs Φ ρ args σ).bind fun vs σ => Φ.fn f vs σ) := rfl
theorem ee_bi {Φ : Fns} {ρ : Loc} {σ : Store} {b : BI} {args : List ME} : evalE Φ ρ (.bi b args) σ = ((evalEs Φ ρ args σ).bind fun vs σ => ofOpt (biV σ b vs) σ) := rfl
theorem ee_copy {Φ : Fns} {ρ : Loc} {σ : Store} {own : Bool} {e : ME} : evalE Φ ρ (.copy own e) σ = ((evalE Φ ρ e σ).bind fun v σ => match listOf σ v with
    | some vs => if vs.length ≤ 1000000 then (if own then .ok (.loc σ.length) (σ ++ [.list vs]) else .ok (.lst vs) σ) else .stuck
    | Option.none => .stuck) := rfl
theorem ee_isi {Φ : Fns} {ρ : Loc} {σ : Store} {e : ME} {t : TY} : evalE Φ ρ (.isi e t) σ = ((evalE Φ ρ e σ).bind fun x σ => ofOpt ((isiV σ x t).map .bool) σ) := rfl
theorem ee_make {Φ : Fns} {ρ : Loc} {σ : Store} {c : Nat} {args : List ME} : evalE Φ ρ (.make c args) σ = ((evalEs Φ ρ args σ).bind fun vs σ => match Φ.init c with
    | some f => (Φ.fn f (.loc σ.length :: vs) (σ ++ [.inst c []])).bind fun r σ' => match r with
      | .none => .ok (.loc σ.length) σ'
      | _ => .stuck
    | _ => .stuck) := rfl
theorem ee_meth {Φ : Fns} {ρ : Loc} {σ : Store} {o : ME} {f : Nat} {args : List ME} : evalE Φ ρ (.meth o f args) σ = ((evalE Φ ρ o σ).bind fun x σ₁ => match x with
    | .loc i => (evalEs Φ ρ args σ₁).got fun vs σ => match σ[i]?, σ₁[i]? with
      | some (.inst c _), some (.inst c' _) => if c' = c ∧ Φ.methOk c f = true then Φ.fn f (.loc i :: vs) σ else .stuck
      | _, _ => .stuck
    | _ => .stuck) := rfl
theorem ee_attr {Φ : Fns} {ρ : Loc} {σ : Store} {o : ME} {x : Nat} : evalE Φ ρ (.attr o x) σ = ((evalE Φ ρ o σ).bind fun v σ => match v with
    | .loc i => match σ[i]? with
      | some (.inst c fs) => if Φ.attrOk c x = true then ofOpt (fieldOf x fs) σ else .stuck
      | _ => .stuck
    | _ => .stuck) := rfl
theorem ee_idx {Φ : Fns} {ρ : Loc} {σ : Store} {a : ME} {i : ME} : evalE Φ ρ (.idx a i) σ = ((evalE Φ ρ a σ).bind fun x σ => (evalE Φ ρ i σ).bind fun y σ => ofOpt (itemV σ x y) σ) := rfl
theorem ee_sliceTo {Φ : Fns} {ρ : Loc} {σ : Store} {own : Bool} {a : ME} {k : ME} : evalE Φ ρ (.sliceTo own a k) σ = ((evalE Φ ρ a σ).bind fun x σ => (evalE Φ ρ k σ).bind fun y σ => (ofOpt (cutV σ true x y) σ).bind fun v σ => newL own v σ) := rfl
theorem ee_sliceFrom {Φ : Fns} {ρ : Loc} {σ : Store} {own : Bool} {a : ME} {k : ME} : evalE Φ ρ (.sliceFrom own a k) σ = ((evalE Φ ρ a σ).bind fun x σ => (evalE Φ ρ k σ).bind fun y σ => (ofOpt (cutV σ false x y) σ).bind fun v σ => newL own v σ) := rfl
theorem ee_tup {Φ : Fns} {ρ : Loc} {σ : Store} {es : List ME} : evalE Φ ρ (.tup es) σ = ((evalEs Φ ρ es σ).bind fun vs σ => .ok (.tup vs) σ) := rfl
theorem ee_lst {Φ : Fns} {ρ : Loc} {σ : Store} {own : Bool} {es : List ME} : evalE Φ ρ (.lst own es) σ = ((evalEs Φ ρ es σ).bind fun vs σ => if own then .ok (.loc σ.length) (σ ++ [.list vs]) else .ok (.lst vs) σ) := rfl
theorem ee_sumAt {Φ : Fns} {ρ : Loc} {σ : Store} {k : Nat} {i : Nat} : evalE Φ ρ (.sumAt k i) σ = (match ρ[i]? with
    | some (some v) => ofOpt (sumAtV σ k v) σ
    | _ => .stuck) := rfl
theorem ee_rev {Φ : Fns} {ρ : Loc} {σ : Store} {e : ME} : evalE Φ ρ (.rev e) σ = ((evalE Φ ρ e σ).bind fun v σ => ofOpt ((listOf σ v).bind rev4) σ) := rfl
theorem ee_strMul {Φ : Fns} {ρ : Loc} {σ : Store} {s : Str} {e : ME} : evalE Φ ρ (.strMul s e) σ = ((evalE Φ ρ e σ).bind fun v σ => ofOpt (v.asInt.bind (strMulV s)) σ) := rfl
theorem ee_cat {Φ : Fns} {ρ : Loc} {σ : Store} {a : ME} {b : ME} : evalE Φ ρ (.cat a b) σ = ((evalE Φ ρ a σ).bind fun x σ => (evalE Φ ρ b σ).bind fun y σ => ofOpt (catV x y) σ) := rfl
theorem ee_slen {Φ : Fns} {ρ : Loc} {σ : Store} {a : ME} : evalE Φ ρ (.slen a) σ = ((evalE Φ ρ a σ).bind fun x σ => ofOpt (onS x fun s => some (.int (s.length : Int))) σ) := rfl
theorem ee_sidx {Φ : Fns} {ρ : Loc} {σ : Store} {a : ME} {i : ME} : evalE Φ ρ (.sidx a i) σ = ((evalE Φ ρ a σ).bind fun x σ => (evalE Φ ρ i σ).bind fun y σ => ofOpt (sidxV x y) σ) := rfl
theorem ee_sTo {Φ : Fns} {ρ : Loc} {σ : Store} {a : ME} {k : ME} : evalE Φ ρ (.sTo a k) σ = ((evalE Φ ρ a σ).bind fun x σ => (evalE Φ ρ k σ).bind fun y σ => ofOpt (scutV true x y) σ) := rfl
theorem ee_sFrom {Φ : Fns} {ρ : Loc} {σ : Store} {a : ME} {k : ME} : evalE Φ ρ (.sFrom a k) σ = ((evalE Φ ρ a σ).bind fun x σ => (evalE Φ ρ k σ).bind fun y σ => ofOpt (scutV false x y) σ) := rfl
theorem ee_split {Φ : Fns} {ρ : Loc} {σ : Store} {own : Bool} {a : ME} : evalE Φ ρ (.split own a) σ = ((evalE Φ ρ a σ).bind fun x σ => (ofOpt (onS x fun s => some (.lst (strsV (Txt.split s " ")))) σ).bind fun v σ => newL own v σ) := rfl
theorem ee_join {Φ : Fns} {ρ : Loc} {σ : Store} {a : ME} : evalE Φ ρ (.join a) σ = ((evalE Φ ρ a σ).bind fun x σ => ofOpt (((listOf σ x).bind strsL).bind joinV) σ) := rfl
theorem ee_upper {Φ : Fns} {ρ : Loc} {σ : Store} {a : ME} : evalE Φ ρ (.upper a) σ = ((evalE Φ ρ a σ).bind fun x σ => ofOpt (onS x fun s => some (.str (Txt.upper s))) σ) := rfl
theorem ee_giveRepl {Φ : Fns} {ρ : Loc} {σ : Store} {i : Nat} : evalE Φ ρ (.giveRepl i) σ = (match ρ[i]? with
    | some (some v) => ofOpt (onS v giveV) σ
    | _ => .stuck) := rfl
theorem ee_strOf {Φ : Fns} {ρ : Loc} {σ : Store} {a : ME} : evalE Φ ρ (.strOf a) σ = ((evalE Φ ρ a σ).bind fun x σ => ofOpt (x.asInt.bind textV) σ) := rfl
theorem ee_intOf {Φ : Fns} {ρ : Loc} {σ : Store} {a : ME} : evalE Φ ρ (.intOf a) σ = ((evalE Φ ρ a σ).bind fun x σ => ofOpt (onS x numV) σ) := rfl
theorem ee_notIn {Φ : Fns} {ρ : Loc} {σ : Store} {a : ME} {b : ME} : evalE Φ ρ (.notIn a b) σ = ((evalE Φ ρ a σ).bind fun x σ => (evalE Φ ρ b σ).bind fun y σ => ofOpt (onS x fun s => onS y fun t => some (.bool (!Txt.contains t s))) σ) := rfl
theorem ee_inT {Φ : Fns} {ρ : Loc} {σ : Store} {ws : List Str} {a : ME} : evalE Φ ρ (.inT ws a) σ = ((evalE Φ ρ a σ).bind fun x σ => ofOpt (onS x fun s => some (.bool (ws.any (· == s)))) σ) := rfl
theorem ee_notInL {Φ : Fns} {ρ : Loc} {σ : Store} {ws : List Str} {a : ME} : evalE Φ ρ (.notInL ws a) σ = ((evalE Φ ρ a σ).bind fun x σ => ofOpt (onS x fun s => some (.bool (!ws.any (· == s)))) σ) := rfl
theorem ee_minL {Φ : Fns} {ρ : Loc} {σ : Store} {a : ME} : evalE Φ ρ (.minL a) σ = ((evalE Φ ρ a σ).bind fun x σ => ofOpt (((listOf σ x).bind intsOf).bind minV) σ) := rfl
theorem ee_shownL {Φ : Fns} {ρ : Loc} {σ : Store} {i : Nat} : evalE Φ ρ (.shownL i) σ = (match ρ[i]? with
    | some (some v) => ofOpt ((tupOf v).bind textsV) σ
    | _ => .stuck) := rfl
theorem es_0 {Φ : Fns} {ρ : Loc} {σ : Store} : evalEs Φ ρ ([]) σ = (.ok [] σ) := rfl
theorem es_1 {Φ : Fns} {ρ : Loc} {σ : Store} {e : ME} {es : List ME} : evalEs Φ ρ (e :: es) σ = ((evalE Φ ρ e σ).bind fun v σ => (evalEs Φ ρ es σ).bind fun vs σ => .ok (v :: vs) σ) := rfl
theorem ea_0 {Φ : Fns} {ρ : Loc} {z1 : Store} : evalAnd Φ ρ ([]) z1 = (.stuck) := rfl
theorem ea_1 {Φ : Fns} {ρ : Loc} {σ : Store} {e : ME} {es : List ME} : evalAnd Φ ρ (e :: es) σ = ((evalE Φ ρ e σ).bind fun v σ => match es with
    | [] => .ok v σ
    | _ :: _ => (ofOpt (truth v) σ).bind fun t σ => if t then evalAnd Φ ρ es σ else .ok v σ) := rfl
theorem eo_0 {Φ : Fns} {ρ : Loc} {z1 : Store} : evalOr Φ ρ ([]) z1 = (.stuck) := rfl
theorem eo_1 {Φ : Fns} {ρ : Loc} {σ : Store} {e : ME} {es : List ME} : evalOr Φ ρ (e :: es) σ = ((evalE Φ ρ e σ).bind fun v σ => match es with
    | [] => .ok v σ
    | _ :: _ => (ofOpt (truth v) σ).bind fun t σ => if t then .ok v σ else evalOr Φ ρ es σ) := rfl
open Classical in
theorem fl_0 {src : V} {all : List V} {body : Loc → Store → SR} {i : Nat} {ρ : Loc} {σ : Store} : forL src all body i ([]) ρ σ = (.ok (.next ρ) σ) := rfl
open Classical in
theorem fl_1 {src : V} {all : List V} {body : Loc → Store → SR} {i : Nat} {v : V} {r : List V} {ρ : Loc} {σ : Store} : forL src all body i (v :: r) ρ σ = (match body (ρ.set i (some v)) σ with
    | .ok (.next ρ') σ' => if listOf σ' src = some all then forL src all body i r ρ' σ' else .stuck
    | .ok (.cont ρ') σ' => if listOf σ' src = some all then forL src all body i r ρ' σ' else .stuck
    | .ok (.brk ρ') σ' => .ok (.next ρ') σ'
    | .ok (.ret v) σ' => .ok (.ret v) σ'
    | .exn b c ρ' σ' => .exn b c ρ' σ'
    | .stuck => .stuck) := rfl
open Classical in
theorem fg_0 {src : V} {all : List V} {body : Loc → Store → SR} {bnd : V → Loc → Option Loc} {ρ : Loc} {σ : Store} : forG src all body bnd ([]) ρ σ = (.ok (.next ρ) σ) := rfl
open Classical in
theorem fg_1 {src : V} {all : List V} {body : Loc → Store → SR} {bnd : V → Loc → Option Loc} {v : V} {r : List V} {ρ : Loc} {σ : Store} : forG src all body bnd (v :: r) ρ σ = (match bnd v ρ with
    | Option.none => .stuck
    | some ρ₁ => match body ρ₁ σ with
      | .ok (.next ρ') σ' => if listOf σ' src = some all then forG src all body bnd r ρ' σ' else .stuck
      | .ok (.cont ρ') σ' => if listOf σ' src = some all then forG src all body bnd r ρ' σ' else .stuck
      | .ok (.brk ρ') σ' => .ok (.next ρ') σ'
      | .ok (.ret v) σ' => .ok (.ret v) σ'
      | .exn b c ρ' σ' => .exn b c ρ' σ'
      | .stuck => .stuck) := rfl
theorem fr_0 {body : Loc → Store → SR} {i : Nat} {ρ : Loc} {σ : Store} {z1 : Int} : forR body i (0) z1 ρ σ = (.ok (.next ρ) σ) := rfl
theorem fr_1 {body : Loc → Store → SR} {i n : Nat} {k : Int} {ρ : Loc} {σ : Store} : forR body i (n + 1) k ρ σ = (match body (ρ.set i (some (.int k))) σ with
    | .ok (.next ρ') σ' => forR body i n (k + 1) ρ' σ'
    | .ok (.cont ρ') σ' => forR body i n (k + 1) ρ' σ'
    | .ok (.brk ρ') σ' => .ok (.next ρ') σ'
    | .ok (.ret v) σ' => .ok (.ret v) σ'
    | .exn b c ρ' σ' => .exn b c ρ' σ'
    | .stuck => .stuck) := rfl
theorem wl_0 {test : Loc → Store → R V} {body : Loc → Store → SR} {z1 : Loc} {z2 : Store} : whileL test body (0) z1 z2 = (.stuck) := rfl
theorem wl_1 {test : Loc → Store → R V} {body : Loc → Store → SR} {n : Nat} {ρ : Loc} {σ : Store} : whileL test body (n + 1) ρ σ = ((test ρ σ).on ρ fun v σ => match truth v with
    | some true => match body ρ σ with
      | .ok (.next ρ') σ' => whileL test body n ρ' σ'
      | .ok (.cont ρ') σ' => whileL test body n ρ' σ'
      | .ok (.brk ρ') σ' => .ok (.next ρ') σ'
      | .ok (.ret v) σ' => .ok (.ret v) σ'
      | .exn b c ρ' σ' => .exn b c ρ' σ'
      | .stuck => .stuck
    | some false => .ok (.next ρ) σ
    | Option.none => .stuck) := rfl
theorem sa_0 {ρ : Loc} : setAll ([]) ([]) ρ = (some ρ) := rfl
theorem sa_1 {i : Nat} {is : List Nat} {v : V} {vs : List V} {ρ : Loc} : setAll (i :: is) (v :: vs) ρ = (setAll is vs (ρ.set i (some v))) := rfl
theorem xs_expr {Φ : Fns} {ρ : Loc} {σ : Store} {e : ME} : execS Φ (.expr e) ρ σ = ((evalE Φ ρ e σ).on ρ fun _ σ => .ok (.next ρ) σ) := rfl
theorem xs_append {Φ : Fns} {ρ : Loc} {σ : Store} {o : ME} {e : ME} : execS Φ (.append o e) ρ σ = ((evalE Φ ρ o σ).on ρ fun x σ₁ => match x with
    | .loc i => (evalE Φ ρ e σ₁).son fun v σ => match σ[i]?, σ₁[i]? with
      | some (.list vs), some (.list _) => if vs.length < 1000000 then .ok (.next ρ) (σ.set i (.list (vs ++ [v]))) else .stuck
      | _, _ => .stuck
    | _ => .stuck) := rfl
theorem xs_assign {Φ : Fns} {ρ : Loc} {σ : Store} {i : Nat} {e : ME} : execS Φ (.assign i e) ρ σ = ((evalE Φ ρ e σ).on ρ fun v σ => .ok (.next (ρ.set i (some v))) σ) := rfl
theorem xs_unpack {Φ : Fns} {ρ : Loc} {σ : Store} {is : List Nat} {e : ME} : execS Φ (.unpack is e) ρ σ = ((evalE Φ ρ e σ).on ρ fun v σ => match v with
    | .tup vs => match setAll is vs ρ with
      | some ρ' => .ok (.next ρ') σ
      | Option.none => .stuck
    | _ => .stuck) := rfl
theorem xs_setattr {Φ : Fns} {ρ : Loc} {σ : Store} {o : ME} {x : Nat} {e : ME} : execS Φ (.setattr o x e) ρ σ = ((evalE Φ ρ e σ).on ρ fun v σ => (evalE Φ ρ o σ).on ρ fun w σ => match w with
    | .loc i => match σ[i]? with
      | some (.inst c fs) => if Φ.attrOk c x = true ∧ fs.length < 900 then .ok (.next ρ) (σ.set i (.inst c (putField x v fs))) else .stuck
      | _ => .stuck
    | _ => .stuck) := rfl
theorem xs_setitem {Φ : Fns} {ρ : Loc} {σ : Store} {o : ME} {k : ME} {e : ME} : execS Φ (.setitem o k e) ρ σ = ((evalE Φ ρ e σ).on ρ fun v σ => (evalE Φ ρ o σ).on ρ fun w σ => (evalE Φ ρ k σ).on ρ fun j σ => sofO ρ (putAt σ w j v)) := rfl
theorem xs_unpackSub {Φ : Fns} {ρ : Loc} {σ : Store} {i : Nat} {o : ME} {k : ME} {e : ME} : execS Φ (.unpackSub i o k e) ρ σ = ((evalE Φ ρ e σ).on ρ fun v σ => match pairOf v with
    | some q => (evalE Φ (ρ.set i (some q.1)) o σ).on (ρ.set i (some q.1)) fun w σ => (evalE Φ (ρ.set i (some q.1)) k σ).on (ρ.set i (some q.1)) fun j σ => sofO (ρ.set i (some q.1)) (putAt σ w j q.2)
    | Option.none => .stuck) := rfl
theorem xs_unpackL {Φ : Fns} {ρ : Loc} {σ : Store} {is : List Nat} {e : ME} : execS Φ (.unpackL is e) ρ σ = ((evalE Φ ρ e σ).on ρ fun v σ => nextO ((lstOf v).bind fun vs => setAll is vs ρ) σ) := rfl
theorem xs_ite {Φ : Fns} {ρ : Loc} {σ : Store} {c : ME} {a : List MS} {b : List MS} : execS Φ (.ite c a b) ρ σ = ((evalE Φ ρ c σ).on ρ fun v σ => match truth v with
    | some true => execB Φ a ρ σ
    | some false => execB Φ b ρ σ
    | Option.none => .stuck) := rfl
theorem xs_forIn {Φ : Fns} {ρ : Loc} {σ : Store} {i : Nat} {it : ME} {body : List MS} : execS Φ (.forIn i it body) ρ σ = ((evalE Φ ρ it σ).on ρ fun v σ => match listOf σ v with
    | some vs => forL v vs (execB Φ body) i vs ρ σ
    | Option.none => .stuck) := rfl
theorem xs_forRange {Φ : Fns} {ρ : Loc} {σ : Store} {i : Nat} {args : List ME} {body : List MS} : execS Φ (.forRange i args body) ρ σ = ((evalEs Φ ρ args σ).on ρ fun vs σ => match rangeOf vs with
    | some (a, n) => forR (execB Φ body) i n a ρ σ
    | Option.none => .stuck) := rfl
theorem xs_forTup {Φ : Fns} {ρ : Loc} {σ : Store} {is : List Nat} {it : ME} {body : List MS} : execS Φ (.forTup is it body) ρ σ = ((evalE Φ ρ it σ).on ρ fun v σ => match listOf σ v with
    | some vs => forG v vs (execB Φ body) (bindT is) vs ρ σ
    | Option.none => .stuck) := rfl
theorem xs_forStr {Φ : Fns} {ρ : Loc} {σ : Store} {i : Nat} {it : ME} {body : List MS} : execS Φ (.forStr i it body) ρ σ = ((evalE Φ ρ it σ).on ρ fun v σ => match v with
    | .str s => if s.length ≤ 10000 then forC (execB Φ body) i s.cps.toList ρ σ else .stuck
    | _ => .stuck) := rfl
theorem xs_asgMap {Φ : Fns} {ρ : Loc} {σ : Store} {i : Nat} {f : Nat} {j : Nat} : execS Φ (.asgMap i f j) ρ σ = (match ρ[j]? with
    | some (some v) => match listOf σ v with
      | some vs => if vs.length ≤ 1000 then (mapR (Φ.fn f) vs.tail σ).on ρ fun ys σ => .ok (.next (ρ.set i (some (.lst ys)))) σ else .stuck
      | Option.none => .stuck
    | _ => .stuck) := rfl
theorem xs_while {Φ : Fns} {ρ : Loc} {σ : Store} {fuel : Nat} {c : ME} {body : List MS} : execS Φ (.while fuel c body) ρ σ = (whileL (fun ρ σ => evalE Φ ρ c σ) (execB Φ body) fuel ρ σ) := rfl
theorem xs_ret {Φ : Fns} {ρ : Loc} {σ : Store} {e : ME} : execS Φ (.ret e) ρ σ = ((evalE Φ ρ e σ).on ρ fun v σ => .ok (.ret v) σ) := rfl
theorem xs_retNone {Φ : Fns} {σ : Store} {z1 : Loc} : execS Φ (.retNone) z1 σ = (.ok (.ret .none) σ) := rfl
theorem xs_brk {Φ : Fns} {ρ : Loc} {σ : Store} : execS Φ (.brk) ρ σ = (.ok (.brk ρ) σ) := rfl
theorem xs_cont {Φ : Fns} {ρ : Loc} {σ : Store} : execS Φ (.cont) ρ σ = (.ok (.cont ρ) σ) := rfl
theorem xs_pass {Φ : Fns} {ρ : Loc} {σ : Store} : execS Φ (.pass) ρ σ = (.ok (.next ρ) σ) := rfl
theorem xs_raise {Φ : Fns} {ρ : Loc} {σ : Store} {z1 : Str} {k : Nat} {z2 : Str} : execS Φ (.raise z1 k z2) ρ σ = (.exn true k ρ σ) := rfl
theorem xs_try {Φ : Fns} {ρ : Loc} {σ : Store} {body : List MS} {hs : List MS} : execS Φ (.try body hs) ρ σ = (match execB Φ body ρ σ with
    | .ok f σ' => .ok f σ'
    | .exn false k ρ' σ' => execH Φ hs k ρ' σ'
    | _ => .stuck) := rfl
theorem xs_hand {Φ : Fns} {z1 : Nat} {z2 : Option Nat} {z3 : List MS} {z4 : Loc} {z5 : Store} : execS Φ (.hand z1 z2 z3) z4 z5 = (.stuck) := rfl
theorem xh_0 {Φ : Fns} {j k : Nat} {as : Option Nat} {suite hs : List MS} {ρ : Loc} {σ : Store} : execH Φ (.hand j as suite :: hs) k ρ σ = (if subX k j = true then endH as (execB Φ suite (putX as k ρ) σ) else execH Φ hs k ρ σ) := rfl
theorem xb_0 {Φ : Fns} {ρ : Loc} {σ : Store} : execB Φ ([]) ρ σ = (.ok (.next ρ) σ) := rfl
theorem xb_1 {Φ : Fns} {s : MS} {r : List MS} {ρ : Loc} {σ : Store} : execB Φ (s :: r) ρ σ = (match execS Φ s ρ σ with
    | .ok (.next ρ') σ' => execB Φ r ρ' σ'
    | x => x) := rfl
theorem sa_8 {v : V} {vs : List V} {ρ : Loc} : setAll [] (v :: vs) ρ = Option.none := rfl
theorem sa_9 {i : Nat} {is : List Nat} {ρ : Loc} : setAll (i :: is) [] ρ = Option.none := rfl
theorem xh_9 {Φ : Fns} {k : Nat} {ρ : Loc} {σ : Store} : execH Φ [] k ρ σ = .stuck := rfl
theorem forL_eq (src : V) (all : List V) (body : Loc → Store → SR) (i : Nat) : ∀ (l : List V) (ρ : Loc) (σ : Store), forL src all body i l ρ σ = forG src all body (fun v ρ => some (ρ.set i (some v))) l ρ σ
  | [], _, _ => rfl
  | v :: r, ρ, σ => by
    rw [fl_1, fg_1]
    dsimp only
    cases body (ρ.set i (some v)) σ with
    | ok f σ' => cases f <;> simp only [forL_eq src all body i r]
    | exn _ _ _ _ => rfl
    | stuck => rfl
end Mine
set_option maxRecDepth 100000
namespace Mine
open PySem

/-- what a name of the top's stands for -/
structure Tops where
  fns : List (Str × Nat)
  classes : List (Str × Nat)
  tint : List (Str × Int)
  tstr : List (Str × Str)
  attrs : List Str
  xs : List (Str × Addr)

noncomputable def BI.name (b : BI) : Str := match b with
  | .len => "len" | .max2 => "max" | .min2 => "min" | .sorted => "sorted" | .int => "int"
noncomputable def TY.name (t : TY) : Str := match t with
  | .int => "int" | .bool => "bool" | .tuple => "tuple" | .list => "list" | .str => "str"
  | .exc x _ => x
  | .verr => "ValueError"

theorem any_inv {α : Type} {o : Option α} {f : α → Bool} (h : o.any f = true) : ∃ a, o = some a ∧ f a = true := by
  cases o with
  | none => cases h
  | some a => exact ⟨a, rfl, h⟩
theorem and_inv {a b : Bool} (h : (a && b) = true) : a = true ∧ b = true := by
  cases a
  · cases h
  · exact ⟨rfl, h⟩
noncomputable def one {α : Type} (l : List α) : Option α := match l with
  | [a] => some a
  | _ => none
noncomputable def two {α : Type} (l : List α) : Option (α × α) := match l with
  | [a, b] => some (a, b)
  | _ => none
theorem one_inv {α : Type} {l : List α} {a : α} (h : one l = some a) : l = [a] := by
  cases l with
  | nil => cases h
  | cons b r => cases r with
    | nil => cases h; rfl
    | cons c r => cases h
theorem two_inv {α : Type} {l : List α} {a : α × α} (h : two l = some a) : l = [a.1, a.2] := by
  cases l with
  | nil => cases h
  | cons b r => cases r with
    | nil => cases h
    | cons c r => cases r with
      | nil => cases h; rfl
      | cons d r => cases h
theorem nil_inv {α : Type} {l : List α} (h : l.isEmpty = true) : l = [] := by
  cases l with
  | nil => rfl
  | cons a r => cases h
theorem non_inv {α : Type} {l : Option α} (h : l.isNone = true) : l = none := by
  cases l with
  | none => rfl
  | some a => cases h
noncomputable def vName (z : Expr) : Option (Str × Pos) := if h : z.ctorIdx = 23 then @Expr.Name.elim (fun _ => Option (Str × Pos)) z h (fun a b => some (a, b)) else none
theorem vName_inv {z : Expr} {q : Str × Pos} (h : vName z = some q) : z = .Name q.1 q.2 := by
  refine dite (z.ctorIdx = 23) (fun c => ?_) (fun c => ?_)
  · exact @Expr.Name.elim (fun z => vName z = some q → z = .Name q.1 q.2) z c (fun _ _ h => Option.some.inj h ▸ rfl) h
  · exact absurd ((show vName z = none from dif_neg c).symm.trans h) nofun
noncomputable def vConstant (z : Expr) : Option (Const × Nat × Pos) := if h : z.ctorIdx = 19 then @Expr.Constant.elim (fun _ => Option (Const × Nat × Pos)) z h (fun a b c => some (a, b, c)) else none
theorem vConstant_inv {z : Expr} {q : Const × Nat × Pos} (h : vConstant z = some q) : z = .Constant q.1 q.2.1 q.2.2 := by
  refine dite (z.ctorIdx = 19) (fun c => ?_) (fun c => ?_)
  · exact @Expr.Constant.elim (fun z => vConstant z = some q → z = .Constant q.1 q.2.1 q.2.2) z c (fun _ _ _ h => Option.some.inj h ▸ rfl) h
  · exact absurd ((show vConstant z = none from dif_neg c).symm.trans h) nofun
noncomputable def vBinOp (z : Expr) : Option (Expr × Operator × Expr × Pos) := if h : z.ctorIdx = 2 then @Expr.BinOp.elim (fun _ => Option (Expr × Operator × Expr × Pos)) z h (fun a b c d => some (a, b, c, d)) else none
theorem vBinOp_inv {z : Expr} {q : Expr × Operator × Expr × Pos} (h : vBinOp z = some q) : z = .BinOp q.1 q.2.1 q.2.2.1 q.2.2.2 := by
  refine dite (z.ctorIdx = 2) (fun c => ?_) (fun c => ?_)
  · exact @Expr.BinOp.elim (fun z => vBinOp z = some q → z = .BinOp q.1 q.2.1 q.2.2.1 q.2.2.2) z c (fun _ _ _ _ h => Option.some.inj h ▸ rfl) h
  · exact absurd ((show vBinOp z = none from dif_neg c).symm.trans h) nofun
noncomputable def vUnaryOp (z : Expr) : Option (UnaryOp × Expr × Pos) := if h : z.ctorIdx = 3 then @Expr.UnaryOp.elim (fun _ => Option (UnaryOp × Expr × Pos)) z h (fun a b c => some (a, b, c)) else none
theorem vUnaryOp_inv {z : Expr} {q : UnaryOp × Expr × Pos} (h : vUnaryOp z = some q) : z = .UnaryOp q.1 q.2.1 q.2.2 := by
  refine dite (z.ctorIdx = 3) (fun c => ?_) (fun c => ?_)
  · exact @Expr.UnaryOp.elim (fun z => vUnaryOp z = some q → z = .UnaryOp q.1 q.2.1 q.2.2) z c (fun _ _ _ h => Option.some.inj h ▸ rfl) h
  · exact absurd ((show vUnaryOp z = none from dif_neg c).symm.trans h) nofun
noncomputable def vBoolOp (z : Expr) : Option (BoolOp × (List Expr) × Pos) := if h : z.ctorIdx = 0 then @Expr.BoolOp.elim (fun _ => Option (BoolOp × (List Expr) × Pos)) z h (fun a b c => some (a, b, c)) else none
theorem vBoolOp_inv {z : Expr} {q : BoolOp × (List Expr) × Pos} (h : vBoolOp z = some q) : z = .BoolOp q.1 q.2.1 q.2.2 := by
  refine dite (z.ctorIdx = 0) (fun c => ?_) (fun c => ?_)
  · exact @Expr.BoolOp.elim (fun z => vBoolOp z = some q → z = .BoolOp q.1 q.2.1 q.2.2) z c (fun _ _ _ h => Option.some.inj h ▸ rfl) h
  · exact absurd ((show vBoolOp z = none from dif_neg c).symm.trans h) nofun
noncomputable def vCompare (z : Expr) : Option (Expr × (List CmpOp) × (List Expr) × Pos) := if h : z.ctorIdx = 15 then @Expr.Compare.elim (fun _ => Option (Expr × (List CmpOp) × (List Expr) × Pos)) z h (fun a b c d => some (a, b, c, d)) else none
theorem vCompare_inv {z : Expr} {q : Expr × (List CmpOp) × (List Expr) × Pos} (h : vCompare z = some q) : z = .Compare q.1 q.2.1 q.2.2.1 q.2.2.2 := by
  refine dite (z.ctorIdx = 15) (fun c => ?_) (fun c => ?_)
  · exact @Expr.Compare.elim (fun z => vCompare z = some q → z = .Compare q.1 q.2.1 q.2.2.1 q.2.2.2) z c (fun _ _ _ _ h => Option.some.inj h ▸ rfl) h
  · exact absurd ((show vCompare z = none from dif_neg c).symm.trans h) nofun
noncomputable def vCall (z : Expr) : Option (Expr × (List Expr) × (List Keyword) × Pos) := if h : z.ctorIdx = 16 then @Expr.Call.elim (fun _ => Option (Expr × (List Expr) × (List Keyword) × Pos)) z h (fun a b c d => some (a, b, c, d)) else none
theorem vCall_inv {z : Expr} {q : Expr × (List Expr) × (List Keyword) × Pos} (h : vCall z = some q) : z = .Call q.1 q.2.1 q.2.2.1 q.2.2.2 := by
  refine dite (z.ctorIdx = 16) (fun c => ?_) (fun c => ?_)
  · exact @Expr.Call.elim (fun z => vCall z = some q → z = .Call q.1 q.2.1 q.2.2.1 q.2.2.2) z c (fun _ _ _ _ h => Option.some.inj h ▸ rfl) h
  · exact absurd ((show vCall z = none from dif_neg c).symm.trans h) nofun
noncomputable def vAttribute (z : Expr) : Option (Expr × Str × Pos) := if h : z.ctorIdx = 20 then @Expr.Attribute.elim (fun _ => Option (Expr × Str × Pos)) z h (fun a b c => some (a, b, c)) else none
theorem vAttribute_inv {z : Expr} {q : Expr × Str × Pos} (h : vAttribute z = some q) : z = .Attribute q.1 q.2.1 q.2.2 := by
  refine dite (z.ctorIdx = 20) (fun c => ?_) (fun c => ?_)
  · exact @Expr.Attribute.elim (fun z => vAttribute z = some q → z = .Attribute q.1 q.2.1 q.2.2) z c (fun _ _ _ h => Option.some.inj h ▸ rfl) h
  · exact absurd ((show vAttribute z = none from dif_neg c).symm.trans h) nofun
noncomputable def vSubscript (z : Expr) : Option (Expr × Expr × Pos) := if h : z.ctorIdx = 21 then @Expr.Subscript.elim (fun _ => Option (Expr × Expr × Pos)) z h (fun a b c => some (a, b, c)) else none
theorem vSubscript_inv {z : Expr} {q : Expr × Expr × Pos} (h : vSubscript z = some q) : z = .Subscript q.1 q.2.1 q.2.2 := by
  refine dite (z.ctorIdx = 21) (fun c => ?_) (fun c => ?_)
  · exact @Expr.Subscript.elim (fun z => vSubscript z = some q → z = .Subscript q.1 q.2.1 q.2.2) z c (fun _ _ _ h => Option.some.inj h ▸ rfl) h
  · exact absurd ((show vSubscript z = none from dif_neg c).symm.trans h) nofun
noncomputable def vSlice (z : Expr) : Option ((Option Expr) × (Option Expr) × (Option Expr) × Pos) := if h : z.ctorIdx = 26 then @Expr.Slice.elim (fun _ => Option ((Option Expr) × (Option Expr) × (Option Expr) × Pos)) z h (fun a b c d => some (a, b, c, d)) else none
theorem vSlice_inv {z : Expr} {q : (Option Expr) × (Option Expr) × (Option Expr) × Pos} (h : vSlice z = some q) : z = .Slice q.1 q.2.1 q.2.2.1 q.2.2.2 := by
  refine dite (z.ctorIdx = 26) (fun c => ?_) (fun c => ?_)
  · exact @Expr.Slice.elim (fun z => vSlice z = some q → z = .Slice q.1 q.2.1 q.2.2.1 q.2.2.2) z c (fun _ _ _ _ h => Option.some.inj h ▸ rfl) h
  · exact absurd ((show vSlice z = none from dif_neg c).symm.trans h) nofun
noncomputable def vTuple (z : Expr) : Option ((List Expr) × Nat × Pos) := if h : z.ctorIdx = 25 then @Expr.Tuple.elim (fun _ => Option ((List Expr) × Nat × Pos)) z h (fun a b c => some (a, b, c)) else none
theorem vTuple_inv {z : Expr} {q : (List Expr) × Nat × Pos} (h : vTuple z = some q) : z = .Tuple q.1 q.2.1 q.2.2 := by
  refine dite (z.ctorIdx = 25) (fun c => ?_) (fun c => ?_)
  · exact @Expr.Tuple.elim (fun z => vTuple z = some q → z = .Tuple q.1 q.2.1 q.2.2) z c (fun _ _ _ h => Option.some.inj h ▸ rfl) h
  · exact absurd ((show vTuple z = none from dif_neg c).symm.trans h) nofun
noncomputable def vList (z : Expr) : Option ((List Expr) × Pos) := if h : z.ctorIdx = 24 then @Expr.List.elim (fun _ => Option ((List Expr) × Pos)) z h (fun a b => some (a, b)) else none
theorem vList_inv {z : Expr} {q : (List Expr) × Pos} (h : vList z = some q) : z = .List q.1 q.2 := by
  refine dite (z.ctorIdx = 24) (fun c => ?_) (fun c => ?_)
  · exact @Expr.List.elim (fun z => vList z = some q → z = .List q.1 q.2) z c (fun _ _ h => Option.some.inj h ▸ rfl) h
  · exact absurd ((show vList z = none from dif_neg c).symm.trans h) nofun
noncomputable def vListComp (z : Expr) : Option (Expr × (List Comprehension) × Scope × Pos) := if h : z.ctorIdx = 8 then @Expr.ListComp.elim (fun _ => Option (Expr × (List Comprehension) × Scope × Pos)) z h (fun a b c d => some (a, b, c, d)) else none
theorem vListComp_inv {z : Expr} {q : Expr × (List Comprehension) × Scope × Pos} (h : vListComp z = some q) : z = .ListComp q.1 q.2.1 q.2.2.1 q.2.2.2 := by
  refine dite (z.ctorIdx = 8) (fun c => ?_) (fun c => ?_)
  · exact @Expr.ListComp.elim (fun z => vListComp z = some q → z = .ListComp q.1 q.2.1 q.2.2.1 q.2.2.2) z c (fun _ _ _ _ h => Option.some.inj h ▸ rfl) h
  · exact absurd ((show vListComp z = none from dif_neg c).symm.trans h) nofun
noncomputable def wExpr (z : Stmt) : Option (Expr × Pos) := if h : z.ctorIdx = 24 then @Stmt.Expr.elim (fun _ => Option (Expr × Pos)) z h (fun a b => some (a, b)) else none
theorem wExpr_inv {z : Stmt} {q : Expr × Pos} (h : wExpr z = some q) : z = .Expr q.1 q.2 := by
  refine dite (z.ctorIdx = 24) (fun c => ?_) (fun c => ?_)
  · exact @Stmt.Expr.elim (fun z => wExpr z = some q → z = .Expr q.1 q.2) z c (fun _ _ h => Option.some.inj h ▸ rfl) h
  · exact absurd ((show wExpr z = none from dif_neg c).symm.trans h) nofun
noncomputable def wAssign (z : Stmt) : Option ((List Expr) × Expr × Pos) := if h : z.ctorIdx = 5 then @Stmt.Assign.elim (fun _ => Option ((List Expr) × Expr × Pos)) z h (fun a b c => some (a, b, c)) else none
theorem wAssign_inv {z : Stmt} {q : (List Expr) × Expr × Pos} (h : wAssign z = some q) : z = .Assign q.1 q.2.1 q.2.2 := by
  refine dite (z.ctorIdx = 5) (fun c => ?_) (fun c => ?_)
  · exact @Stmt.Assign.elim (fun z => wAssign z = some q → z = .Assign q.1 q.2.1 q.2.2) z c (fun _ _ _ h => Option.some.inj h ▸ rfl) h
  · exact absurd ((show wAssign z = none from dif_neg c).symm.trans h) nofun
noncomputable def wIf (z : Stmt) : Option (Expr × (List Stmt) × (List Stmt) × Pos) := if h : z.ctorIdx = 12 then @Stmt.If.elim (fun _ => Option (Expr × (List Stmt) × (List Stmt) × Pos)) z h (fun a b c d => some (a, b, c, d)) else none
theorem wIf_inv {z : Stmt} {q : Expr × (List Stmt) × (List Stmt) × Pos} (h : wIf z = some q) : z = .If q.1 q.2.1 q.2.2.1 q.2.2.2 := by
  refine dite (z.ctorIdx = 12) (fun c => ?_) (fun c => ?_)
  · exact @Stmt.If.elim (fun z => wIf z = some q → z = .If q.1 q.2.1 q.2.2.1 q.2.2.2) z c (fun _ _ _ _ h => Option.some.inj h ▸ rfl) h
  · exact absurd ((show wIf z = none from dif_neg c).symm.trans h) nofun
noncomputable def wFor (z : Stmt) : Option (Expr × Expr × (List Stmt) × (List Stmt) × Pos) := if h : z.ctorIdx = 9 then @Stmt.For.elim (fun _ => Option (Expr × Expr × (List Stmt) × (List Stmt) × Pos)) z h (fun a b c d e => some (a, b, c, d, e)) else none
theorem wFor_inv {z : Stmt} {q : Expr × Expr × (List Stmt) × (List Stmt) × Pos} (h : wFor z = some q) : z = .For q.1 q.2.1 q.2.2.1 q.2.2.2.1 q.2.2.2.2 := by
  refine dite (z.ctorIdx = 9) (fun c => ?_) (fun c => ?_)
  · exact @Stmt.For.elim (fun z => wFor z = some q → z = .For q.1 q.2.1 q.2.2.1 q.2.2.2.1 q.2.2.2.2) z c (fun _ _ _ _ _ h => Option.some.inj h ▸ rfl) h
  · exact absurd ((show wFor z = none from dif_neg c).symm.trans h) nofun
noncomputable def wWhile (z : Stmt) : Option (Expr × (List Stmt) × (List Stmt) × Pos) := if h : z.ctorIdx = 11 then @Stmt.While.elim (fun _ => Option (Expr × (List Stmt) × (List Stmt) × Pos)) z h (fun a b c d => some (a, b, c, d)) else none
theorem wWhile_inv {z : Stmt} {q : Expr × (List Stmt) × (List Stmt) × Pos} (h : wWhile z = some q) : z = .While q.1 q.2.1 q.2.2.1 q.2.2.2 := by
  refine dite (z.ctorIdx = 11) (fun c => ?_) (fun c => ?_)
  · exact @Stmt.While.elim (fun z => wWhile z = some q → z = .While q.1 q.2.1 q.2.2.1 q.2.2.2) z c (fun _ _ _ _ h => Option.some.inj h ▸ rfl) h
  · exact absurd ((show wWhile z = none from dif_neg c).symm.trans h) nofun
noncomputable def wReturn (z : Stmt) : Option ((Option Expr) × Pos) := if h : z.ctorIdx = 3 then @Stmt.Return.elim (fun _ => Option ((Option Expr) × Pos)) z h (fun a b => some (a, b)) else none
theorem wReturn_inv {z : Stmt} {q : (Option Expr) × Pos} (h : wReturn z = some q) : z = .Return q.1 q.2 := by
  refine dite (z.ctorIdx = 3) (fun c => ?_) (fun c => ?_)
  · exact @Stmt.Return.elim (fun z => wReturn z = some q → z = .Return q.1 q.2) z c (fun _ _ h => Option.some.inj h ▸ rfl) h
  · exact absurd ((show wReturn z = none from dif_neg c).symm.trans h) nofun
noncomputable def wBreak (z : Stmt) : Option (Pos) := if h : z.ctorIdx = 26 then @Stmt.Break.elim (fun _ => Option (Pos)) z h (fun a => some a) else none
theorem wBreak_inv {z : Stmt} {q : Pos} (h : wBreak z = some q) : z = .Break q := by
  refine dite (z.ctorIdx = 26) (fun c => ?_) (fun c => ?_)
  · exact @Stmt.Break.elim (fun z => wBreak z = some q → z = .Break q) z c (fun _ h => Option.some.inj h ▸ rfl) h
  · exact absurd ((show wBreak z = none from dif_neg c).symm.trans h) nofun
noncomputable def wContinue (z : Stmt) : Option (Pos) := if h : z.ctorIdx = 27 then @Stmt.Continue.elim (fun _ => Option (Pos)) z h (fun a => some a) else none
theorem wContinue_inv {z : Stmt} {q : Pos} (h : wContinue z = some q) : z = .Continue q := by
  refine dite (z.ctorIdx = 27) (fun c => ?_) (fun c => ?_)
  · exact @Stmt.Continue.elim (fun z => wContinue z = some q → z = .Continue q) z c (fun _ h => Option.some.inj h ▸ rfl) h
  · exact absurd ((show wContinue z = none from dif_neg c).symm.trans h) nofun
noncomputable def wPass (z : Stmt) : Option (Pos) := if h : z.ctorIdx = 25 then @Stmt.Pass.elim (fun _ => Option (Pos)) z h (fun a => some a) else none
theorem wPass_inv {z : Stmt} {q : Pos} (h : wPass z = some q) : z = .Pass q := by
  refine dite (z.ctorIdx = 25) (fun c => ?_) (fun c => ?_)
  · exact @Stmt.Pass.elim (fun z => wPass z = some q → z = .Pass q) z c (fun _ h => Option.some.inj h ▸ rfl) h
  · exact absurd ((show wPass z = none from dif_neg c).symm.trans h) nofun
noncomputable def wRaise (z : Stmt) : Option ((Option Expr) × (Option Expr) × Pos) := if h : z.ctorIdx = 16 then @Stmt.Raise.elim (fun _ => Option ((Option Expr) × (Option Expr) × Pos)) z h (fun a b c => some (a, b, c)) else none
theorem wRaise_inv {z : Stmt} {q : (Option Expr) × (Option Expr) × Pos} (h : wRaise z = some q) : z = .Raise q.1 q.2.1 q.2.2 := by
  refine dite (z.ctorIdx = 16) (fun c => ?_) (fun c => ?_)
  · exact @Stmt.Raise.elim (fun z => wRaise z = some q → z = .Raise q.1 q.2.1 q.2.2) z c (fun _ _ _ h => Option.some.inj h ▸ rfl) h
  · exact absurd ((show wRaise z = none from dif_neg c).symm.trans h) nofun
noncomputable def wTry (z : Stmt) : Option ((List Stmt) × (List ExceptHandler) × (List Stmt) × (List Stmt) × Pos) := if h : z.ctorIdx = 17 then @Stmt.Try.elim (fun _ => Option ((List Stmt) × (List ExceptHandler) × (List Stmt) × (List Stmt) × Pos)) z h (fun a b c d e => some (a, b, c, d, e)) else none
theorem wTry_inv {z : Stmt} {q : (List Stmt) × (List ExceptHandler) × (List Stmt) × (List Stmt) × Pos} (h : wTry z = some q) : z = .Try q.1 q.2.1 q.2.2.1 q.2.2.2.1 q.2.2.2.2 := by
  refine dite (z.ctorIdx = 17) (fun c => ?_) (fun c => ?_)
  · exact @Stmt.Try.elim (fun z => wTry z = some q → z = .Try q.1 q.2.1 q.2.2.1 q.2.2.2.1 q.2.2.2.2) z c (fun _ _ _ _ _ h => Option.some.inj h ▸ rfl) h
  · exact absurd ((show wTry z = none from dif_neg c).symm.trans h) nofun

noncomputable def nmX (T : Tops) (k : Nat) (x : Str) : Bool := (T.xs[k]?).any fun q => q.1 == x
noncomputable def okT (T : Tops) (t : TY) : Bool := match t with
  | .exc x j => nmX T j x
  | _ => true
noncomputable def hType (z : ExceptHandler) : Option Expr := match z with | .ExceptHandler t _ _ _ => t
noncomputable def hName (z : ExceptHandler) : Option Str := match z with | .ExceptHandler _ n _ _ => n
noncomputable def hBody (z : ExceptHandler) : List Stmt := match z with | .ExceptHandler _ _ b _ => b
noncomputable def hPos (z : ExceptHandler) : Pos := match z with | .ExceptHandler _ _ _ p => p
theorem hand_eta (z : ExceptHandler) : z = .ExceptHandler (hType z) (hName z) (hBody z) (hPos z) := by cases z; rfl
/-- the name that a clause binds -/
noncomputable def asOk (S : List Str) (as : Option Nat) (n : Option Str) : Bool := match as with
  | some i => n.any fun x => S[i]? == some x
  | none => n.isNone

/-- a comprehension over a name, with names of its own alone -/
noncomputable def scOk (y : Str) (sc : Scope) : Bool := decide (sc.kind = .function) && (decide (sc.names.lookup y = some .local) && sc.names.all fun p => decide (p.2 = .local) && decide (sc.names.lookup p.1 = some .local))
/-- the same, with names of the top's too -/
noncomputable def scOkG (y : Str) (f : Str) (sc : Scope) : Bool := decide (sc.kind = .function) && (decide (sc.names.lookup y = some .local) && (decide (sc.names.lookup f = some .globalImplicit) && sc.names.all fun p => (decide (p.2 = .local) && decide (sc.names.lookup p.1 = some .local)) || decide (p.2 = .globalImplicit)))
/-- y[1:] of a name in slot j -/
noncomputable def tailOk (S : List Str) (j : Nat) (e : Expr) : Bool := (vSubscript e).any fun q => (vName q.1).any fun n => S[j]? == some n.1 && (n.1 != ("__debug__" : Str) && (vSlice q.2.1).any fun r => r.2.1.isNone && (r.2.2.1.isNone && r.1.any fun z => (vConstant z).any fun k => decide (k.1 = .int 1)))
noncomputable def strsOk : List Str → List Expr → Bool
  | [], l => l.isEmpty
  | w :: ws, l => l.head?.any fun e => (vConstant e).any (fun q => decide (q.1 = .str w)) && strsOk ws l.tail
noncomputable def gOk (y : Str) (g : Comprehension) : Bool := ((vName g.target).any fun q => q.1 == y) && (g.ifs.isEmpty && decide (g.is_async = 0))
section
variable (T : Tops) (G : Str → Bool) (S : List Str) (M : Nat → Option Str)
mutual
/-- the mini expression says this expression of the model's: G the names that are the top's here, S the slots, M the methods' names -/
noncomputable def mt : ME → Expr → Bool
  | .var i, e => (vName e).any fun z1 => (S[i]? == some z1.1 && z1.1 != ("__debug__" : Str))
  | .cint k, e => (vConstant e).any fun z1 => decide (z1.1 = (.int k)) && ((true))
  | .cstr s, e => (vConstant e).any fun z1 => decide (z1.1 = (.str s)) && ((true))
  | .cnone, e => (vConstant e).any fun z1 => decide (z1.1 = .none) && ((true))
  | .cbool b, e => (vConstant e).any fun z1 => decide (z1.1 = (.bool b)) && ((true))
  | .gint x k, e => (vName e).any fun z1 => (x == z1.1 && G z1.1 && x != ("__debug__" : Str) && T.tint.lookup x == some k)
  | .gstr x s, e => (vName e).any fun z1 => (x == z1.1 && G z1.1 && x != ("__debug__" : Str) && T.tstr.lookup x == some s)
  | .bin op a b, e => (vBinOp e).any fun z1 => (op == z1.2.1 && mt a z1.1 && mt b z1.2.2.1)
  | .neg a, e => (vUnaryOp e).any fun z1 => decide (z1.1 = .USub) && ((mt a z1.2.1))
  | .not a, e => (vUnaryOp e).any fun z1 => decide (z1.1 = .Not) && ((mt a z1.2.1))
  | .and es, e => (vBoolOp e).any fun z1 => decide (z1.1 = .And) && ((mts es z1.2.1 && !es.isEmpty))
  | .or es, e => (vBoolOp e).any fun z1 => decide (z1.1 = .Or) && ((mts es z1.2.1 && !es.isEmpty))
  | .cmp op a b, e => (vCompare e).any fun z1 => (one z1.2.1).any fun z2 => (one z1.2.2.1).any fun z3 => (op == z2 && mt a z1.1 && mt b z3)
  | .cmp2 op₁ op₂ a b c, e => (vCompare e).any fun z1 => (two z1.2.1).any fun z2 => (two z1.2.2.1).any fun z3 => (op₁ == z2.1 && op₂ == z2.2 && mt a z1.1 && mt b z3.1 && mt c z3.2)
  | .call f args, e => (vCall e).any fun z1 => (vName z1.1).any fun z2 => z1.2.2.1.isEmpty && ((T.fns.lookup z2.1 == some f && G z2.1 && z2.1 != ("__debug__" : Str) && mts args z1.2.1 && !args.isEmpty))
  | .bi b args, e => (vCall e).any fun z1 => (vName z1.1).any fun z2 => z1.2.2.1.isEmpty && ((b.name == z2.1 && G z2.1 && mts args z1.2.1 && !args.isEmpty))
  | .copy own e₁, e => (vCall e).any fun z1 => (vName z1.1).any fun z2 => (one z1.2.1).any fun z3 => z1.2.2.1.isEmpty && ((z2.1 == ("list" : Str) && G z2.1 && mt e₁ z3))
  | .isi e₁ t, e => (vCall e).any fun z1 => (vName z1.1).any fun z2 => (two z1.2.1).any fun z3 => (vName z3.2).any fun z4 => z1.2.2.1.isEmpty && ((z2.1 == ("isinstance" : Str) && G z2.1 && G z4.1 && t.name == z4.1 && z4.1 != ("__debug__" : Str) && mt e₁ z3.1 && okT T t))
  | .make c args, e => (vCall e).any fun z1 => (vName z1.1).any fun z2 => z1.2.2.1.isEmpty && ((T.classes.lookup z2.1 == some c && G z2.1 && z2.1 != ("__debug__" : Str) && mts args z1.2.1 && !args.isEmpty))
  | .meth o f args, e => (vCall e).any fun z1 => (vAttribute z1.1).any fun z2 => z1.2.2.1.isEmpty && ((M f == some z2.2.1 && mt o z2.1 && mts args z1.2.1 && z2.2.2.endLine == z1.2.2.2.line && decide (z1.2.1.length < 20)))
  | .attr o k, e => (vAttribute e).any fun z1 => (T.attrs[k]? == some z1.2.1 && mt o z1.1)
  | .idx a i, e => (vSubscript e).any fun z1 => (mt a z1.1 && mt i z1.2.1)
  | .sliceTo own a k, e => (vSubscript e).any fun z1 => (vSlice z1.2.1).any fun z2 => z2.1.isNone && ((z2.2.1).any fun z3 => z2.2.2.1.isNone && ((mt a z1.1 && mt k z3)))
  | .sliceFrom own a k, e => (vSubscript e).any fun z1 => (vSlice z1.2.1).any fun z2 => (z2.1).any fun z3 => z2.2.1.isNone && (z2.2.2.1.isNone && ((mt a z1.1 && mt k z3)))
  | .tup es, e => (vTuple e).any fun z1 => (mts es z1.1 && decide (z1.1.length ≤ 1000))
  | .lst own es, e => (vList e).any fun z1 => (mts es z1.1 && decide (z1.1.length ≤ 1000))
  | .sumAt k i, e => (vCall e).any fun z1 => (vName z1.1).any fun z2 => (one z1.2.1).any fun z3 => (vListComp z3).any fun z4 => (vSubscript z4.1).any fun z5 => (vName z5.1).any fun z6 => (vConstant z5.2.1).any fun z7 => z1.2.2.1.isEmpty && ((z2.1 == ("sum" : Str) && G z2.1 && z6.1 != ("__debug__" : Str) && decide (z7.1 = .int (k : Int)) && scOk z6.1 z4.2.2.1 && (one z4.2.1).any fun g => gOk z6.1 g && (vName g.iter).any fun q => S[i]? == some q.1 && q.1 != (("__debug__" : Str) : Str)))
  | .rev e₁, e => (vSubscript e).any fun z1 => (vSlice z1.2.1).any fun z2 => z2.1.isNone && (z2.2.1.isNone && ((z2.2.2.1).any fun z3 => (vUnaryOp z3).any fun z4 => decide (z4.1 = .USub) && ((vConstant z4.2.1).any fun z5 => decide (z5.1 = (.int 1)) && ((mt e₁ z1.1)))))
  | .strMul s e₁, e => (vBinOp e).any fun z1 => (vConstant z1.1).any fun z2 => decide (z2.1 = (.str s)) && (decide (z1.2.1 = .Mult) && ((mt e₁ z1.2.2.1)))
  | .cat a b, e => (vBinOp e).any fun z1 => decide (z1.2.1 = .Add) && ((mt a z1.1 && mt b z1.2.2.1))
  | .slen a, e => (vCall e).any fun z1 => (vName z1.1).any fun z2 => (one z1.2.1).any fun z3 => z1.2.2.1.isEmpty && ((z2.1 == ("len" : Str) && G z2.1 && mt a z3))
  | .sidx a i, e => (vSubscript e).any fun z1 => (mt a z1.1 && mt i z1.2.1)
  | .sTo a k, e => (vSubscript e).any fun z1 => (vSlice z1.2.1).any fun z2 => z2.1.isNone && ((z2.2.1).any fun z3 => z2.2.2.1.isNone && ((mt a z1.1 && mt k z3)))
  | .sFrom a k, e => (vSubscript e).any fun z1 => (vSlice z1.2.1).any fun z2 => (z2.1).any fun z3 => z2.2.1.isNone && (z2.2.2.1.isNone && ((mt a z1.1 && mt k z3)))
  | .split own a, e => (vCall e).any fun z1 => (vAttribute z1.1).any fun z2 => (one z1.2.1).any fun z3 => (vConstant z3).any fun z4 => decide (z4.1 = (.str " ")) && (z1.2.2.1.isEmpty && ((z2.2.1 == ("split" : Str) && mt a z2.1 && z2.2.2.endLine == z1.2.2.2.line)))
  | .join a, e => (vCall e).any fun z1 => (vAttribute z1.1).any fun z2 => (vConstant z2.1).any fun z3 => decide (z3.1 = (.str " ")) && ((one z1.2.1).any fun z4 => z1.2.2.1.isEmpty && ((z2.2.1 == ("join" : Str) && mt a z4 && z2.2.2.endLine == z1.2.2.2.line)))
  | .upper a, e => (vCall e).any fun z1 => (vAttribute z1.1).any fun z2 => z1.2.1.isEmpty && (z1.2.2.1.isEmpty && ((z2.2.1 == ("upper" : Str) && mt a z2.1 && z2.2.2.endLine == z1.2.2.2.line)))
  | .giveRepl i, e => (vList e).any fun z1 => (two z1.1).any fun z2 => (vBinOp z2.1).any fun z3 => (vConstant z3.1).any fun z4 => decide (z4.1 = (.str "give")) && (decide (z3.2.1 = .Add) && ((vSubscript z3.2.2.1).any fun z5 => (vName z5.1).any fun z6 => (vSlice z5.2.1).any fun z7 => (z7.1).any fun z8 => (vConstant z8).any fun z9 => decide (z9.1 = (.int 3)) && (z7.2.1.isNone && (z7.2.2.1.isNone && ((vCall z2.2).any fun z10 => (vAttribute z10.1).any fun z11 => (vName z11.1).any fun z12 => (two z10.2.1).any fun z13 => (vConstant z13.1).any fun z14 => decide (z14.1 = (.str " ")) && ((vConstant z13.2).any fun z15 => decide (z15.1 = (.str "\t")) && (z10.2.2.1.isEmpty && ((z11.2.1 == ("replace" : Str) && S[i]? == some z6.1 && z6.1 == z12.1 && z6.1 != ("__debug__" : Str) && z11.2.2.endLine == z10.2.2.2.line)))))))))
  | .strOf a, e => (vCall e).any fun z1 => (vName z1.1).any fun z2 => (one z1.2.1).any fun z3 => z1.2.2.1.isEmpty && ((z2.1 == ("str" : Str) && G z2.1 && mt a z3))
  | .intOf a, e => (vCall e).any fun z1 => (vName z1.1).any fun z2 => (one z1.2.1).any fun z3 => z1.2.2.1.isEmpty && ((z2.1 == ("int" : Str) && G z2.1 && mt a z3))
  | .notIn a b, e => (vCompare e).any fun z1 => (one z1.2.1).any fun z2 => decide (z2 = .NotIn) && ((one z1.2.2.1).any fun z3 => (mt a z1.1 && mt b z3))
  | .inT ws a, e => (vCompare e).any fun z1 => (one z1.2.1).any fun z2 => decide (z2 = .In) && ((one z1.2.2.1).any fun z3 => (vTuple z3).any fun z4 => (mt a z1.1 && strsOk ws z4.1 && decide (ws.length ≤ 3)))
  | .notInL ws a, e => (vCompare e).any fun z1 => (one z1.2.1).any fun z2 => decide (z2 = .NotIn) && ((one z1.2.2.1).any fun z3 => (vList z3).any fun z4 => (mt a z1.1 && strsOk ws z4.1 && decide (ws.length ≤ 3)))
  | .minL a, e => (vCall e).any fun z1 => (vName z1.1).any fun z2 => (one z1.2.1).any fun z3 => z1.2.2.1.isEmpty && ((z2.1 == ("min" : Str) && G z2.1 && mt a z3))
  | .shownL i, e => (vBinOp e).any fun z1 => (vList z1.1).any fun z2 => (one z2.1).any fun z3 => (vSubscript z3).any fun z4 => (vName z4.1).any fun z5 => (vConstant z4.2.1).any fun z6 => decide (z6.1 = (.int 0)) && (decide (z1.2.1 = .Add) && ((vListComp z1.2.2.1).any fun z7 => (vCall z7.1).any fun z8 => (vName z8.1).any fun z9 => (one z8.2.1).any fun z10 => (vName z10).any fun z11 => z8.2.2.1.isEmpty && ((z9.1 == ("str" : Str) && S[i]? == some z5.1 && z5.1 != ("__debug__" : Str) && z11.1 != ("__debug__" : Str) && scOkG z11.1 z9.1 z7.2.2.1 && (one z7.2.1).any fun g => gOk z11.1 g && tailOk S i g.iter))))
noncomputable def mts : List ME → List Expr → Bool
  | [], l => l.isEmpty
  | e :: es, l => l.head?.any fun x => mt e x && mts es l.tail
end

noncomputable def nm0 (e : Expr) : Option Str := (vName e).map (·.1)
noncomputable def onLine (l : Nat) (e : Expr) : Bool := (vName e).any fun q => q.2.line == l
noncomputable def isStar (e : Expr) : Bool := match e with | .Starred .. => true | _ => false
/-- a tuple that is written out: two or three names of one line get its items -/
noncomputable def tupOk (is : List Nat) (ts : List Expr) (y : Expr) : Bool := (vTuple y).all fun z =>
  (ts.length == 2 || ts.length == 3) && (z.1.length == ts.length && (decide is.Nodup && (ts.all (onLine ((ts.head?.map (·.pos.line)).getD 0)) &&
    (decide ((ts.filterMap nm0).eraseDups.length = (ts.filterMap nm0).length) && (!z.1.any isStar && (!z.1.all (foldedForSure 8) && !z.1.all (constantsAlone 8)))))))
noncomputable def targets : List Nat → List Expr → Bool
  | [], l => l.isEmpty
  | i :: is, l => l.head?.any fun e => (vName e).any (fun q => S[i]? == some q.1) && targets is l.tail

mutual
noncomputable def ms : MS → Stmt → Bool
  | .expr e₁, e => (wExpr e).any fun z1 => (mt T G S M e₁ z1.1)
  | .append o e₁, e => (wExpr e).any fun z1 => (vCall z1.1).any fun z2 => (vAttribute z2.1).any fun z3 => (one z2.2.1).any fun z4 => z2.2.2.1.isEmpty && ((z3.2.1 == ("append" : Str) && mt T G S M o z3.1 && mt T G S M e₁ z4 && z3.2.2.endLine == z2.2.2.2.line))
  | .assign i e₁, e => (wAssign e).any fun z1 => (one z1.1).any fun z2 => (vName z2).any fun z3 => (S[i]? == some z3.1 && mt T G S M e₁ z1.2.1)
  | .unpack is e₁, e => (wAssign e).any fun z1 => (one z1.1).any fun z2 => (vTuple z2).any fun z3 => (targets S is z3.1 && mt T G S M e₁ z1.2.1 && tupOk is z3.1 z1.2.1)
  | .setattr o k e₁, e => (wAssign e).any fun z1 => (one z1.1).any fun z2 => (vAttribute z2).any fun z3 => (T.attrs[k]? == some z3.2.1 && mt T G S M o z3.1 && mt T G S M e₁ z1.2.1)
  | .setitem o k e₁, e => (wAssign e).any fun z1 => (one z1.1).any fun z2 => (vSubscript z2).any fun z3 => (mt T G S M o z3.1 && mt T G S M k z3.2.1 && mt T G S M e₁ z1.2.1)
  | .unpackSub i o k e₁, e => (wAssign e).any fun z1 => (one z1.1).any fun z2 => (vTuple z2).any fun z3 => (two z3.1).any fun z4 => (vName z4.1).any fun z5 => (vSubscript z4.2).any fun z6 => (S[i]? == some z5.1 && mt T G S M o z6.1 && mt T G S M k z6.2.1 && mt T G S M e₁ z1.2.1 && (vTuple z1.2.1).isNone)
  | .unpackL is e₁, e => (wAssign e).any fun z1 => (one z1.1).any fun z2 => (vTuple z2).any fun z3 => (targets S is z3.1 && mt T G S M e₁ z1.2.1 && (vTuple z1.2.1).isNone)
  | .ite c a b, e => (wIf e).any fun z1 => (mt T G S M c z1.1 && mss a z1.2.1 && mss b z1.2.2.1)
  | .forIn i it body, e => (wFor e).any fun z1 => (vName z1.1).any fun z2 => z1.2.2.2.1.isEmpty && ((S[i]? == some z2.1 && mt T G S M it z1.2.1 && mss body z1.2.2.1))
  | .forRange i args body, e => (wFor e).any fun z1 => (vName z1.1).any fun z2 => (vCall z1.2.1).any fun z3 => (vName z3.1).any fun z4 => z3.2.2.1.isEmpty && (z1.2.2.2.1.isEmpty && ((S[i]? == some z2.1 && z4.1 == ("range" : Str) && G z4.1 && mts T G S M args z3.2.1 && !args.isEmpty && mss body z1.2.2.1)))
  | .forTup is it body, e => (wFor e).any fun z1 => (vTuple z1.1).any fun z2 => z1.2.2.2.1.isEmpty && ((targets S is z2.1 && mt T G S M it z1.2.1 && mss body z1.2.2.1))
  | .forStr i it body, e => (wFor e).any fun z1 => (vName z1.1).any fun z2 => z1.2.2.2.1.isEmpty && ((S[i]? == some z2.1 && mt T G S M it z1.2.1 && mss body z1.2.2.1))
  | .asgMap i f j, e => (wAssign e).any fun z1 => (one z1.1).any fun z2 => (vName z2).any fun z3 => (vListComp z1.2.1).any fun z4 => (vCall z4.1).any fun z5 => (vName z5.1).any fun z6 => (one z5.2.1).any fun z7 => (vName z7).any fun z8 => z5.2.2.1.isEmpty && ((z3.2.line == z4.2.2.2.line && !(z4.2.2.1.names.any fun q => q.1 == z3.1 && (decide (q.2 = .local) || decide (q.2 = .cell))) && S[i]? == some z3.1 && T.fns.lookup z6.1 == some f && z6.1 != ("__debug__" : Str) && z8.1 != ("__debug__" : Str) && scOkG z8.1 z6.1 z4.2.2.1 && (one z4.2.1).any fun g => gOk z8.1 g && tailOk S j g.iter))
  | .while fuel c body, e => (wWhile e).any fun z1 => z1.2.2.1.isEmpty && ((mt T G S M c z1.1 && mss body z1.2.1))
  | .ret e₁, e => (wReturn e).any fun z1 => (z1.1).any fun z2 => (mt T G S M e₁ z2)
  | .retNone, e => (wReturn e).any fun z1 => z1.1.isNone && ((true))
  | .brk, e => (wBreak e).any fun z1 => (true)
  | .cont, e => (wContinue e).any fun z1 => (true)
  | .pass, e => (wPass e).any fun z1 => (true)
  | .raise x k s, e => (wRaise e).any fun z1 => (z1.1).any fun z2 => (vCall z2).any fun z3 => (vName z3.1).any fun z4 => (one z3.2.1).any fun z5 => (vConstant z5).any fun z6 => decide (z6.1 = (.str s)) && (z3.2.2.1.isEmpty && (z1.2.1.isNone && ((x == z4.1 && G z4.1 && x != ("__debug__" : Str) && nmX T k x))))
  | .try body hs, e => (wTry e).any fun z1 => z1.2.2.1.isEmpty && (z1.2.2.2.1.isEmpty && ((mss body z1.1 && msh hs z1.2.1 && !hs.isEmpty)))
  | .hand _ _ _, _ => false
noncomputable def mss : List MS → List Stmt → Bool
  | [], l => l.isEmpty
  | s :: r, l => l.head?.any fun x => ms s x && mss r l.tail
noncomputable def msh : List MS → List ExceptHandler → Bool
  | [], l => l.isEmpty
  | .hand j as suite :: hs, l => l.head?.any fun z => (hType z).any fun t => (vName t).any fun q => G q.1 && (q.1 != ("__debug__" : Str) && (nmX T j q.1 && (asOk S as (hName z) && (!suite.isEmpty && (mss suite (hBody z) && msh hs l.tail)))))
  | _ :: _, _ => false
end
end

section inv
variable {T : Tops} {G : Str → Bool} {S : List Str} {M : Nat → Option Str}
theorem mts_n {l : List Expr} (h : mts T G S M [] l = true) : l = [] := nil_inv h
theorem mss_n {l : List Stmt} (h : mss T G S M [] l = true) : l = [] := nil_inv h
theorem mss_c {e : MS} {es : List MS} {l : List Stmt} (h : mss T G S M (e :: es) l = true) : ∃ x xs, l = x :: xs ∧ ms T G S M e x = true ∧ mss T G S M es xs = true := by
  cases l with
  | nil => cases h
  | cons x xs => exact ⟨x, xs, rfl, and_inv h⟩
theorem msh_c {j : Nat} {as : Option Nat} {suite hs : List MS} {l : List ExceptHandler} (h : msh T G S M (.hand j as suite :: hs) l = true) : ∃ x p n b pos r, l = .ExceptHandler (some (.Name x p)) n b pos :: r ∧ G x = true ∧ (x != ("__debug__" : Str)) = true ∧ nmX T j x = true ∧ asOk S as n = true ∧ (!suite.isEmpty) = true ∧ mss T G S M suite b = true ∧ msh T G S M hs r = true := by
  cases l with
  | nil => cases h
  | cons z r =>
    obtain ⟨t, h1, h⟩ := any_inv (show ((hType z).any _) = true from h)
    obtain ⟨q, h2, h⟩ := any_inv h
    obtain ⟨h3, h⟩ := and_inv h
    obtain ⟨h4, h⟩ := and_inv h
    obtain ⟨h5, h⟩ := and_inv h
    obtain ⟨h6, h⟩ := and_inv h
    obtain ⟨h7, h⟩ := and_inv h
    obtain ⟨h8, h9⟩ := and_inv h
    exact ⟨q.1, q.2, hName z, hBody z, hPos z, r, by rw [← vName_inv h2, ← h1, ← hand_eta], h3, h4, h5, h6, h7, h8, h9⟩
theorem targets_n {l : List Expr} (h : targets S [] l = true) : l = [] := nil_inv h
theorem targets_c {i : Nat} {is : List Nat} {l : List Expr} (h : targets S (i :: is) l = true) : ∃ x p xs, l = .Name x p :: xs ∧ (S[i]? == some x) = true ∧ targets S is xs = true := by
  cases l with
  | nil => cases h
  | cons e xs =>
    obtain ⟨h1, h2⟩ := and_inv h
    obtain ⟨q, h3, h4⟩ := any_inv h1
    exact ⟨q.1, q.2, xs, by rw [vName_inv h3], h4, h2⟩
theorem mt_var {i : Nat} {e : Expr} (h : mt T G S M (.var i) e = true) : ∃ x p1, e = .Name x p1 ∧ (S[i]? == some x && x != "__debug__") = true := by
  have h : ((vName e).any fun z1 => (S[i]? == some z1.1 && z1.1 != ("__debug__" : Str))) = true := h
  obtain ⟨z1, h0, h⟩ := any_inv h
  exact ⟨z1.1, z1.2, by rw [vName_inv h0], h⟩
theorem mt_cint {k : Int} {e : Expr} (h : mt T G S M (.cint k) e = true) : ∃ p1 p2, e = .Constant (.int k) p1 p2 ∧ (true) = true := by
  have h : ((vConstant e).any fun z1 => decide (z1.1 = (.int k)) && ((true))) = true := h
  obtain ⟨z1, h0, h⟩ := any_inv h
  obtain ⟨h1, h⟩ := and_inv h
  exact ⟨z1.2.1, z1.2.2, by rw [vConstant_inv h0, of_decide_eq_true h1], h⟩
theorem mt_cstr {s : Str} {e : Expr} (h : mt T G S M (.cstr s) e = true) : ∃ p1 p2, e = .Constant (.str s) p1 p2 ∧ (true) = true := by
  have h : ((vConstant e).any fun z1 => decide (z1.1 = (.str s)) && ((true))) = true := h
  obtain ⟨z1, h0, h⟩ := any_inv h
  obtain ⟨h1, h⟩ := and_inv h
  exact ⟨z1.2.1, z1.2.2, by rw [vConstant_inv h0, of_decide_eq_true h1], h⟩
theorem mt_cnone  {e : Expr} (h : mt T G S M (.cnone) e = true) : ∃ p1 p2, e = .Constant .none p1 p2 ∧ (true) = true := by
  have h : ((vConstant e).any fun z1 => decide (z1.1 = .none) && ((true))) = true := h
  obtain ⟨z1, h0, h⟩ := any_inv h
  obtain ⟨h1, h⟩ := and_inv h
  exact ⟨z1.2.1, z1.2.2, by rw [vConstant_inv h0, of_decide_eq_true h1], h⟩
theorem mt_cbool {b : Bool} {e : Expr} (h : mt T G S M (.cbool b) e = true) : ∃ p1 p2, e = .Constant (.bool b) p1 p2 ∧ (true) = true := by
  have h : ((vConstant e).any fun z1 => decide (z1.1 = (.bool b)) && ((true))) = true := h
  obtain ⟨z1, h0, h⟩ := any_inv h
  obtain ⟨h1, h⟩ := and_inv h
  exact ⟨z1.2.1, z1.2.2, by rw [vConstant_inv h0, of_decide_eq_true h1], h⟩
theorem mt_gint {x : Str} {k : Int} {e : Expr} (h : mt T G S M (.gint x k) e = true) : ∃ y p1, e = .Name y p1 ∧ (x == y && G y && x != "__debug__" && T.tint.lookup x == some k) = true := by
  have h : ((vName e).any fun z1 => (x == z1.1 && G z1.1 && x != ("__debug__" : Str) && T.tint.lookup x == some k)) = true := h
  obtain ⟨z1, h0, h⟩ := any_inv h
  exact ⟨z1.1, z1.2, by rw [vName_inv h0], h⟩
theorem mt_gstr {x s : Str} {e : Expr} (h : mt T G S M (.gstr x s) e = true) : ∃ y p1, e = .Name y p1 ∧ (x == y && G y && x != "__debug__" && T.tstr.lookup x == some s) = true := by
  have h : ((vName e).any fun z1 => (x == z1.1 && G z1.1 && x != ("__debug__" : Str) && T.tstr.lookup x == some s)) = true := h
  obtain ⟨z1, h0, h⟩ := any_inv h
  exact ⟨z1.1, z1.2, by rw [vName_inv h0], h⟩
theorem mt_bin {op : Operator} {a b : ME} {e : Expr} (h : mt T G S M (.bin op a b) e = true) : ∃ l o r p1, e = .BinOp l o r p1 ∧ (op == o && mt T G S M a l && mt T G S M b r) = true := by
  have h : ((vBinOp e).any fun z1 => (op == z1.2.1 && mt T G S M a z1.1 && mt T G S M b z1.2.2.1)) = true := h
  obtain ⟨z1, h0, h⟩ := any_inv h
  exact ⟨z1.1, z1.2.1, z1.2.2.1, z1.2.2.2, by rw [vBinOp_inv h0], h⟩
theorem mt_neg {a : ME} {e : Expr} (h : mt T G S M (.neg a) e = true) : ∃ l p1, e = .UnaryOp .USub l p1 ∧ (mt T G S M a l) = true := by
  have h : ((vUnaryOp e).any fun z1 => decide (z1.1 = .USub) && ((mt T G S M a z1.2.1))) = true := h
  obtain ⟨z1, h0, h⟩ := any_inv h
  obtain ⟨h1, h⟩ := and_inv h
  exact ⟨z1.2.1, z1.2.2, by rw [vUnaryOp_inv h0, of_decide_eq_true h1], h⟩
theorem mt_not {a : ME} {e : Expr} (h : mt T G S M (.not a) e = true) : ∃ l p1, e = .UnaryOp .Not l p1 ∧ (mt T G S M a l) = true := by
  have h : ((vUnaryOp e).any fun z1 => decide (z1.1 = .Not) && ((mt T G S M a z1.2.1))) = true := h
  obtain ⟨z1, h0, h⟩ := any_inv h
  obtain ⟨h1, h⟩ := and_inv h
  exact ⟨z1.2.1, z1.2.2, by rw [vUnaryOp_inv h0, of_decide_eq_true h1], h⟩
theorem mt_and {es : List ME} {e : Expr} (h : mt T G S M (.and es) e = true) : ∃ l p1, e = .BoolOp .And l p1 ∧ (mts T G S M es l && !es.isEmpty) = true := by
  have h : ((vBoolOp e).any fun z1 => decide (z1.1 = .And) && ((mts T G S M es z1.2.1 && !es.isEmpty))) = true := h
  obtain ⟨z1, h0, h⟩ := any_inv h
  obtain ⟨h1, h⟩ := and_inv h
  exact ⟨z1.2.1, z1.2.2, by rw [vBoolOp_inv h0, of_decide_eq_true h1], h⟩
theorem mt_or {es : List ME} {e : Expr} (h : mt T G S M (.or es) e = true) : ∃ l p1, e = .BoolOp .Or l p1 ∧ (mts T G S M es l && !es.isEmpty) = true := by
  have h : ((vBoolOp e).any fun z1 => decide (z1.1 = .Or) && ((mts T G S M es z1.2.1 && !es.isEmpty))) = true := h
  obtain ⟨z1, h0, h⟩ := any_inv h
  obtain ⟨h1, h⟩ := and_inv h
  exact ⟨z1.2.1, z1.2.2, by rw [vBoolOp_inv h0, of_decide_eq_true h1], h⟩
theorem mt_cmp {op : CmpOp} {a b : ME} {e : Expr} (h : mt T G S M (.cmp op a b) e = true) : ∃ l o r p1, e = .Compare l [o] [r] p1 ∧ (op == o && mt T G S M a l && mt T G S M b r) = true := by
  have h : ((vCompare e).any fun z1 => (one z1.2.1).any fun z2 => (one z1.2.2.1).any fun z3 => (op == z2 && mt T G S M a z1.1 && mt T G S M b z3)) = true := h
  obtain ⟨z1, h0, h⟩ := any_inv h
  obtain ⟨z2, h1, h⟩ := any_inv h
  obtain ⟨z3, h2, h⟩ := any_inv h
  exact ⟨z1.1, z2, z3, z1.2.2.2, by rw [vCompare_inv h0, one_inv h1, one_inv h2], h⟩
theorem mt_cmp2 {op₁ op₂ : CmpOp} {a b c : ME} {e : Expr} (h : mt T G S M (.cmp2 op₁ op₂ a b c) e = true) : ∃ l o₁ o₂ r₁ r₂ p1, e = .Compare l [o₁, o₂] [r₁, r₂] p1 ∧ (op₁ == o₁ && op₂ == o₂ && mt T G S M a l && mt T G S M b r₁ && mt T G S M c r₂) = true := by
  have h : ((vCompare e).any fun z1 => (two z1.2.1).any fun z2 => (two z1.2.2.1).any fun z3 => (op₁ == z2.1 && op₂ == z2.2 && mt T G S M a z1.1 && mt T G S M b z3.1 && mt T G S M c z3.2)) = true := h
  obtain ⟨z1, h0, h⟩ := any_inv h
  obtain ⟨z2, h1, h⟩ := any_inv h
  obtain ⟨z3, h2, h⟩ := any_inv h
  exact ⟨z1.1, z2.1, z2.2, z3.1, z3.2, z1.2.2.2, by rw [vCompare_inv h0, two_inv h1, two_inv h2], h⟩
theorem mt_call {f : Nat} {args : List ME} {e : Expr} (h : mt T G S M (.call f args) e = true) : ∃ x p1 es p2, e = .Call (.Name x p1) es [] p2 ∧ (T.fns.lookup x == some f && G x && x != "__debug__" && mts T G S M args es && !args.isEmpty) = true := by
  have h : ((vCall e).any fun z1 => (vName z1.1).any fun z2 => z1.2.2.1.isEmpty && ((T.fns.lookup z2.1 == some f && G z2.1 && z2.1 != ("__debug__" : Str) && mts T G S M args z1.2.1 && !args.isEmpty))) = true := h
  obtain ⟨z1, h0, h⟩ := any_inv h
  obtain ⟨z2, h1, h⟩ := any_inv h
  obtain ⟨h2, h⟩ := and_inv h
  exact ⟨z2.1, z2.2, z1.2.1, z1.2.2.2, by rw [vCall_inv h0, vName_inv h1, nil_inv h2], h⟩
theorem mt_bi {b : BI} {args : List ME} {e : Expr} (h : mt T G S M (.bi b args) e = true) : ∃ x p1 es p2, e = .Call (.Name x p1) es [] p2 ∧ (b.name == x && G x && mts T G S M args es && !args.isEmpty) = true := by
  have h : ((vCall e).any fun z1 => (vName z1.1).any fun z2 => z1.2.2.1.isEmpty && ((b.name == z2.1 && G z2.1 && mts T G S M args z1.2.1 && !args.isEmpty))) = true := h
  obtain ⟨z1, h0, h⟩ := any_inv h
  obtain ⟨z2, h1, h⟩ := any_inv h
  obtain ⟨h2, h⟩ := and_inv h
  exact ⟨z2.1, z2.2, z1.2.1, z1.2.2.2, by rw [vCall_inv h0, vName_inv h1, nil_inv h2], h⟩
theorem mt_copy {own : Bool} {e₁ : ME} {e : Expr} (h : mt T G S M (.copy own e₁) e = true) : ∃ x p1 a p2, e = .Call (.Name x p1) [a] [] p2 ∧ (x == "list" && G x && mt T G S M e₁ a) = true := by
  have h : ((vCall e).any fun z1 => (vName z1.1).any fun z2 => (one z1.2.1).any fun z3 => z1.2.2.1.isEmpty && ((z2.1 == ("list" : Str) && G z2.1 && mt T G S M e₁ z3))) = true := h
  obtain ⟨z1, h0, h⟩ := any_inv h
  obtain ⟨z2, h1, h⟩ := any_inv h
  obtain ⟨z3, h2, h⟩ := any_inv h
  obtain ⟨h3, h⟩ := and_inv h
  exact ⟨z2.1, z2.2, z3, z1.2.2.2, by rw [vCall_inv h0, vName_inv h1, one_inv h2, nil_inv h3], h⟩
theorem mt_isi {e₁ : ME} {t : TY} {e : Expr} (h : mt T G S M (.isi e₁ t) e = true) : ∃ x p1 a y p2 p3, e = .Call (.Name x p1) [a, (.Name y p2)] [] p3 ∧ (x == "isinstance" && G x && G y && t.name == y && y != "__debug__" && mt T G S M e₁ a && okT T t) = true := by
  have h : ((vCall e).any fun z1 => (vName z1.1).any fun z2 => (two z1.2.1).any fun z3 => (vName z3.2).any fun z4 => z1.2.2.1.isEmpty && ((z2.1 == ("isinstance" : Str) && G z2.1 && G z4.1 && t.name == z4.1 && z4.1 != ("__debug__" : Str) && mt T G S M e₁ z3.1 && okT T t))) = true := h
  obtain ⟨z1, h0, h⟩ := any_inv h
  obtain ⟨z2, h1, h⟩ := any_inv h
  obtain ⟨z3, h2, h⟩ := any_inv h
  obtain ⟨z4, h3, h⟩ := any_inv h
  obtain ⟨h4, h⟩ := and_inv h
  exact ⟨z2.1, z2.2, z3.1, z4.1, z4.2, z1.2.2.2, by rw [vCall_inv h0, vName_inv h1, two_inv h2, vName_inv h3, nil_inv h4], h⟩
theorem mt_make {c : Nat} {args : List ME} {e : Expr} (h : mt T G S M (.make c args) e = true) : ∃ x p1 es p2, e = .Call (.Name x p1) es [] p2 ∧ (T.classes.lookup x == some c && G x && x != "__debug__" && mts T G S M args es && !args.isEmpty) = true := by
  have h : ((vCall e).any fun z1 => (vName z1.1).any fun z2 => z1.2.2.1.isEmpty && ((T.classes.lookup z2.1 == some c && G z2.1 && z2.1 != ("__debug__" : Str) && mts T G S M args z1.2.1 && !args.isEmpty))) = true := h
  obtain ⟨z1, h0, h⟩ := any_inv h
  obtain ⟨z2, h1, h⟩ := any_inv h
  obtain ⟨h2, h⟩ := and_inv h
  exact ⟨z2.1, z2.2, z1.2.1, z1.2.2.2, by rw [vCall_inv h0, vName_inv h1, nil_inv h2], h⟩
theorem mt_meth {o : ME} {f : Nat} {args : List ME} {e : Expr} (h : mt T G S M (.meth o f args) e = true) : ∃ l x pa es pc, e = .Call (.Attribute l x pa) es [] pc ∧ (M f == some x && mt T G S M o l && mts T G S M args es && pa.endLine == pc.line && decide (es.length < 20)) = true := by
  have h : ((vCall e).any fun z1 => (vAttribute z1.1).any fun z2 => z1.2.2.1.isEmpty && ((M f == some z2.2.1 && mt T G S M o z2.1 && mts T G S M args z1.2.1 && z2.2.2.endLine == z1.2.2.2.line && decide (z1.2.1.length < 20)))) = true := h
  obtain ⟨z1, h0, h⟩ := any_inv h
  obtain ⟨z2, h1, h⟩ := any_inv h
  obtain ⟨h2, h⟩ := and_inv h
  exact ⟨z2.1, z2.2.1, z2.2.2, z1.2.1, z1.2.2.2, by rw [vCall_inv h0, vAttribute_inv h1, nil_inv h2], h⟩
theorem mt_attr {o : ME} {k : Nat} {e : Expr} (h : mt T G S M (.attr o k) e = true) : ∃ l y p1, e = .Attribute l y p1 ∧ (T.attrs[k]? == some y && mt T G S M o l) = true := by
  have h : ((vAttribute e).any fun z1 => (T.attrs[k]? == some z1.2.1 && mt T G S M o z1.1)) = true := h
  obtain ⟨z1, h0, h⟩ := any_inv h
  exact ⟨z1.1, z1.2.1, z1.2.2, by rw [vAttribute_inv h0], h⟩
theorem mt_idx {a i : ME} {e : Expr} (h : mt T G S M (.idx a i) e = true) : ∃ l r p1, e = .Subscript l r p1 ∧ (mt T G S M a l && mt T G S M i r) = true := by
  have h : ((vSubscript e).any fun z1 => (mt T G S M a z1.1 && mt T G S M i z1.2.1)) = true := h
  obtain ⟨z1, h0, h⟩ := any_inv h
  exact ⟨z1.1, z1.2.1, z1.2.2, by rw [vSubscript_inv h0], h⟩
theorem mt_sliceTo {own : Bool} {a k : ME} {e : Expr} (h : mt T G S M (.sliceTo own a k) e = true) : ∃ l r p1 p2, e = .Subscript l (.Slice none (some r) none p1) p2 ∧ (mt T G S M a l && mt T G S M k r) = true := by
  have h : ((vSubscript e).any fun z1 => (vSlice z1.2.1).any fun z2 => z2.1.isNone && ((z2.2.1).any fun z3 => z2.2.2.1.isNone && ((mt T G S M a z1.1 && mt T G S M k z3)))) = true := h
  obtain ⟨z1, h0, h⟩ := any_inv h
  obtain ⟨z2, h1, h⟩ := any_inv h
  obtain ⟨h2, h⟩ := and_inv h
  obtain ⟨z3, h3, h⟩ := any_inv h
  obtain ⟨h4, h⟩ := and_inv h
  exact ⟨z1.1, z3, z2.2.2.2, z1.2.2, by rw [vSubscript_inv h0, vSlice_inv h1, non_inv h2, h3, non_inv h4], h⟩
theorem mt_sliceFrom {own : Bool} {a k : ME} {e : Expr} (h : mt T G S M (.sliceFrom own a k) e = true) : ∃ l r p1 p2, e = .Subscript l (.Slice (some r) none none p1) p2 ∧ (mt T G S M a l && mt T G S M k r) = true := by
  have h : ((vSubscript e).any fun z1 => (vSlice z1.2.1).any fun z2 => (z2.1).any fun z3 => z2.2.1.isNone && (z2.2.2.1.isNone && ((mt T G S M a z1.1 && mt T G S M k z3)))) = true := h
  obtain ⟨z1, h0, h⟩ := any_inv h
  obtain ⟨z2, h1, h⟩ := any_inv h
  obtain ⟨z3, h2, h⟩ := any_inv h
  obtain ⟨h3, h⟩ := and_inv h
  obtain ⟨h4, h⟩ := and_inv h
  exact ⟨z1.1, z3, z2.2.2.2, z1.2.2, by rw [vSubscript_inv h0, vSlice_inv h1, h2, non_inv h3, non_inv h4], h⟩
theorem mt_tup {es : List ME} {e : Expr} (h : mt T G S M (.tup es) e = true) : ∃ l p1 p2, e = .Tuple l p1 p2 ∧ (mts T G S M es l && decide (l.length ≤ 1000)) = true := by
  have h : ((vTuple e).any fun z1 => (mts T G S M es z1.1 && decide (z1.1.length ≤ 1000))) = true := h
  obtain ⟨z1, h0, h⟩ := any_inv h
  exact ⟨z1.1, z1.2.1, z1.2.2, by rw [vTuple_inv h0], h⟩
theorem mt_lst {own : Bool} {es : List ME} {e : Expr} (h : mt T G S M (.lst own es) e = true) : ∃ l p1, e = .List l p1 ∧ (mts T G S M es l && decide (l.length ≤ 1000)) = true := by
  have h : ((vList e).any fun z1 => (mts T G S M es z1.1 && decide (z1.1.length ≤ 1000))) = true := h
  obtain ⟨z1, h0, h⟩ := any_inv h
  exact ⟨z1.1, z1.2, by rw [vList_inv h0], h⟩
theorem mt_sumAt {k i : Nat} {e : Expr} (h : mt T G S M (.sumAt k i) e = true) : ∃ x p1 y p2 cc p3 p4 p5 gs sc p6 p7, e = .Call (.Name x p1) [(.ListComp (.Subscript (.Name y p2) (.Constant cc p3 p4) p5) gs sc p6)] [] p7 ∧ (x == "sum" && G x && y != "__debug__" && decide (cc = .int (k : Int)) && scOk y sc && (one gs).any fun g => gOk y g && (vName g.iter).any fun q => S[i]? == some q.1 && q.1 != ("__debug__" : Str)) = true := by
  have h : ((vCall e).any fun z1 => (vName z1.1).any fun z2 => (one z1.2.1).any fun z3 => (vListComp z3).any fun z4 => (vSubscript z4.1).any fun z5 => (vName z5.1).any fun z6 => (vConstant z5.2.1).any fun z7 => z1.2.2.1.isEmpty && ((z2.1 == ("sum" : Str) && G z2.1 && z6.1 != ("__debug__" : Str) && decide (z7.1 = .int (k : Int)) && scOk z6.1 z4.2.2.1 && (one z4.2.1).any fun g => gOk z6.1 g && (vName g.iter).any fun q => S[i]? == some q.1 && q.1 != (("__debug__" : Str) : Str)))) = true := h
  obtain ⟨z1, h0, h⟩ := any_inv h
  obtain ⟨z2, h1, h⟩ := any_inv h
  obtain ⟨z3, h2, h⟩ := any_inv h
  obtain ⟨z4, h3, h⟩ := any_inv h
  obtain ⟨z5, h4, h⟩ := any_inv h
  obtain ⟨z6, h5, h⟩ := any_inv h
  obtain ⟨z7, h6, h⟩ := any_inv h
  obtain ⟨h7, h⟩ := and_inv h
  exact ⟨z2.1, z2.2, z6.1, z6.2, z7.1, z7.2.1, z7.2.2, z5.2.2, z4.2.1, z4.2.2.1, z4.2.2.2, z1.2.2.2, by rw [vCall_inv h0, vName_inv h1, one_inv h2, vListComp_inv h3, vSubscript_inv h4, vName_inv h5, vConstant_inv h6, nil_inv h7], h⟩
theorem mt_rev {e₁ : ME} {e : Expr} (h : mt T G S M (.rev e₁) e = true) : ∃ l p1 p2 p3 p4 p5, e = .Subscript l (.Slice none none (some (.UnaryOp .USub (.Constant (.int 1) p1 p2) p3)) p4) p5 ∧ (mt T G S M e₁ l) = true := by
  have h : ((vSubscript e).any fun z1 => (vSlice z1.2.1).any fun z2 => z2.1.isNone && (z2.2.1.isNone && ((z2.2.2.1).any fun z3 => (vUnaryOp z3).any fun z4 => decide (z4.1 = .USub) && ((vConstant z4.2.1).any fun z5 => decide (z5.1 = (.int 1)) && ((mt T G S M e₁ z1.1)))))) = true := h
  obtain ⟨z1, h0, h⟩ := any_inv h
  obtain ⟨z2, h1, h⟩ := any_inv h
  obtain ⟨h2, h⟩ := and_inv h
  obtain ⟨h3, h⟩ := and_inv h
  obtain ⟨z3, h4, h⟩ := any_inv h
  obtain ⟨z4, h5, h⟩ := any_inv h
  obtain ⟨h6, h⟩ := and_inv h
  obtain ⟨z5, h7, h⟩ := any_inv h
  obtain ⟨h8, h⟩ := and_inv h
  exact ⟨z1.1, z5.2.1, z5.2.2, z4.2.2, z2.2.2.2, z1.2.2, by rw [vSubscript_inv h0, vSlice_inv h1, non_inv h2, non_inv h3, h4, vUnaryOp_inv h5, of_decide_eq_true h6, vConstant_inv h7, of_decide_eq_true h8], h⟩
theorem mt_strMul {s : Str} {e₁ : ME} {e : Expr} (h : mt T G S M (.strMul s e₁) e = true) : ∃ p1 p2 r p3, e = .BinOp (.Constant (.str s) p1 p2) .Mult r p3 ∧ (mt T G S M e₁ r) = true := by
  have h : ((vBinOp e).any fun z1 => (vConstant z1.1).any fun z2 => decide (z2.1 = (.str s)) && (decide (z1.2.1 = .Mult) && ((mt T G S M e₁ z1.2.2.1)))) = true := h
  obtain ⟨z1, h0, h⟩ := any_inv h
  obtain ⟨z2, h1, h⟩ := any_inv h
  obtain ⟨h2, h⟩ := and_inv h
  obtain ⟨h3, h⟩ := and_inv h
  exact ⟨z2.2.1, z2.2.2, z1.2.2.1, z1.2.2.2, by rw [vBinOp_inv h0, vConstant_inv h1, of_decide_eq_true h2, of_decide_eq_true h3], h⟩
theorem mt_cat {a b : ME} {e : Expr} (h : mt T G S M (.cat a b) e = true) : ∃ l r p1, e = .BinOp l .Add r p1 ∧ (mt T G S M a l && mt T G S M b r) = true := by
  have h : ((vBinOp e).any fun z1 => decide (z1.2.1 = .Add) && ((mt T G S M a z1.1 && mt T G S M b z1.2.2.1))) = true := h
  obtain ⟨z1, h0, h⟩ := any_inv h
  obtain ⟨h1, h⟩ := and_inv h
  exact ⟨z1.1, z1.2.2.1, z1.2.2.2, by rw [vBinOp_inv h0, of_decide_eq_true h1], h⟩
theorem mt_slen {a : ME} {e : Expr} (h : mt T G S M (.slen a) e = true) : ∃ x p1 y p2, e = .Call (.Name x p1) [y] [] p2 ∧ (x == "len" && G x && mt T G S M a y) = true := by
  have h : ((vCall e).any fun z1 => (vName z1.1).any fun z2 => (one z1.2.1).any fun z3 => z1.2.2.1.isEmpty && ((z2.1 == ("len" : Str) && G z2.1 && mt T G S M a z3))) = true := h
  obtain ⟨z1, h0, h⟩ := any_inv h
  obtain ⟨z2, h1, h⟩ := any_inv h
  obtain ⟨z3, h2, h⟩ := any_inv h
  obtain ⟨h3, h⟩ := and_inv h
  exact ⟨z2.1, z2.2, z3, z1.2.2.2, by rw [vCall_inv h0, vName_inv h1, one_inv h2, nil_inv h3], h⟩
theorem mt_sidx {a i : ME} {e : Expr} (h : mt T G S M (.sidx a i) e = true) : ∃ l r p1, e = .Subscript l r p1 ∧ (mt T G S M a l && mt T G S M i r) = true := by
  have h : ((vSubscript e).any fun z1 => (mt T G S M a z1.1 && mt T G S M i z1.2.1)) = true := h
  obtain ⟨z1, h0, h⟩ := any_inv h
  exact ⟨z1.1, z1.2.1, z1.2.2, by rw [vSubscript_inv h0], h⟩
theorem mt_sTo {a k : ME} {e : Expr} (h : mt T G S M (.sTo a k) e = true) : ∃ l r p1 p2, e = .Subscript l (.Slice none (some r) none p1) p2 ∧ (mt T G S M a l && mt T G S M k r) = true := by
  have h : ((vSubscript e).any fun z1 => (vSlice z1.2.1).any fun z2 => z2.1.isNone && ((z2.2.1).any fun z3 => z2.2.2.1.isNone && ((mt T G S M a z1.1 && mt T G S M k z3)))) = true := h
  obtain ⟨z1, h0, h⟩ := any_inv h
  obtain ⟨z2, h1, h⟩ := any_inv h
  obtain ⟨h2, h⟩ := and_inv h
  obtain ⟨z3, h3, h⟩ := any_inv h
  obtain ⟨h4, h⟩ := and_inv h
  exact ⟨z1.1, z3, z2.2.2.2, z1.2.2, by rw [vSubscript_inv h0, vSlice_inv h1, non_inv h2, h3, non_inv h4], h⟩
theorem mt_sFrom {a k : ME} {e : Expr} (h : mt T G S M (.sFrom a k) e = true) : ∃ l r p1 p2, e = .Subscript l (.Slice (some r) none none p1) p2 ∧ (mt T G S M a l && mt T G S M k r) = true := by
  have h : ((vSubscript e).any fun z1 => (vSlice z1.2.1).any fun z2 => (z2.1).any fun z3 => z2.2.1.isNone && (z2.2.2.1.isNone && ((mt T G S M a z1.1 && mt T G S M k z3)))) = true := h
  obtain ⟨z1, h0, h⟩ := any_inv h
  obtain ⟨z2, h1, h⟩ := any_inv h
  obtain ⟨z3, h2, h⟩ := any_inv h
  obtain ⟨h3, h⟩ := and_inv h
  obtain ⟨h4, h⟩ := and_inv h
  exact ⟨z1.1, z3, z2.2.2.2, z1.2.2, by rw [vSubscript_inv h0, vSlice_inv h1, h2, non_inv h3, non_inv h4], h⟩
theorem mt_split {own : Bool} {a : ME} {e : Expr} (h : mt T G S M (.split own a) e = true) : ∃ l x pa p1 p2 pc, e = .Call (.Attribute l x pa) [(.Constant (.str " ") p1 p2)] [] pc ∧ (x == "split" && mt T G S M a l && pa.endLine == pc.line) = true := by
  have h : ((vCall e).any fun z1 => (vAttribute z1.1).any fun z2 => (one z1.2.1).any fun z3 => (vConstant z3).any fun z4 => decide (z4.1 = (.str " ")) && (z1.2.2.1.isEmpty && ((z2.2.1 == ("split" : Str) && mt T G S M a z2.1 && z2.2.2.endLine == z1.2.2.2.line)))) = true := h
  obtain ⟨z1, h0, h⟩ := any_inv h
  obtain ⟨z2, h1, h⟩ := any_inv h
  obtain ⟨z3, h2, h⟩ := any_inv h
  obtain ⟨z4, h3, h⟩ := any_inv h
  obtain ⟨h4, h⟩ := and_inv h
  obtain ⟨h5, h⟩ := and_inv h
  exact ⟨z2.1, z2.2.1, z2.2.2, z4.2.1, z4.2.2, z1.2.2.2, by rw [vCall_inv h0, vAttribute_inv h1, one_inv h2, vConstant_inv h3, of_decide_eq_true h4, nil_inv h5], h⟩
theorem mt_join {a : ME} {e : Expr} (h : mt T G S M (.join a) e = true) : ∃ p1 p2 x pa y pc, e = .Call (.Attribute (.Constant (.str " ") p1 p2) x pa) [y] [] pc ∧ (x == "join" && mt T G S M a y && pa.endLine == pc.line) = true := by
  have h : ((vCall e).any fun z1 => (vAttribute z1.1).any fun z2 => (vConstant z2.1).any fun z3 => decide (z3.1 = (.str " ")) && ((one z1.2.1).any fun z4 => z1.2.2.1.isEmpty && ((z2.2.1 == ("join" : Str) && mt T G S M a z4 && z2.2.2.endLine == z1.2.2.2.line)))) = true := h
  obtain ⟨z1, h0, h⟩ := any_inv h
  obtain ⟨z2, h1, h⟩ := any_inv h
  obtain ⟨z3, h2, h⟩ := any_inv h
  obtain ⟨h3, h⟩ := and_inv h
  obtain ⟨z4, h4, h⟩ := any_inv h
  obtain ⟨h5, h⟩ := and_inv h
  exact ⟨z3.2.1, z3.2.2, z2.2.1, z2.2.2, z4, z1.2.2.2, by rw [vCall_inv h0, vAttribute_inv h1, vConstant_inv h2, of_decide_eq_true h3, one_inv h4, nil_inv h5], h⟩
theorem mt_upper {a : ME} {e : Expr} (h : mt T G S M (.upper a) e = true) : ∃ l x pa pc, e = .Call (.Attribute l x pa) [] [] pc ∧ (x == "upper" && mt T G S M a l && pa.endLine == pc.line) = true := by
  have h : ((vCall e).any fun z1 => (vAttribute z1.1).any fun z2 => z1.2.1.isEmpty && (z1.2.2.1.isEmpty && ((z2.2.1 == ("upper" : Str) && mt T G S M a z2.1 && z2.2.2.endLine == z1.2.2.2.line)))) = true := h
  obtain ⟨z1, h0, h⟩ := any_inv h
  obtain ⟨z2, h1, h⟩ := any_inv h
  obtain ⟨h2, h⟩ := and_inv h
  obtain ⟨h3, h⟩ := and_inv h
  exact ⟨z2.1, z2.2.1, z2.2.2, z1.2.2.2, by rw [vCall_inv h0, vAttribute_inv h1, nil_inv h2, nil_inv h3], h⟩
theorem mt_giveRepl {i : Nat} {e : Expr} (h : mt T G S M (.giveRepl i) e = true) : ∃ p1 p2 y p3 p4 p5 p6 p7 p8 z p9 x pa p10 p11 p12 p13 pc p14, e = .List [(.BinOp (.Constant (.str "give") p1 p2) .Add (.Subscript (.Name y p3) (.Slice (some (.Constant (.int 3) p4 p5)) none none p6) p7) p8), (.Call (.Attribute (.Name z p9) x pa) [(.Constant (.str " ") p10 p11), (.Constant (.str "\t") p12 p13)] [] pc)] p14 ∧ (x == "replace" && S[i]? == some y && y == z && y != "__debug__" && pa.endLine == pc.line) = true := by
  have h : ((vList e).any fun z1 => (two z1.1).any fun z2 => (vBinOp z2.1).any fun z3 => (vConstant z3.1).any fun z4 => decide (z4.1 = (.str "give")) && (decide (z3.2.1 = .Add) && ((vSubscript z3.2.2.1).any fun z5 => (vName z5.1).any fun z6 => (vSlice z5.2.1).any fun z7 => (z7.1).any fun z8 => (vConstant z8).any fun z9 => decide (z9.1 = (.int 3)) && (z7.2.1.isNone && (z7.2.2.1.isNone && ((vCall z2.2).any fun z10 => (vAttribute z10.1).any fun z11 => (vName z11.1).any fun z12 => (two z10.2.1).any fun z13 => (vConstant z13.1).any fun z14 => decide (z14.1 = (.str " ")) && ((vConstant z13.2).any fun z15 => decide (z15.1 = (.str "\t")) && (z10.2.2.1.isEmpty && ((z11.2.1 == ("replace" : Str) && S[i]? == some z6.1 && z6.1 == z12.1 && z6.1 != ("__debug__" : Str) && z11.2.2.endLine == z10.2.2.2.line)))))))))) = true := h
  obtain ⟨z1, h0, h⟩ := any_inv h
  obtain ⟨z2, h1, h⟩ := any_inv h
  obtain ⟨z3, h2, h⟩ := any_inv h
  obtain ⟨z4, h3, h⟩ := any_inv h
  obtain ⟨h4, h⟩ := and_inv h
  obtain ⟨h5, h⟩ := and_inv h
  obtain ⟨z5, h6, h⟩ := any_inv h
  obtain ⟨z6, h7, h⟩ := any_inv h
  obtain ⟨z7, h8, h⟩ := any_inv h
  obtain ⟨z8, h9, h⟩ := any_inv h
  obtain ⟨z9, h10, h⟩ := any_inv h
  obtain ⟨h11, h⟩ := and_inv h
  obtain ⟨h12, h⟩ := and_inv h
  obtain ⟨h13, h⟩ := and_inv h
  obtain ⟨z10, h14, h⟩ := any_inv h
  obtain ⟨z11, h15, h⟩ := any_inv h
  obtain ⟨z12, h16, h⟩ := any_inv h
  obtain ⟨z13, h17, h⟩ := any_inv h
  obtain ⟨z14, h18, h⟩ := any_inv h
  obtain ⟨h19, h⟩ := and_inv h
  obtain ⟨z15, h20, h⟩ := any_inv h
  obtain ⟨h21, h⟩ := and_inv h
  obtain ⟨h22, h⟩ := and_inv h
  exact ⟨z4.2.1, z4.2.2, z6.1, z6.2, z9.2.1, z9.2.2, z7.2.2.2, z5.2.2, z3.2.2.2, z12.1, z12.2, z11.2.1, z11.2.2, z14.2.1, z14.2.2, z15.2.1, z15.2.2, z10.2.2.2, z1.2, by rw [vList_inv h0, two_inv h1, vBinOp_inv h2, vConstant_inv h3, of_decide_eq_true h4, of_decide_eq_true h5, vSubscript_inv h6, vName_inv h7, vSlice_inv h8, h9, vConstant_inv h10, of_decide_eq_true h11, non_inv h12, non_inv h13, vCall_inv h14, vAttribute_inv h15, vName_inv h16, two_inv h17, vConstant_inv h18, of_decide_eq_true h19, vConstant_inv h20, of_decide_eq_true h21, nil_inv h22], h⟩
theorem mt_strOf {a : ME} {e : Expr} (h : mt T G S M (.strOf a) e = true) : ∃ x p1 y p2, e = .Call (.Name x p1) [y] [] p2 ∧ (x == "str" && G x && mt T G S M a y) = true := by
  have h : ((vCall e).any fun z1 => (vName z1.1).any fun z2 => (one z1.2.1).any fun z3 => z1.2.2.1.isEmpty && ((z2.1 == ("str" : Str) && G z2.1 && mt T G S M a z3))) = true := h
  obtain ⟨z1, h0, h⟩ := any_inv h
  obtain ⟨z2, h1, h⟩ := any_inv h
  obtain ⟨z3, h2, h⟩ := any_inv h
  obtain ⟨h3, h⟩ := and_inv h
  exact ⟨z2.1, z2.2, z3, z1.2.2.2, by rw [vCall_inv h0, vName_inv h1, one_inv h2, nil_inv h3], h⟩
theorem mt_intOf {a : ME} {e : Expr} (h : mt T G S M (.intOf a) e = true) : ∃ x p1 y p2, e = .Call (.Name x p1) [y] [] p2 ∧ (x == "int" && G x && mt T G S M a y) = true := by
  have h : ((vCall e).any fun z1 => (vName z1.1).any fun z2 => (one z1.2.1).any fun z3 => z1.2.2.1.isEmpty && ((z2.1 == ("int" : Str) && G z2.1 && mt T G S M a z3))) = true := h
  obtain ⟨z1, h0, h⟩ := any_inv h
  obtain ⟨z2, h1, h⟩ := any_inv h
  obtain ⟨z3, h2, h⟩ := any_inv h
  obtain ⟨h3, h⟩ := and_inv h
  exact ⟨z2.1, z2.2, z3, z1.2.2.2, by rw [vCall_inv h0, vName_inv h1, one_inv h2, nil_inv h3], h⟩
theorem mt_notIn {a b : ME} {e : Expr} (h : mt T G S M (.notIn a b) e = true) : ∃ l r p1, e = .Compare l [.NotIn] [r] p1 ∧ (mt T G S M a l && mt T G S M b r) = true := by
  have h : ((vCompare e).any fun z1 => (one z1.2.1).any fun z2 => decide (z2 = .NotIn) && ((one z1.2.2.1).any fun z3 => (mt T G S M a z1.1 && mt T G S M b z3))) = true := h
  obtain ⟨z1, h0, h⟩ := any_inv h
  obtain ⟨z2, h1, h⟩ := any_inv h
  obtain ⟨h2, h⟩ := and_inv h
  obtain ⟨z3, h3, h⟩ := any_inv h
  exact ⟨z1.1, z3, z1.2.2.2, by rw [vCompare_inv h0, one_inv h1, of_decide_eq_true h2, one_inv h3], h⟩
theorem mt_inT {ws : List Str} {a : ME} {e : Expr} (h : mt T G S M (.inT ws a) e = true) : ∃ l es p1 p2 p3, e = .Compare l [.In] [(.Tuple es p1 p2)] p3 ∧ (mt T G S M a l && strsOk ws es && decide (ws.length ≤ 3)) = true := by
  have h : ((vCompare e).any fun z1 => (one z1.2.1).any fun z2 => decide (z2 = .In) && ((one z1.2.2.1).any fun z3 => (vTuple z3).any fun z4 => (mt T G S M a z1.1 && strsOk ws z4.1 && decide (ws.length ≤ 3)))) = true := h
  obtain ⟨z1, h0, h⟩ := any_inv h
  obtain ⟨z2, h1, h⟩ := any_inv h
  obtain ⟨h2, h⟩ := and_inv h
  obtain ⟨z3, h3, h⟩ := any_inv h
  obtain ⟨z4, h4, h⟩ := any_inv h
  exact ⟨z1.1, z4.1, z4.2.1, z4.2.2, z1.2.2.2, by rw [vCompare_inv h0, one_inv h1, of_decide_eq_true h2, one_inv h3, vTuple_inv h4], h⟩
theorem mt_notInL {ws : List Str} {a : ME} {e : Expr} (h : mt T G S M (.notInL ws a) e = true) : ∃ l es p1 p2, e = .Compare l [.NotIn] [(.List es p1)] p2 ∧ (mt T G S M a l && strsOk ws es && decide (ws.length ≤ 3)) = true := by
  have h : ((vCompare e).any fun z1 => (one z1.2.1).any fun z2 => decide (z2 = .NotIn) && ((one z1.2.2.1).any fun z3 => (vList z3).any fun z4 => (mt T G S M a z1.1 && strsOk ws z4.1 && decide (ws.length ≤ 3)))) = true := h
  obtain ⟨z1, h0, h⟩ := any_inv h
  obtain ⟨z2, h1, h⟩ := any_inv h
  obtain ⟨h2, h⟩ := and_inv h
  obtain ⟨z3, h3, h⟩ := any_inv h
  obtain ⟨z4, h4, h⟩ := any_inv h
  exact ⟨z1.1, z4.1, z4.2, z1.2.2.2, by rw [vCompare_inv h0, one_inv h1, of_decide_eq_true h2, one_inv h3, vList_inv h4], h⟩
theorem mt_minL {a : ME} {e : Expr} (h : mt T G S M (.minL a) e = true) : ∃ x p1 y p2, e = .Call (.Name x p1) [y] [] p2 ∧ (x == "min" && G x && mt T G S M a y) = true := by
  have h : ((vCall e).any fun z1 => (vName z1.1).any fun z2 => (one z1.2.1).any fun z3 => z1.2.2.1.isEmpty && ((z2.1 == ("min" : Str) && G z2.1 && mt T G S M a z3))) = true := h
  obtain ⟨z1, h0, h⟩ := any_inv h
  obtain ⟨z2, h1, h⟩ := any_inv h
  obtain ⟨z3, h2, h⟩ := any_inv h
  obtain ⟨h3, h⟩ := and_inv h
  exact ⟨z2.1, z2.2, z3, z1.2.2.2, by rw [vCall_inv h0, vName_inv h1, one_inv h2, nil_inv h3], h⟩
theorem mt_shownL {i : Nat} {e : Expr} (h : mt T G S M (.shownL i) e = true) : ∃ y p1 p2 p3 p4 p5 f p6 z p7 p8 gs sc p9 p10, e = .BinOp (.List [(.Subscript (.Name y p1) (.Constant (.int 0) p2 p3) p4)] p5) .Add (.ListComp (.Call (.Name f p6) [(.Name z p7)] [] p8) gs sc p9) p10 ∧ (f == "str" && S[i]? == some y && y != "__debug__" && z != "__debug__" && scOkG z f sc && (one gs).any fun g => gOk z g && tailOk S i g.iter) = true := by
  have h : ((vBinOp e).any fun z1 => (vList z1.1).any fun z2 => (one z2.1).any fun z3 => (vSubscript z3).any fun z4 => (vName z4.1).any fun z5 => (vConstant z4.2.1).any fun z6 => decide (z6.1 = (.int 0)) && (decide (z1.2.1 = .Add) && ((vListComp z1.2.2.1).any fun z7 => (vCall z7.1).any fun z8 => (vName z8.1).any fun z9 => (one z8.2.1).any fun z10 => (vName z10).any fun z11 => z8.2.2.1.isEmpty && ((z9.1 == ("str" : Str) && S[i]? == some z5.1 && z5.1 != ("__debug__" : Str) && z11.1 != ("__debug__" : Str) && scOkG z11.1 z9.1 z7.2.2.1 && (one z7.2.1).any fun g => gOk z11.1 g && tailOk S i g.iter))))) = true := h
  obtain ⟨z1, h0, h⟩ := any_inv h
  obtain ⟨z2, h1, h⟩ := any_inv h
  obtain ⟨z3, h2, h⟩ := any_inv h
  obtain ⟨z4, h3, h⟩ := any_inv h
  obtain ⟨z5, h4, h⟩ := any_inv h
  obtain ⟨z6, h5, h⟩ := any_inv h
  obtain ⟨h6, h⟩ := and_inv h
  obtain ⟨h7, h⟩ := and_inv h
  obtain ⟨z7, h8, h⟩ := any_inv h
  obtain ⟨z8, h9, h⟩ := any_inv h
  obtain ⟨z9, h10, h⟩ := any_inv h
  obtain ⟨z10, h11, h⟩ := any_inv h
  obtain ⟨z11, h12, h⟩ := any_inv h
  obtain ⟨h13, h⟩ := and_inv h
  exact ⟨z5.1, z5.2, z6.2.1, z6.2.2, z4.2.2, z2.2, z9.1, z9.2, z11.1, z11.2, z8.2.2.2, z7.2.1, z7.2.2.1, z7.2.2.2, z1.2.2.2, by rw [vBinOp_inv h0, vList_inv h1, one_inv h2, vSubscript_inv h3, vName_inv h4, vConstant_inv h5, of_decide_eq_true h6, of_decide_eq_true h7, vListComp_inv h8, vCall_inv h9, vName_inv h10, one_inv h11, vName_inv h12, nil_inv h13], h⟩
theorem ms_expr {e₁ : ME} {e : Stmt} (h : ms T G S M (.expr e₁) e = true) : ∃ y p1, e = .Expr y p1 ∧ (mt T G S M e₁ y) = true := by
  have h : ((wExpr e).any fun z1 => (mt T G S M e₁ z1.1)) = true := h
  obtain ⟨z1, h0, h⟩ := any_inv h
  exact ⟨z1.1, z1.2, by rw [wExpr_inv h0], h⟩
theorem ms_append {o e₁ : ME} {e : Stmt} (h : ms T G S M (.append o e₁) e = true) : ∃ l x pa y pc p1, e = .Expr (.Call (.Attribute l x pa) [y] [] pc) p1 ∧ (x == "append" && mt T G S M o l && mt T G S M e₁ y && pa.endLine == pc.line) = true := by
  have h : ((wExpr e).any fun z1 => (vCall z1.1).any fun z2 => (vAttribute z2.1).any fun z3 => (one z2.2.1).any fun z4 => z2.2.2.1.isEmpty && ((z3.2.1 == ("append" : Str) && mt T G S M o z3.1 && mt T G S M e₁ z4 && z3.2.2.endLine == z2.2.2.2.line))) = true := h
  obtain ⟨z1, h0, h⟩ := any_inv h
  obtain ⟨z2, h1, h⟩ := any_inv h
  obtain ⟨z3, h2, h⟩ := any_inv h
  obtain ⟨z4, h3, h⟩ := any_inv h
  obtain ⟨h4, h⟩ := and_inv h
  exact ⟨z3.1, z3.2.1, z3.2.2, z4, z2.2.2.2, z1.2, by rw [wExpr_inv h0, vCall_inv h1, vAttribute_inv h2, one_inv h3, nil_inv h4], h⟩
theorem ms_assign {i : Nat} {e₁ : ME} {e : Stmt} (h : ms T G S M (.assign i e₁) e = true) : ∃ x p1 y p2, e = .Assign [(.Name x p1)] y p2 ∧ (S[i]? == some x && mt T G S M e₁ y) = true := by
  have h : ((wAssign e).any fun z1 => (one z1.1).any fun z2 => (vName z2).any fun z3 => (S[i]? == some z3.1 && mt T G S M e₁ z1.2.1)) = true := h
  obtain ⟨z1, h0, h⟩ := any_inv h
  obtain ⟨z2, h1, h⟩ := any_inv h
  obtain ⟨z3, h2, h⟩ := any_inv h
  exact ⟨z3.1, z3.2, z1.2.1, z1.2.2, by rw [wAssign_inv h0, one_inv h1, vName_inv h2], h⟩
theorem ms_unpack {is : List Nat} {e₁ : ME} {e : Stmt} (h : ms T G S M (.unpack is e₁) e = true) : ∃ ts p1 p2 y p3, e = .Assign [(.Tuple ts p1 p2)] y p3 ∧ (targets S is ts && mt T G S M e₁ y && tupOk is ts y) = true := by
  have h : ((wAssign e).any fun z1 => (one z1.1).any fun z2 => (vTuple z2).any fun z3 => (targets S is z3.1 && mt T G S M e₁ z1.2.1 && tupOk is z3.1 z1.2.1)) = true := h
  obtain ⟨z1, h0, h⟩ := any_inv h
  obtain ⟨z2, h1, h⟩ := any_inv h
  obtain ⟨z3, h2, h⟩ := any_inv h
  exact ⟨z3.1, z3.2.1, z3.2.2, z1.2.1, z1.2.2, by rw [wAssign_inv h0, one_inv h1, vTuple_inv h2], h⟩
theorem ms_setattr {o : ME} {k : Nat} {e₁ : ME} {e : Stmt} (h : ms T G S M (.setattr o k e₁) e = true) : ∃ l y p1 r p2, e = .Assign [(.Attribute l y p1)] r p2 ∧ (T.attrs[k]? == some y && mt T G S M o l && mt T G S M e₁ r) = true := by
  have h : ((wAssign e).any fun z1 => (one z1.1).any fun z2 => (vAttribute z2).any fun z3 => (T.attrs[k]? == some z3.2.1 && mt T G S M o z3.1 && mt T G S M e₁ z1.2.1)) = true := h
  obtain ⟨z1, h0, h⟩ := any_inv h
  obtain ⟨z2, h1, h⟩ := any_inv h
  obtain ⟨z3, h2, h⟩ := any_inv h
  exact ⟨z3.1, z3.2.1, z3.2.2, z1.2.1, z1.2.2, by rw [wAssign_inv h0, one_inv h1, vAttribute_inv h2], h⟩
theorem ms_setitem {o k e₁ : ME} {e : Stmt} (h : ms T G S M (.setitem o k e₁) e = true) : ∃ l r p1 y p2, e = .Assign [(.Subscript l r p1)] y p2 ∧ (mt T G S M o l && mt T G S M k r && mt T G S M e₁ y) = true := by
  have h : ((wAssign e).any fun z1 => (one z1.1).any fun z2 => (vSubscript z2).any fun z3 => (mt T G S M o z3.1 && mt T G S M k z3.2.1 && mt T G S M e₁ z1.2.1)) = true := h
  obtain ⟨z1, h0, h⟩ := any_inv h
  obtain ⟨z2, h1, h⟩ := any_inv h
  obtain ⟨z3, h2, h⟩ := any_inv h
  exact ⟨z3.1, z3.2.1, z3.2.2, z1.2.1, z1.2.2, by rw [wAssign_inv h0, one_inv h1, vSubscript_inv h2], h⟩
theorem ms_unpackSub {i : Nat} {o k e₁ : ME} {e : Stmt} (h : ms T G S M (.unpackSub i o k e₁) e = true) : ∃ x p1 l r p2 p3 p4 y p5, e = .Assign [(.Tuple [(.Name x p1), (.Subscript l r p2)] p3 p4)] y p5 ∧ (S[i]? == some x && mt T G S M o l && mt T G S M k r && mt T G S M e₁ y && (vTuple y).isNone) = true := by
  have h : ((wAssign e).any fun z1 => (one z1.1).any fun z2 => (vTuple z2).any fun z3 => (two z3.1).any fun z4 => (vName z4.1).any fun z5 => (vSubscript z4.2).any fun z6 => (S[i]? == some z5.1 && mt T G S M o z6.1 && mt T G S M k z6.2.1 && mt T G S M e₁ z1.2.1 && (vTuple z1.2.1).isNone)) = true := h
  obtain ⟨z1, h0, h⟩ := any_inv h
  obtain ⟨z2, h1, h⟩ := any_inv h
  obtain ⟨z3, h2, h⟩ := any_inv h
  obtain ⟨z4, h3, h⟩ := any_inv h
  obtain ⟨z5, h4, h⟩ := any_inv h
  obtain ⟨z6, h5, h⟩ := any_inv h
  exact ⟨z5.1, z5.2, z6.1, z6.2.1, z6.2.2, z3.2.1, z3.2.2, z1.2.1, z1.2.2, by rw [wAssign_inv h0, one_inv h1, vTuple_inv h2, two_inv h3, vName_inv h4, vSubscript_inv h5], h⟩
theorem ms_unpackL {is : List Nat} {e₁ : ME} {e : Stmt} (h : ms T G S M (.unpackL is e₁) e = true) : ∃ ts p1 p2 y p3, e = .Assign [(.Tuple ts p1 p2)] y p3 ∧ (targets S is ts && mt T G S M e₁ y && (vTuple y).isNone) = true := by
  have h : ((wAssign e).any fun z1 => (one z1.1).any fun z2 => (vTuple z2).any fun z3 => (targets S is z3.1 && mt T G S M e₁ z1.2.1 && (vTuple z1.2.1).isNone)) = true := h
  obtain ⟨z1, h0, h⟩ := any_inv h
  obtain ⟨z2, h1, h⟩ := any_inv h
  obtain ⟨z3, h2, h⟩ := any_inv h
  exact ⟨z3.1, z3.2.1, z3.2.2, z1.2.1, z1.2.2, by rw [wAssign_inv h0, one_inv h1, vTuple_inv h2], h⟩
theorem ms_ite {c : ME} {a b : List MS} {e : Stmt} (h : ms T G S M (.ite c a b) e = true) : ∃ t x y p1, e = .If t x y p1 ∧ (mt T G S M c t && mss T G S M a x && mss T G S M b y) = true := by
  have h : ((wIf e).any fun z1 => (mt T G S M c z1.1 && mss T G S M a z1.2.1 && mss T G S M b z1.2.2.1)) = true := h
  obtain ⟨z1, h0, h⟩ := any_inv h
  exact ⟨z1.1, z1.2.1, z1.2.2.1, z1.2.2.2, by rw [wIf_inv h0], h⟩
theorem ms_forIn {i : Nat} {it : ME} {body : List MS} {e : Stmt} (h : ms T G S M (.forIn i it body) e = true) : ∃ x p1 y b p2, e = .For (.Name x p1) y b [] p2 ∧ (S[i]? == some x && mt T G S M it y && mss T G S M body b) = true := by
  have h : ((wFor e).any fun z1 => (vName z1.1).any fun z2 => z1.2.2.2.1.isEmpty && ((S[i]? == some z2.1 && mt T G S M it z1.2.1 && mss T G S M body z1.2.2.1))) = true := h
  obtain ⟨z1, h0, h⟩ := any_inv h
  obtain ⟨z2, h1, h⟩ := any_inv h
  obtain ⟨h2, h⟩ := and_inv h
  exact ⟨z2.1, z2.2, z1.2.1, z1.2.2.1, z1.2.2.2.2, by rw [wFor_inv h0, vName_inv h1, nil_inv h2], h⟩
theorem ms_forRange {i : Nat} {args : List ME} {body : List MS} {e : Stmt} (h : ms T G S M (.forRange i args body) e = true) : ∃ x p1 y p2 es p3 b p4, e = .For (.Name x p1) (.Call (.Name y p2) es [] p3) b [] p4 ∧ (S[i]? == some x && y == "range" && G y && mts T G S M args es && !args.isEmpty && mss T G S M body b) = true := by
  have h : ((wFor e).any fun z1 => (vName z1.1).any fun z2 => (vCall z1.2.1).any fun z3 => (vName z3.1).any fun z4 => z3.2.2.1.isEmpty && (z1.2.2.2.1.isEmpty && ((S[i]? == some z2.1 && z4.1 == ("range" : Str) && G z4.1 && mts T G S M args z3.2.1 && !args.isEmpty && mss T G S M body z1.2.2.1)))) = true := h
  obtain ⟨z1, h0, h⟩ := any_inv h
  obtain ⟨z2, h1, h⟩ := any_inv h
  obtain ⟨z3, h2, h⟩ := any_inv h
  obtain ⟨z4, h3, h⟩ := any_inv h
  obtain ⟨h4, h⟩ := and_inv h
  obtain ⟨h5, h⟩ := and_inv h
  exact ⟨z2.1, z2.2, z4.1, z4.2, z3.2.1, z3.2.2.2, z1.2.2.1, z1.2.2.2.2, by rw [wFor_inv h0, vName_inv h1, vCall_inv h2, vName_inv h3, nil_inv h4, nil_inv h5], h⟩
theorem ms_forTup {is : List Nat} {it : ME} {body : List MS} {e : Stmt} (h : ms T G S M (.forTup is it body) e = true) : ∃ ts p1 p2 y b p3, e = .For (.Tuple ts p1 p2) y b [] p3 ∧ (targets S is ts && mt T G S M it y && mss T G S M body b) = true := by
  have h : ((wFor e).any fun z1 => (vTuple z1.1).any fun z2 => z1.2.2.2.1.isEmpty && ((targets S is z2.1 && mt T G S M it z1.2.1 && mss T G S M body z1.2.2.1))) = true := h
  obtain ⟨z1, h0, h⟩ := any_inv h
  obtain ⟨z2, h1, h⟩ := any_inv h
  obtain ⟨h2, h⟩ := and_inv h
  exact ⟨z2.1, z2.2.1, z2.2.2, z1.2.1, z1.2.2.1, z1.2.2.2.2, by rw [wFor_inv h0, vTuple_inv h1, nil_inv h2], h⟩
theorem ms_forStr {i : Nat} {it : ME} {body : List MS} {e : Stmt} (h : ms T G S M (.forStr i it body) e = true) : ∃ x p1 y b p2, e = .For (.Name x p1) y b [] p2 ∧ (S[i]? == some x && mt T G S M it y && mss T G S M body b) = true := by
  have h : ((wFor e).any fun z1 => (vName z1.1).any fun z2 => z1.2.2.2.1.isEmpty && ((S[i]? == some z2.1 && mt T G S M it z1.2.1 && mss T G S M body z1.2.2.1))) = true := h
  obtain ⟨z1, h0, h⟩ := any_inv h
  obtain ⟨z2, h1, h⟩ := any_inv h
  obtain ⟨h2, h⟩ := and_inv h
  exact ⟨z2.1, z2.2, z1.2.1, z1.2.2.1, z1.2.2.2.2, by rw [wFor_inv h0, vName_inv h1, nil_inv h2], h⟩
theorem ms_asgMap {i f j : Nat} {e : Stmt} (h : ms T G S M (.asgMap i f j) e = true) : ∃ x pt y p1 z p2 p3 gs sc pl p4, e = .Assign [(.Name x pt)] (.ListComp (.Call (.Name y p1) [(.Name z p2)] [] p3) gs sc pl) p4 ∧ (pt.line == pl.line && !(sc.names.any fun q => q.1 == x && (decide (q.2 = .local) || decide (q.2 = .cell))) && S[i]? == some x && T.fns.lookup y == some f && y != "__debug__" && z != "__debug__" && scOkG z y sc && (one gs).any fun g => gOk z g && tailOk S j g.iter) = true := by
  have h : ((wAssign e).any fun z1 => (one z1.1).any fun z2 => (vName z2).any fun z3 => (vListComp z1.2.1).any fun z4 => (vCall z4.1).any fun z5 => (vName z5.1).any fun z6 => (one z5.2.1).any fun z7 => (vName z7).any fun z8 => z5.2.2.1.isEmpty && ((z3.2.line == z4.2.2.2.line && !(z4.2.2.1.names.any fun q => q.1 == z3.1 && (decide (q.2 = .local) || decide (q.2 = .cell))) && S[i]? == some z3.1 && T.fns.lookup z6.1 == some f && z6.1 != ("__debug__" : Str) && z8.1 != ("__debug__" : Str) && scOkG z8.1 z6.1 z4.2.2.1 && (one z4.2.1).any fun g => gOk z8.1 g && tailOk S j g.iter))) = true := h
  obtain ⟨z1, h0, h⟩ := any_inv h
  obtain ⟨z2, h1, h⟩ := any_inv h
  obtain ⟨z3, h2, h⟩ := any_inv h
  obtain ⟨z4, h3, h⟩ := any_inv h
  obtain ⟨z5, h4, h⟩ := any_inv h
  obtain ⟨z6, h5, h⟩ := any_inv h
  obtain ⟨z7, h6, h⟩ := any_inv h
  obtain ⟨z8, h7, h⟩ := any_inv h
  obtain ⟨h8, h⟩ := and_inv h
  exact ⟨z3.1, z3.2, z6.1, z6.2, z8.1, z8.2, z5.2.2.2, z4.2.1, z4.2.2.1, z4.2.2.2, z1.2.2, by rw [wAssign_inv h0, one_inv h1, vName_inv h2, vListComp_inv h3, vCall_inv h4, vName_inv h5, one_inv h6, vName_inv h7, nil_inv h8], h⟩
theorem ms_while {fuel : Nat} {c : ME} {body : List MS} {e : Stmt} (h : ms T G S M (.while fuel c body) e = true) : ∃ t b p1, e = .While t b [] p1 ∧ (mt T G S M c t && mss T G S M body b) = true := by
  have h : ((wWhile e).any fun z1 => z1.2.2.1.isEmpty && ((mt T G S M c z1.1 && mss T G S M body z1.2.1))) = true := h
  obtain ⟨z1, h0, h⟩ := any_inv h
  obtain ⟨h1, h⟩ := and_inv h
  exact ⟨z1.1, z1.2.1, z1.2.2.2, by rw [wWhile_inv h0, nil_inv h1], h⟩
theorem ms_ret {e₁ : ME} {e : Stmt} (h : ms T G S M (.ret e₁) e = true) : ∃ x p1, e = .Return (some x) p1 ∧ (mt T G S M e₁ x) = true := by
  have h : ((wReturn e).any fun z1 => (z1.1).any fun z2 => (mt T G S M e₁ z2)) = true := h
  obtain ⟨z1, h0, h⟩ := any_inv h
  obtain ⟨z2, h1, h⟩ := any_inv h
  exact ⟨z2, z1.2, by rw [wReturn_inv h0, h1], h⟩
theorem ms_retNone  {e : Stmt} (h : ms T G S M (.retNone) e = true) : ∃ p1, e = .Return none p1 ∧ (true) = true := by
  have h : ((wReturn e).any fun z1 => z1.1.isNone && ((true))) = true := h
  obtain ⟨z1, h0, h⟩ := any_inv h
  obtain ⟨h1, h⟩ := and_inv h
  exact ⟨z1.2, by rw [wReturn_inv h0, non_inv h1], h⟩
theorem ms_brk  {e : Stmt} (h : ms T G S M (.brk) e = true) : ∃ p1, e = .Break p1 ∧ (true) = true := by
  have h : ((wBreak e).any fun z1 => (true)) = true := h
  obtain ⟨z1, h0, h⟩ := any_inv h
  exact ⟨z1, by rw [wBreak_inv h0], h⟩
theorem ms_cont  {e : Stmt} (h : ms T G S M (.cont) e = true) : ∃ p1, e = .Continue p1 ∧ (true) = true := by
  have h : ((wContinue e).any fun z1 => (true)) = true := h
  obtain ⟨z1, h0, h⟩ := any_inv h
  exact ⟨z1, by rw [wContinue_inv h0], h⟩
theorem ms_pass  {e : Stmt} (h : ms T G S M (.pass) e = true) : ∃ p1, e = .Pass p1 ∧ (true) = true := by
  have h : ((wPass e).any fun z1 => (true)) = true := h
  obtain ⟨z1, h0, h⟩ := any_inv h
  exact ⟨z1, by rw [wPass_inv h0], h⟩
theorem ms_raise {x : Str} {k : Nat} {s : Str} {e : Stmt} (h : ms T G S M (.raise x k s) e = true) : ∃ y p1 p2 p3 p4 p5, e = .Raise (some (.Call (.Name y p1) [(.Constant (.str s) p2 p3)] [] p4)) none p5 ∧ (x == y && G y && x != "__debug__" && nmX T k x) = true := by
  have h : ((wRaise e).any fun z1 => (z1.1).any fun z2 => (vCall z2).any fun z3 => (vName z3.1).any fun z4 => (one z3.2.1).any fun z5 => (vConstant z5).any fun z6 => decide (z6.1 = (.str s)) && (z3.2.2.1.isEmpty && (z1.2.1.isNone && ((x == z4.1 && G z4.1 && x != ("__debug__" : Str) && nmX T k x))))) = true := h
  obtain ⟨z1, h0, h⟩ := any_inv h
  obtain ⟨z2, h1, h⟩ := any_inv h
  obtain ⟨z3, h2, h⟩ := any_inv h
  obtain ⟨z4, h3, h⟩ := any_inv h
  obtain ⟨z5, h4, h⟩ := any_inv h
  obtain ⟨z6, h5, h⟩ := any_inv h
  obtain ⟨h6, h⟩ := and_inv h
  obtain ⟨h7, h⟩ := and_inv h
  obtain ⟨h8, h⟩ := and_inv h
  exact ⟨z4.1, z4.2, z6.2.1, z6.2.2, z3.2.2.2, z1.2.2, by rw [wRaise_inv h0, h1, vCall_inv h2, vName_inv h3, one_inv h4, vConstant_inv h5, of_decide_eq_true h6, nil_inv h7, non_inv h8], h⟩
theorem ms_try {body hs : List MS} {e : Stmt} (h : ms T G S M (.try body hs) e = true) : ∃ b l p1, e = .Try b l [] [] p1 ∧ (mss T G S M body b && msh T G S M hs l && !hs.isEmpty) = true := by
  have h : ((wTry e).any fun z1 => z1.2.2.1.isEmpty && (z1.2.2.2.1.isEmpty && ((mss T G S M body z1.1 && msh T G S M hs z1.2.1 && !hs.isEmpty)))) = true := h
  obtain ⟨z1, h0, h⟩ := any_inv h
  obtain ⟨h1, h⟩ := and_inv h
  obtain ⟨h2, h⟩ := and_inv h
  exact ⟨z1.1, z1.2.1, z1.2.2.2.2, by rw [wTry_inv h0, nil_inv h1, nil_inv h2], h⟩
noncomputable def okI (n : Nat) : Bool := n.beq 0 || n.beq 2 || n.beq 3 || n.beq 15 || n.beq 16 || n.beq 19 || n.beq 20 || n.beq 21 || n.beq 23 || n.beq 24 || n.beq 25
theorem mt_ok {me : ME} {e : Expr} (h : mt T G S M me e = true) : okI e.ctorIdx = true := by
  cases me with
  | var _ => obtain ⟨_, _, rfl, _⟩ := mt_var h; rfl
  | cint _ => obtain ⟨_, _, rfl, _⟩ := mt_cint h; rfl
  | cstr _ => obtain ⟨_, _, rfl, _⟩ := mt_cstr h; rfl
  | cnone => obtain ⟨_, _, rfl, _⟩ := mt_cnone h; rfl
  | cbool _ => obtain ⟨_, _, rfl, _⟩ := mt_cbool h; rfl
  | gint _ _ => obtain ⟨_, _, rfl, _⟩ := mt_gint h; rfl
  | gstr _ _ => obtain ⟨_, _, rfl, _⟩ := mt_gstr h; rfl
  | bin _ _ _ => obtain ⟨_, _, _, _, rfl, _⟩ := mt_bin h; rfl
  | neg _ => obtain ⟨_, _, rfl, _⟩ := mt_neg h; rfl
  | not _ => obtain ⟨_, _, rfl, _⟩ := mt_not h; rfl
  | and _ => obtain ⟨_, _, rfl, _⟩ := mt_and h; rfl
  | or _ => obtain ⟨_, _, rfl, _⟩ := mt_or h; rfl
  | cmp _ _ _ => obtain ⟨_, _, _, _, rfl, _⟩ := mt_cmp h; rfl
  | cmp2 _ _ _ _ _ => obtain ⟨_, _, _, _, _, _, rfl, _⟩ := mt_cmp2 h; rfl
  | call _ _ => obtain ⟨_, _, _, _, rfl, _⟩ := mt_call h; rfl
  | bi _ _ => obtain ⟨_, _, _, _, rfl, _⟩ := mt_bi h; rfl
  | copy _ _ => obtain ⟨_, _, _, _, rfl, _⟩ := mt_copy h; rfl
  | isi _ _ => obtain ⟨_, _, _, _, _, _, rfl, _⟩ := mt_isi h; rfl
  | make _ _ => obtain ⟨_, _, _, _, rfl, _⟩ := mt_make h; rfl
  | meth _ _ _ => obtain ⟨_, _, _, _, _, rfl, _⟩ := mt_meth h; rfl
  | attr _ _ => obtain ⟨_, _, _, rfl, _⟩ := mt_attr h; rfl
  | idx _ _ => obtain ⟨_, _, _, rfl, _⟩ := mt_idx h; rfl
  | sliceTo _ _ _ => obtain ⟨_, _, _, _, rfl, _⟩ := mt_sliceTo h; rfl
  | sliceFrom _ _ _ => obtain ⟨_, _, _, _, rfl, _⟩ := mt_sliceFrom h; rfl
  | tup _ => obtain ⟨_, _, _, rfl, _⟩ := mt_tup h; rfl
  | lst _ _ => obtain ⟨_, _, rfl, _⟩ := mt_lst h; rfl
  | sumAt _ _ => obtain ⟨_, _, _, _, _, _, _, _, _, _, _, _, rfl, _⟩ := mt_sumAt h; rfl
  | rev _ => obtain ⟨_, _, _, _, _, _, rfl, _⟩ := mt_rev h; rfl
  | strMul _ _ => obtain ⟨_, _, _, _, rfl, _⟩ := mt_strMul h; rfl
  | cat _ _ => obtain ⟨_, _, _, rfl, _⟩ := mt_cat h; rfl
  | slen _ => obtain ⟨_, _, _, _, rfl, _⟩ := mt_slen h; rfl
  | sidx _ _ => obtain ⟨_, _, _, rfl, _⟩ := mt_sidx h; rfl
  | sTo _ _ => obtain ⟨_, _, _, _, rfl, _⟩ := mt_sTo h; rfl
  | sFrom _ _ => obtain ⟨_, _, _, _, rfl, _⟩ := mt_sFrom h; rfl
  | split _ _ => obtain ⟨_, _, _, _, _, _, rfl, _⟩ := mt_split h; rfl
  | join _ => obtain ⟨_, _, _, _, _, _, rfl, _⟩ := mt_join h; rfl
  | upper _ => obtain ⟨_, _, _, _, rfl, _⟩ := mt_upper h; rfl
  | giveRepl _ => obtain ⟨_, _, _, _, _, _, _, _, _, _, _, _, _, _, _, _, _, _, _, rfl, _⟩ := mt_giveRepl h; rfl
  | strOf _ => obtain ⟨_, _, _, _, rfl, _⟩ := mt_strOf h; rfl
  | intOf _ => obtain ⟨_, _, _, _, rfl, _⟩ := mt_intOf h; rfl
  | notIn _ _ => obtain ⟨_, _, _, rfl, _⟩ := mt_notIn h; rfl
  | inT _ _ => obtain ⟨_, _, _, _, _, rfl, _⟩ := mt_inT h; rfl
  | notInL _ _ => obtain ⟨_, _, _, _, rfl, _⟩ := mt_notInL h; rfl
  | minL _ => obtain ⟨_, _, _, _, rfl, _⟩ := mt_minL h; rfl
  | shownL _ => obtain ⟨_, _, _, _, _, _, _, _, _, _, _, _, _, _, _, rfl, _⟩ := mt_shownL h; rfl
end inv
end Mine
set_option maxRecDepth 100000
namespace Mine
open PySem PySem.W PyProof.Rows

noncomputable abbrev Led := List (Addr × Obj)
noncomputable abbrev tupObj (xs : List Value) (n : Nat) : Obj := { cls := .type "tuple", data := .seq xs.toArray n }
noncomputable abbrev lstObj (xs : List Value) (n : Nat) : Obj := { cls := .type "list", data := .seq xs.toArray n }

/-- the heap that the law found, and where its exception classes lie -/
structure Bas where
  h : Heap
  xs : List Addr

mutual
/-- the value of the model's that a value of ours stands for: B the heap that the law found, imm the unchanging objects made since, ι where the owned ones lie -/
inductive Rep (B : Bas) (imm : Led) (ι : List Addr) : V → Value → Prop where
  | none : Rep B imm ι .none .none
  | bool (b : Bool) : Rep B imm ι (.bool b) (.bool b)
  | int (i : Int) (t : Tok) : Rep B imm ι (.int i) (.int i t)
  | str (s : Str) (t : Tok) : Rep B imm ι (.str s) (.str s t)
  | tup {a : Addr} {vs : List V} {xs : List Value} {n : Nat} : (a, tupObj xs n) ∈ imm → Reps B imm ι vs xs → Rep B imm ι (.tup vs) (.ref a)
  | lst {a : Addr} {vs : List V} {xs : List Value} {n : Nat} : (a, lstObj xs n) ∈ imm → Reps B imm ι vs xs → Rep B imm ι (.lst vs) (.ref a)
  | base {a : Addr} {vs : List V} {xs : List Value} : B.h.IsList a xs.toArray → Reps B imm ι vs xs → Rep B imm ι (.lst vs) (.ref a)
  | loc {i : Nat} {a : Addr} : ι[i]? = some a → Rep B imm ι (.loc i) (.ref a)
  | exc {k : Nat} {a C : Addr} {o : Obj} : (a, o) ∈ imm → B.xs[k]? = some C → o.cls = .ref C → Rep B imm ι (.exc k) (.ref a)
inductive Reps (B : Bas) (imm : Led) (ι : List Addr) : List V → List Value → Prop where
  | nil : Reps B imm ι [] []
  | cons {v : V} {x : Value} {vs : List V} {xs : List Value} : Rep B imm ι v x → Reps B imm ι vs xs → Reps B imm ι (v :: vs) (x :: xs)
end

noncomputable def Ext (imm imm' : Led) (ι ι' : List Addr) : Prop := (∀ p ∈ imm, p ∈ imm') ∧ ∀ (i : Nat) (a : Addr), ι[i]? = some a → ι'[i]? = some a
theorem Ext.refl {imm : Led} {ι : List Addr} : Ext imm imm ι ι := ⟨fun _ h => h, fun _ _ h => h⟩
theorem Ext.trans {i₁ i₂ i₃ : Led} {a₁ a₂ a₃ : List Addr} (x : Ext i₁ i₂ a₁ a₂) (y : Ext i₂ i₃ a₂ a₃) : Ext i₁ i₃ a₁ a₃ := ⟨fun p h => y.1 p (x.1 p h), fun i a h => y.2 i a (x.2 i a h)⟩
theorem Ext.imm {imm : Led} {ι : List Addr} (p : Addr × Obj) : Ext imm (p :: imm) ι ι := ⟨fun _ h => .tail _ h, fun _ _ h => h⟩
theorem Ext.own {imm : Led} {ι : List Addr} (l : List Addr) : Ext imm imm ι (ι ++ l) := ⟨fun _ h => h, fun i a h => by
  rw [List.getElem?_append_left (List.getElem?_eq_some_iff.mp h).1]; exact h⟩

section
variable {B : Bas} {imm imm' : Led} {ι ι' : List Addr}
theorem Reps.mono (x : Ext imm imm' ι ι') {vs : List V} {ys : List Value} (h : Reps B imm ι vs ys) : Reps B imm' ι' vs ys :=
  Reps.rec (motive_1 := fun v y _ => Rep B imm' ι' v y) (motive_2 := fun vs ys _ => Reps B imm' ι' vs ys) .none .bool .int .str (fun hm _ r => .tup (x.1 _ hm) r) (fun hm _ r => .lst (x.1 _ hm) r) (fun hb _ r => .base hb r) (fun h => .loc (x.2 _ _ h)) (fun h q r => .exc (x.1 _ h) q r) .nil (fun _ _ h r => .cons h r) h
theorem Rep.mono (x : Ext imm imm' ι ι') {v : V} {y : Value} (h : Rep B imm ι v y) : Rep B imm' ι' v y := by
  cases (Reps.cons h .nil).mono x with
  | cons h _ => exact h
/-- by the items -/
theorem Reps.ind {p : List V → List Value → Prop} (h0 : p [] []) (h1 : ∀ v x vs xs, Rep B imm ι v x → Reps B imm ι vs xs → p vs xs → p (v :: vs) (x :: xs)) {vs : List V} {xs : List Value} (h : Reps B imm ι vs xs) : p vs xs :=
  Reps.rec (motive_1 := fun _ _ _ => True) (motive_2 := fun vs xs _ => p vs xs) trivial (fun _ => trivial) (fun _ _ => trivial) (fun _ _ => trivial) (fun _ _ _ => trivial) (fun _ _ _ => trivial) (fun _ _ _ => trivial) (fun _ => trivial) (fun _ _ _ => trivial) h0 (fun hv hr _ k => h1 _ _ _ _ hv hr k) h
theorem Reps.length {vs : List V} {ys : List Value} (h : Reps B imm ι vs ys) : ys.length = vs.length :=
  h.ind (p := fun vs ys => ys.length = vs.length) rfl fun _ _ _ _ _ _ k => congrArg (· + 1) k
theorem Reps.get {vs : List V} {ys : List Value} {i : Nat} {v : V} (h : Reps B imm ι vs ys) (hi : vs[i]? = some v) : ∃ y, ys[i]? = some y ∧ Rep B imm ι v y :=
  h.ind (p := fun vs ys => ∀ i : Nat, vs[i]? = some v → ∃ y, ys[i]? = some y ∧ Rep B imm ι v y) (fun _ h => nomatch h) (fun u x vs xs hv hr k i hi => by
    cases i with
    | zero => cases hi; exact ⟨x, rfl, hv⟩
    | succ i => exact k i hi) i hi
theorem Reps.append {vs ws : List V} {xs ys : List Value} (h : Reps B imm ι vs xs) (h' : Reps B imm ι ws ys) : Reps B imm ι (vs ++ ws) (xs ++ ys) :=
  h.ind (p := fun vs xs => Reps B imm ι (vs ++ ws) (xs ++ ys)) h' fun _ _ _ _ hv _ k => .cons hv k
end

/-- the names of fields, the addresses of classes -/
structure Nms where
  attrs : List Str
  classes : List (Addr × Nat)
  nd : attrs.Nodup

/-- the fields of an instance -/
inductive FRep (Z : Nms) (B : Bas) (imm : Led) (ι : List Addr) : List (Nat × V) → List DictEntry → Prop where
  | nil : FRep Z B imm ι [] []
  | cons {k : Nat} {x : Str} {v : V} {y : Value} {hs : Int} {t : Tok} {fs : List (Nat × V)} {es : List DictEntry} : Z.attrs[k]? = some x → Rep B imm ι v y → FRep Z B imm ι fs es → FRep Z B imm ι ((k, v) :: fs) (⟨hs, .str x t, y⟩ :: es)
theorem FRep.mono {Z : Nms} {B : Bas} {imm imm' : Led} {ι ι' : List Addr} (x : Ext imm imm' ι ι') {fs : List (Nat × V)} {es : List DictEntry} (h : FRep Z B imm ι fs es) : FRep Z B imm' ι' fs es := by
  induction h with
  | nil => exact .nil
  | cons q h _ r => exact .cons q (h.mono x) r

/-- what is owned lies in the ledger, object by object -/
inductive Own (Z : Nms) (B : Bas) (imm : Led) (ι₀ : List Addr) : List Addr → Led → Store → Prop where
  | nil : Own Z B imm ι₀ [] [] []
  | list {a : Addr} {xs : List Value} {n : Nat} {vs : List V} {ι : List Addr} {own : Led} {σ : Store} : Reps B imm ι₀ vs xs → Own Z B imm ι₀ ι own σ → Own Z B imm ι₀ (a :: ι) ((a, lstObj xs n) :: own) (.list vs :: σ)
  | inst {x dx C : Addr} {k f : Nat} {es : List DictEntry} {n : Nat} {fs : List (Nat × V)} {ι : List Addr} {own : Led} {σ : Store} : Z.classes[k]? = some (C, f) → FRep Z B imm ι₀ fs es → Own Z B imm ι₀ ι own σ →
      Own Z B imm ι₀ (x :: ι) ((x, instObj C dx) :: (dx, dictOf es n) :: own) (.inst k fs :: σ)
section
variable {Z : Nms} {B : Bas} {imm imm' : Led} {ι₀ ι₁ : List Addr}
theorem Own.mono (x : Ext imm imm' ι₀ ι₁) {ι : List Addr} {own : Led} {σ : Store} (h : Own Z B imm ι₀ ι own σ) : Own Z B imm' ι₁ ι own σ := by
  induction h with
  | nil => exact .nil
  | list h _ r => exact .list (h.mono x) r
  | inst q h _ r => exact .inst q (h.mono x) r
theorem Own.length {ι : List Addr} {own : Led} {σ : Store} (h : Own Z B imm ι₀ ι own σ) : ι.length = σ.length := by
  induction h with
  | nil => rfl
  | list _ _ r => exact congrArg (· + 1) r
  | inst _ _ _ r => exact congrArg (· + 1) r
theorem Own.append {ι ι' : List Addr} {own own' : Led} {σ σ' : Store} (h : Own Z B imm ι₀ ι own σ) (h' : Own Z B imm ι₀ ι' own' σ') : Own Z B imm ι₀ (ι ++ ι') (own ++ own') (σ ++ σ') := by
  induction h with
  | nil => exact h'
  | list q _ r => exact .list q r
  | inst z q _ r => exact .inst z q r
/-- an owned list, and what may lie there instead -/
inductive LAt (Z : Nms) (B : Bas) (imm : Led) (ι₀ ι : List Addr) (own : Led) (σ : Store) (i : Nat) (vs : List V) : Prop
  | mk (a : Addr) (xs : List Value) (n : Nat) (pre post : Led) (h1 : ι[i]? = some a) (h2 : own = pre ++ (a, lstObj xs n) :: post) (h3 : Reps B imm ι₀ vs xs)
    (h4 : ∀ {imm' : Led} {vs' : List V} {xs' : List Value} {n' : Nat}, Ext imm imm' ι₀ ι₀ → Reps B imm' ι₀ vs' xs' → Own Z B imm' ι₀ ι (pre ++ (a, lstObj xs' n') :: post) (σ.set i (.list vs')))
theorem Own.listAt {ι : List Addr} {own : Led} {σ : Store} {i : Nat} {vs : List V} (h : Own Z B imm ι₀ ι own σ) (hi : σ[i]? = some (.list vs)) : LAt Z B imm ι₀ ι own σ i vs := by
  induction h generalizing i with
  | nil => cases hi
  | @list a xs n us ι own σ q r ih =>
    cases i with
    | zero =>
      cases hi
      exact ⟨a, xs, n, [], own, rfl, rfl, q, fun x q' => .list q' (r.mono x)⟩
    | succ i =>
      obtain ⟨b, ys, k, pre, post, h1, h2, h3, h4⟩ := ih hi
      exact ⟨b, ys, k, (a, lstObj xs n) :: pre, post, h1, congrArg _ h2, h3, fun x q' => .list (q.mono x) (h4 x q')⟩
  | @inst x dx C k f es n fs ι own σ z q r ih =>
    cases i with
    | zero => cases hi
    | succ i =>
      obtain ⟨b, ys, k, pre, post, h1, h2, h3, h4⟩ := ih hi
      exact ⟨b, ys, k, (x, instObj C dx) :: (dx, dictOf es n) :: pre, post, h1, congrArg (fun l => _ :: _ :: l) h2, h3, fun x q' => .inst z (q.mono x) (h4 x q')⟩
/-- an owned instance, and what fields it may have instead -/
inductive IAt (Z : Nms) (B : Bas) (imm : Led) (ι₀ ι : List Addr) (own : Led) (σ : Store) (i k : Nat) (fs : List (Nat × V)) : Prop
  | mk (x dx C : Addr) (f : Nat) (es : List DictEntry) (n : Nat) (pre post : Led) (h1 : ι[i]? = some x) (h2 : own = pre ++ (x, instObj C dx) :: (dx, dictOf es n) :: post) (h3 : Z.classes[k]? = some (C, f)) (h4 : FRep Z B imm ι₀ fs es)
    (h5 : ∀ {imm' : Led} {fs' : List (Nat × V)} {es' : List DictEntry} {n' : Nat}, Ext imm imm' ι₀ ι₀ → FRep Z B imm' ι₀ fs' es' → Own Z B imm' ι₀ ι (pre ++ (x, instObj C dx) :: (dx, dictOf es' n') :: post) (σ.set i (.inst k fs')))
theorem Own.instAt {ι : List Addr} {own : Led} {σ : Store} {i k : Nat} {fs : List (Nat × V)} (h : Own Z B imm ι₀ ι own σ) (hi : σ[i]? = some (.inst k fs)) : IAt Z B imm ι₀ ι own σ i k fs := by
  induction h generalizing i with
  | nil => cases hi
  | @list a xs n us ι own σ q r ih =>
    cases i with
    | zero => cases hi
    | succ i =>
      obtain ⟨b, dx, C, f, ys, m, pre, post, h1, h2, h3, h4, h5⟩ := ih hi
      exact ⟨b, dx, C, f, ys, m, (a, lstObj xs n) :: pre, post, h1, congrArg _ h2, h3, h4, fun x q' => .list (q.mono x) (h5 x q')⟩
  | @inst x dx C k' f es n fs' ι own σ z q r ih =>
    cases i with
    | zero =>
      cases hi
      exact ⟨x, dx, C, f, es, n, [], own, rfl, rfl, z, q, fun x q' => .inst z q' (r.mono x)⟩
    | succ i =>
      obtain ⟨b, dx', C', f', ys, m, pre, post, h1, h2, h3, h4, h5⟩ := ih hi
      exact ⟨b, dx', C', f', ys, m, (x, instObj C dx) :: (dx, dictOf es n) :: pre, post, h1, congrArg (fun l => _ :: _ :: l) h2, h3, h4, fun x q' => .inst z (q.mono x) (h5 x q')⟩
end

/-- the state of a frame over its ground h₀; fz: what else must stand (the iterators of the loops around) -/
structure St0 (Z : Nms) (B : Bas) (h₀ : Heap) (L : Addr) (fz : Led) (h : Heap) (m : Str → Option Value) (imm own : Led) (ι : List Addr) (σ : Store) : Prop where
  fr : Fr h₀ L h m
  news : News h₀ L h (own ++ (imm ++ fz))
  nd : ((own ++ (imm ++ fz)).map (·.1)).Nodup
  owned : Own Z B imm ι ι own σ
  base : B.h.StaysIn h₀
/-- the same over some ground: a caught exception turns it -/
noncomputable def St (Z : Nms) (B : Bas) (Gd : Heap → Prop) (L : Addr) (fz : Led) (h : Heap) (m : Str → Option Value) (imm own : Led) (ι : List Addr) (σ : Store) : Prop := ∃ g, Gd g ∧ St0 Z B g L fz h m imm own ι σ
section
variable {Z : Nms} {B : Bas} {Gd : Heap → Prop} {L : Addr} {fz : Led} {h : Heap} {m : Str → Option Value} {imm own : Led} {ι : List Addr} {σ : Store}
noncomputable def St.g (X : St Z B Gd L fz h m imm own ι σ) : Heap := Classical.choose X
theorem St.gd (X : St Z B Gd L fz h m imm own ι σ) : Gd X.g := (Classical.choose_spec X).1
theorem St.s0 (X : St Z B Gd L fz h m imm own ι σ) : St0 Z B X.g L fz h m imm own ι σ := (Classical.choose_spec X).2
theorem St.fr (X : St Z B Gd L fz h m imm own ι σ) : Fr X.g L h m := X.s0.fr
theorem St.news (X : St Z B Gd L fz h m imm own ι σ) : News X.g L h (own ++ (imm ++ fz)) := X.s0.news
theorem St.nd (X : St Z B Gd L fz h m imm own ι σ) : ((own ++ (imm ++ fz)).map (·.1)).Nodup := X.s0.nd
theorem St.owned (X : St Z B Gd L fz h m imm own ι σ) : Own Z B imm ι ι own σ := X.s0.owned
theorem St.base (X : St Z B Gd L fz h m imm own ι σ) : B.h.StaysIn X.g := X.s0.base
end

theorem News.sub {h₀ h : Heap} {L : Addr} {l l' : Led} (N : News h₀ L h l) (hs : ∀ p ∈ l', p ∈ l) : News h₀ L h l' := fun p hp => N p (hs p hp)
/-- the local names -/
noncomputable def LocRel (B : Bas) (imm : Led) (ι : List Addr) (S : List Str) (ρ : Loc) (m : Str → Option Value) : Prop :=
  ∀ (i : Nat) (x : Str) (v : V), S[i]? = some x → ρ[i]? = some (some v) → ∃ y, m x = some y ∧ Rep B imm ι v y
theorem LocRel.mono {B : Bas} {imm imm' : Led} {ι ι' : List Addr} {S : List Str} {ρ : Loc} {m : Str → Option Value} (h : LocRel B imm ι S ρ m) (x : Ext imm imm' ι ι') : LocRel B imm' ι' S ρ m := fun i y v a b =>
  let ⟨z, h1, h2⟩ := h i y v a b
  ⟨z, h1, h2.mono x⟩
theorem nodup_at {S : List Str} (hn : S.Nodup) {i j : Nat} {x : Str} (hi : S[i]? = some x) (hj : S[j]? = some x) : i = j := by
  obtain ⟨a, ha⟩ := List.getElem?_eq_some_iff.mp hi
  obtain ⟨b, hb⟩ := List.getElem?_eq_some_iff.mp hj
  exact (List.getElem_inj hn).mp (ha.trans hb.symm)
theorem LocRel.set {B : Bas} {imm : Led} {ι : List Addr} {S : List Str} {ρ : Loc} {m : Str → Option Value} {i : Nat} {x : Str} {v : V} {y : Value} (h : LocRel B imm ι S ρ m) (hn : S.Nodup) (hx : S[i]? = some x) (hv : Rep B imm ι v y) :
    LocRel B imm ι S (ρ.set i (some v)) (fun z => if z = x then some y else m z) := by
  intro j z w hz hw
  by_cases e : j = i
  · subst e
    rw [hz] at hx; cases hx
    rw [List.getElem?_set] at hw
    split at hw
    · split at hw
      · cases hw; exact ⟨y, by simp, hv⟩
      · cases hw
    · exact absurd rfl ‹_›
  · have hne : z ≠ x := fun q => e (nodup_at hn (q ▸ hz) hx)
    rw [List.getElem?_set_ne (Ne.symm e)] at hw
    obtain ⟨y', h1, h2⟩ := h j z w hz hw
    exact ⟨y', by simp [hne, h1], h2⟩

theorem nodup_new {a : Addr} {o : Obj} {l l' : Led} (hp : l'.Perm ((a, o) :: l)) (nd : (l.map (·.1)).Nodup) (ha : ∀ p ∈ l, p.1 < a) : (l'.map (·.1)).Nodup := by
  refine ((hp.map (·.1)).nodup_iff).mpr ?_
  rw [List.map_cons]
  refine List.nodup_cons.mpr ⟨fun hm => ?_, nd⟩
  obtain ⟨p, hp, e⟩ := List.mem_map.mp hm
  have := ha p hp
  rw [e] at this
  exact Nat.lt_irrefl _ this

section
variable {Z : Nms} {B : Bas} {h₀ : Heap → Prop} {L : Addr} {fz : Led} {h : Heap} {m : Str → Option Value} {imm own : Led} {ι : List Addr} {σ : Store}
theorem St.lt (X : St Z B h₀ L fz h m imm own ι σ) : ∀ p ∈ own ++ (imm ++ fz), p.1 < h.objs.size := fun p hp => Heap.lt_size (X.news p hp).1
theorem St.getImm (X : St Z B h₀ L fz h m imm own ι σ) {p : Addr × Obj} (hp : p ∈ imm) : h.get? p.1 = some p.2 := (X.news p (List.mem_append_right _ (List.mem_append_left _ hp))).1
/-- another heap that keeps all -/
theorem St.keep {h' : Heap} (X : St Z B h₀ L fz h m imm own ι σ) (F : Fr X.g L h' m) (N : News X.g L h' (own ++ (imm ++ fz))) : St Z B h₀ L fz h' m imm own ι σ := ⟨X.g, X.gd, F, N, X.nd, X.owned, X.base⟩
theorem St.keeps {h' : Heap} (X : St Z B h₀ L fz h m imm own ι σ) (k : ∀ b o, h.get? b = some o → h'.get? b = some o) : St Z B h₀ L fz h' m imm own ι σ :=
  ⟨X.g, X.gd, X.fr.keeps k, fun p hp => ⟨k _ _ (X.news p hp).1, (X.news p hp).2⟩, X.nd, X.owned, X.base⟩
/-- a new unchanging object -/
theorem St.newImm {h' : Heap} {a : Addr} {o : Obj} (X : St Z B h₀ L fz h m imm own ι σ) (F : Fr X.g L h' m) (N : News X.g L h' ((a, o) :: (own ++ (imm ++ fz)))) (ha : ∀ p ∈ own ++ (imm ++ fz), p.1 < a) : St Z B h₀ L fz h' m ((a, o) :: imm) own ι σ := by
  have hp : (own ++ (((a, o) :: imm) ++ fz)).Perm ((a, o) :: (own ++ (imm ++ fz))) := List.perm_middle
  exact ⟨X.g, X.gd, F, News.sub N fun p q => hp.mem_iff.mp q, nodup_new hp X.nd ha, X.owned.mono (Ext.imm _), X.base⟩
/-- a new owned list -/
theorem St.newList {h' : Heap} {a : Addr} {vs : List V} {xs : List Value} {n : Nat} (X : St Z B h₀ L fz h m imm own ι σ) (F : Fr X.g L h' m) (N : News X.g L h' ((a, lstObj xs n) :: (own ++ (imm ++ fz)))) (ha : ∀ p ∈ own ++ (imm ++ fz), p.1 < a) (hr : Reps B imm ι vs xs) :
    St Z B h₀ L fz h' m imm (own ++ [(a, lstObj xs n)]) (ι ++ [a]) (σ ++ [.list vs]) := by
  have hp : ((own ++ [(a, lstObj xs n)]) ++ (imm ++ fz)).Perm ((a, lstObj xs n) :: (own ++ (imm ++ fz))) := by
    rw [List.append_assoc]; exact List.perm_middle
  exact ⟨X.g, X.gd, F, News.sub N fun p q => hp.mem_iff.mp q, nodup_new hp X.nd ha, (X.owned.mono (Ext.own _)).append (.list (hr.mono (Ext.own _)) .nil), X.base⟩
theorem St.len (X : St Z B h₀ L fz h m imm own ι σ) : ι.length = σ.length := X.owned.length
theorem St.locNew {a : Addr} (X : St Z B h₀ L fz h m imm own ι σ) : Rep B imm (ι ++ [a]) (.loc σ.length) (.ref a) := .loc (by rw [← X.len]; simp)
end
end Mine
set_option maxRecDepth 100000
set_option linter.unusedVariables false
namespace Mine
open PySem PySem.W PyProof.Rows PySem.Calls

structure Cx where
  prog : Program
  w : World
  K : Frag
  p : Program
  loose : List Str
  mean : ExcName → Option Value
  mg : Str → Option Value
  mb : Str → Option Value
  B : Bas
  T : Tops
  M : Nat → Option Str
  Z : Nms

structure Fx where
  qual : Str
  scope : Scope
  S : List Str
  L : Addr
  f : Addr
  cd : Value
  h₀ : Heap
  base : Heap
  outer : List Env
  A : Around
  A₀ : Around
  fz : Led
  quiet : Bool := false

noncomputable abbrev Fx.env (x : Fx) : Env := envOf x.qual x.scope x.L x.f x.cd
noncomputable def Fx.G (x : Fx) (y : Str) : Bool := x.scope.names.lookup y == some .globalImplicit

/-- the grounds of a frame -/
noncomputable def Gnd (x : Fx) (g : Heap) : Prop := KtsTurn (x.outer.filterMap (·.frame)) x.h₀ g ∧ Below x.A₀ x.base x.outer g ∧ KtsDicts (x.outer.filterMap (·.frame)) g
/-- a frame that is walked: d calls deep at most from here -/
structure Frm (c : Cx) (x : Fx) (d : Nat) : Prop where
  kinB : c.K.In x.base
  topB : Top c.p c.loose c.mean c.mg c.mb x.base
  atB : c.B.h = x.base
  imp : importsNone c.p = true
  frames : x.A.frames = some (x.env :: x.outer)
  calm : x.quiet = false → x.A.handled = none
  kind : x.scope.kind = .function
  loc : ∀ y ∈ x.S, x.scope.names.lookup y = some .local
  nd : x.S.Nodup
  depth : x.A.depth + d + 120 < recursionLimit
  units : x.A.units + 8 * d + 200 < cLine
  tree : c.prog.given.tree = none
  gen : x.scope.isGenerator = false
  coro : x.scope.isCoroutine = false
theorem Frm.kin {c : Cx} {x : Fx} {d : Nat} (F : Frm c x d) {g : Heap} (G : Gnd x g) : c.K.In g := F.kinB.keeps G.2.1.stays
theorem Frm.top {c : Cx} {x : Fx} {d : Nat} (F : Frm c x d) {g : Heap} (G : Gnd x g) : Top c.p c.loose c.mean c.mg c.mb g := F.topB.keeps G.2.1.stays
theorem Frm.seer {c : Cx} {x : Fx} {d : Nat} (F : Frm c x d) {g : Heap} (G : Gnd x g) : g.NoSeer := (F.top G).seer F.imp

/-- an exception of class k has come from a call into this frame -/
noncomputable def Thrown (c : Cx) (x : Fx) (m : Str → Option Value) (imm : Led) (ι : List Addr) (k : Nat) (σ' : Store) (s s' : Shared) (e : Addr) : Prop :=
  (∃ h tk, s' = { s with heap := h, toks := tk }) ∧ ∃ (C : Addr) (g : Heap) (imm' own' : Led) (ι' : List Addr), c.B.xs[k]? = some C ∧ Gnd x g ∧ Ext imm imm' ι ι' ∧ ((own' ++ (imm' ++ x.fz)).map (·.1)).Nodup ∧ Own c.Z c.B imm' ι' ι' own' σ' ∧
    ∃ G t vs, Fr g x.L G m ∧ RaisedS x.base G (x.env :: x.outer) e (.ref C) t vs (own' ++ (imm' ++ x.fz)) s'.heap ∧ G.UpToSlots s'.heap
theorem Thrown.back {c : Cx} {x : Fx} {m : Str → Option Value} {imm imm₁ : Led} {ι ι₁ : List Addr} {k : Nat} {σ' : Store} {s s' : Shared} {e : Addr} {h₁ : Heap} {tk₁ : Nat} (T : Thrown c x m imm₁ ι₁ k σ' { s with heap := h₁, toks := tk₁ } s' e) (hx : Ext imm imm₁ ι ι₁) :
    Thrown c x m imm ι k σ' s s' e := by
  obtain ⟨⟨h, tk, rfl⟩, C, g, imm', own', ι', q, G, hx', r⟩ := T
  exact ⟨⟨h, tk, rfl⟩, C, g, imm', own', ι', q, G, hx.trans hx', r⟩

/-- what is to be shown of an outcome -/
noncomputable def Post {α β : Type} (c : Cx) (x : Fx) (m : Str → Option Value) (imm : Led) (ι : List Addr) (rel : Led → List Addr → α → β → Prop) (r : R α) (Q : β → Shared → Prop) (E : Value → Shared → Prop) (s : Shared) : Prop :=
  match r with
  | .ok v σ' => ∀ y h' tk imm' own' ι', Ext imm imm' ι ι' → St c.Z c.B (Gnd x) x.L x.fz h' m imm' own' ι' σ' → rel imm' ι' v y → Q y { s with heap := h', toks := tk }
  | .exn k σ' => ∀ e s', Thrown c x m imm ι k σ' s s' e → E (.ref e) s'
  | .stuck => False

noncomputable abbrev relV (c : Cx) : Led → List Addr → V → Value → Prop := fun imm ι v y => Rep c.B imm ι v y
noncomputable abbrev relVs (c : Cx) : Led → List Addr → List V → List Value → Prop := fun imm ι v y => Reps c.B imm ι v y
/-- the class of an exception is read the plain way -/
noncomputable def xget (K : Frag) (C : Addr) : Bool := decide (findIn K (.ref C) "__getattribute__" = some (some (.builtin "BaseException.__getattribute__"))) && (decide (findIn K (.ref C) "__getattr__" = some none) && decide (mroIn K C (.type "BaseException") = some true))
/-- what a class of exceptions is in the written part -/
structure ExcAt (c : Cx) (k : Nat) (y : Str) (C : Addr) : Prop where
  ns : nsIn c.K mainGlobals y = some (some (.ref C))
  exc : excIn c.K C [.type "ValueError", .type "Exception", .type "BaseException", .type "object"] "ValueError.__new__" = true
  sub : ∀ j z D, c.T.xs[j]? = some (z, D) → exmOne c.K (.ref C) (.ref D) = some (subX k j) ∧ kitOne c.K (.ref C) (.ref D) = some (subX k j)
  verr : kitOne c.K (.ref C) (.type "ValueError") = some true
  cls : (clsIn c.K C).isSome = true
  plain : xget c.K C = true
  fc : findIn c.K (.ref C) "__class__" = some (some (.builtin "object.__class__"))
  sp : specialIn c.K (.builtin "object.__class__") "__get__" = some (some (.builtin "getset_descriptor.__get__"))
  tk : takesIn c.K (.builtin "object.__class__") = some true
  mro : mroIn c.K C (.type "object") = some true
/-- the names of the top's that the text calls -/
structure TopOk (c : Cx) (P : Prog) : Prop where
  fns : ∀ x f, c.T.fns.lookup x = some f → ∃ d, P.fns.lookup f = some d ∧ nsIn c.K mainGlobals x = some (some (.ref d.addr)) ∧ keepIn c.K (.ref d.addr) = true
  attrs : c.Z.attrs = c.T.attrs
  xs : c.B.xs = c.T.xs.map (·.2)
  exc : ∀ k y C, c.T.xs[k]? = some (y, C) → ExcAt c k y C
  classes : ∀ x k, c.T.classes.lookup x = some k → ∃ C f, c.Z.classes[k]? = some (C, f) ∧ nsIn c.K mainGlobals x = some (some (.ref C)) ∧ keepIn c.K (.ref C) = true
  tInts : ∀ x k, c.T.tint.lookup x = some k → ∃ t, nsIn c.K mainGlobals x = some (some (.int k t))
  tStrs : ∀ x k, c.T.tstr.lookup x = some k → ∃ t, nsIn c.K mainGlobals x = some (some (.str k t))
  boot : ∀ x : Str, x ∈ (["len", "max", "min", "sorted", "sum", "int", "str", "list", "range", "isinstance", "bool", "tuple", "ValueError"] : List Str) → nsIn c.K mainGlobals x = some none

section
variable {c : Cx} {x : Fx} {d : Nat} {Φ : Fns} {P : Prog}

noncomputable def SoundE (c : Cx) (x : Fx) (Φ : Fns) (me : ME) : Prop := ∀ (e : Expr), mt c.T x.G x.S c.M me e = true → ∀ (s : Shared) (imm own : Led) (ι : List Addr) (σ : Store) (ρ : Loc) (m : Str → Option Value) (Q : Value → Shared → Prop) (E : Value → Shared → Prop),
  St c.Z c.B (Gnd x) x.L x.fz s.heap m imm own ι σ → LocRel c.B imm ι x.S ρ m → Post c x m imm ι (relV c) (evalE Φ ρ me σ) Q E s → wpAny (model c.prog c.w) x.A (eval e x.env) Q E s

theorem Post.bind {α β γ : Type} {m : Str → Option Value} {imm : Led} {ι : List Addr} {rel : Led → List Addr → α → β → Prop} {r : R α} {f : α → Store → R γ} {Q' : β → Shared → Prop} {E : Value → Shared → Prop} {s : Shared} {δ : Type} {rel' : Led → List Addr → γ → δ → Prop} {Q : δ → Shared → Prop}
    (h : Post c x m imm ι rel' (r.bind f) Q E s)
    (k : ∀ v σ₁ y h' tk imm' own' ι', Ext imm imm' ι ι' → St c.Z c.B (Gnd x) x.L x.fz h' m imm' own' ι' σ₁ → rel imm' ι' v y → Post c x m imm' ι' rel' (f v σ₁) Q E { s with heap := h', toks := tk } → Q' y { s with heap := h', toks := tk }) :
    Post c x m imm ι rel r Q' E s := by
  cases r with
  | ok v σ₁ =>
    intro y h' tk imm' own' ι' hx hs hr
    refine k v σ₁ y h' tk imm' own' ι' hx hs hr ?_
    have h2 : Post c x m imm ι rel' (f v σ₁) Q E s := h
    revert h2
    cases f v σ₁ with
    | ok v' σ₂ => exact fun h2 y' h'' tk' imm'' own'' ι'' hx' hs' hr' => h2 y' h'' tk' imm'' own'' ι'' (hx.trans hx') hs' hr'
    | exn _ _ => exact fun h2 e s' T => h2 e s' (T.back hx)
    | stuck => exact fun h2 => h2
  | exn _ _ => exact h
  | stuck => exact h

theorem Post.opt {α β : Type} {m : Str → Option Value} {imm : Led} {ι : List Addr} {rel : Led → List Addr → α → β → Prop} {o : Option α} {σ : Store} {Q : β → Shared → Prop} {E : Value → Shared → Prop} {s : Shared} (h : Post c x m imm ι rel (ofOpt o σ) Q E s) :
    ∃ v, o = some v ∧ Post c x m imm ι rel (.ok v σ) Q E s := by
  cases o with
  | none => exact h.elim
  | some v => exact ⟨v, rfl, h⟩

theorem Post.ok {α β : Type} {m : Str → Option Value} {imm own : Led} {ι : List Addr} {rel : Led → List Addr → α → β → Prop} {v : α} {σ : Store} {Q : β → Shared → Prop} {E : Value → Shared → Prop} {s : Shared} (h : Post c x m imm ι rel (.ok v σ) Q E s) {y : β} {tk : Nat}
    (X : St c.Z c.B (Gnd x) x.L x.fz s.heap m imm own ι σ) (hr : rel imm ι v y) : Q y { s with toks := tk } := h y s.heap tk imm own ι Ext.refl X hr

/-- two subexpressions, then an operation -/
theorem sound_two {a b : ME} {l r : Expr} {g : V → V → Store → R V} {t : Value → Value → Sem Value} {s : Shared} {imm own : Led} {ι : List Addr} {σ : Store} {ρ : Loc} {m : Str → Option Value} {Q : Value → Shared → Prop} {E : Value → Shared → Prop}
    (ha : SoundE c x Φ a) (hb : SoundE c x Φ b) (ma : mt c.T x.G x.S c.M a l = true) (mb : mt c.T x.G x.S c.M b r = true) (X : St c.Z c.B (Gnd x) x.L x.fz s.heap m imm own ι σ) (hl : LocRel c.B imm ι x.S ρ m)
    (h : Post c x m imm ι (relV c) ((evalE Φ ρ a σ).bind fun v σ => (evalE Φ ρ b σ).bind fun w σ => g v w σ) Q E s)
    (op : ∀ v w y z (s : Shared) imm own ι σ, St c.Z c.B (Gnd x) x.L x.fz s.heap m imm own ι σ → Rep c.B imm ι v y → Rep c.B imm ι w z → Post c x m imm ι (relV c) (g v w σ) Q E s → wpAny (model c.prog c.w) x.A (t y z) Q E s) :
    wpAny (model c.prog c.w) x.A (eval l x.env) (fun y s₁ => wpAny (model c.prog c.w) x.A (eval r x.env) (fun z s₂ => wpAny (model c.prog c.w) x.A (t y z) Q E s₂) E s₁) E s := by
  refine ha l ma s imm own ι σ ρ m _ E X hl (Post.bind h fun v σ₁ y h' tk imm' own' ι' hx X' hr h₁ => ?_)
  refine hb r mb _ imm' own' ι' σ₁ ρ m _ E X' (hl.mono hx) (Post.bind h₁ fun w σ₂ z h'' tk' imm'' own'' ι'' hx' X'' hr' h₂ => ?_)
  exact op v w y z _ imm'' own'' ι'' σ₂ X'' (hr.mono hx') hr' h₂

theorem sound_var {i : Nat} (F : Frm c x d) : SoundE c x Φ (.var i) := by
  intro e hm s imm own ι σ ρ m Q E X hl h
  obtain ⟨y, p, rfl, hy⟩ := mt_var hm
  simp only [Bool.and_eq_true, beq_iff_eq, bne_iff_ne, ne_eq] at hy
  obtain ⟨hy, hd⟩ := hy
  simp only [ee_var, ee_cint, ee_cstr, ee_cnone, ee_cbool, ee_gint, ee_gstr, ee_bin, ee_neg, ee_not, ee_and, ee_or, ee_cmp, ee_cmp2, ee_call, ee_bi, ee_copy, ee_isi, ee_make, ee_meth, ee_attr, ee_idx, ee_sliceTo, ee_sliceFrom, ee_tup, ee_lst, ee_sumAt, ee_rev, ee_strMul, ee_cat, ee_slen, ee_sidx, ee_sTo, ee_sFrom, ee_split, ee_join, ee_upper, ee_giveRepl, ee_strOf, ee_intOf, ee_notIn, ee_inT, ee_notInL, ee_minL, ee_shownL] at h
  cases hv : ρ[i]? with
  | none => rw [hv] at h; exact h.elim
  | some o =>
    cases o with
    | none => rw [hv] at h; exact h.elim
    | some v =>
      rw [hv] at h
      obtain ⟨z, hz, hr⟩ := hl i y v hy hv
      refine ld X.fr hz ?_ F.kind ?_ (by simpa using hd)
      · exact Post.ok h (tk := s.toks) X hr
      · exact F.loc y (List.mem_of_getElem? hy)

theorem inv_int {B : Bas} {imm : Led} {ι : List Addr} {i : Int} {y : Value} (h : Rep B imm ι (.int i) y) : ∃ t, y = .int i t := by cases h; exact ⟨_, rfl⟩
theorem inv_bool {B : Bas} {imm : Led} {ι : List Addr} {i : Bool} {y : Value} (h : Rep B imm ι (.bool i) y) : y = .bool i := by cases h; rfl
theorem inv_none {B : Bas} {imm : Led} {ι : List Addr} {y : Value} (h : Rep B imm ι .none y) : y = .none := by cases h; rfl
theorem inv_str {B : Bas} {imm : Led} {ι : List Addr} {i : Str} {y : Value} (h : Rep B imm ι (.str i) y) : ∃ t, y = .str i t := by cases h; exact ⟨_, rfl⟩

theorem sound_cint {k : Int} : SoundE c x Φ (.cint k) := by
  intro e hm s imm own ι σ ρ m Q E X hl h
  obtain ⟨p1, p2, rfl, _⟩ := mt_cint hm
  exact wpAny_Constant_int (Post.ok h X (.int _ _))
theorem sound_cstr {k : Str} : SoundE c x Φ (.cstr k) := by
  intro e hm s imm own ι σ ρ m Q E X hl h
  obtain ⟨p1, p2, rfl, _⟩ := mt_cstr hm
  exact Calls.Constant_str (Post.ok h X (.str _ _))
theorem sound_cnone : SoundE c x Φ .cnone := by
  intro e hm s imm own ι σ ρ m Q E X hl h
  obtain ⟨p1, p2, rfl, _⟩ := mt_cnone hm
  exact Constant_none (Post.ok h (tk := s.toks) X .none)
theorem sound_cbool {b : Bool} : SoundE c x Φ (.cbool b) := by
  intro e hm s imm own ι σ ρ m Q E X hl h
  obtain ⟨p1, p2, rfl, _⟩ := mt_cbool hm
  exact Constant_bool (Post.ok h (tk := s.toks) X (.bool _))
theorem Fx.glob {y : Str} (h : x.G y = true) : x.env.kindOf y = some .globalImplicit := by
  have := beq_iff_eq.mp h
  exact this
theorem sound_gint {y : Str} {k : Int} (F : Frm c x d) (TK : TopOk c P) : SoundE c x Φ (.gint y k) := by
  intro e hm s imm own ι σ ρ m Q E X hl h
  obtain ⟨z, p1, rfl, hk⟩ := mt_gint hm
  simp only [Bool.and_eq_true, beq_iff_eq, bne_iff_ne, ne_eq] at hk
  obtain ⟨⟨⟨rfl, hg⟩, hd⟩, hi⟩ := hk
  obtain ⟨t, ht⟩ := TK.tInts y k hi
  exact name_K X.fr (F.kin X.gd) (topRead_of (F.top X.gd)) ht (Post.ok h (tk := s.toks) X (.int _ _)) F.kind (Fx.glob hg) (by simpa using hd)
theorem sound_gstr {y : Str} {k : Str} (F : Frm c x d) (TK : TopOk c P) : SoundE c x Φ (.gstr y k) := by
  intro e hm s imm own ι σ ρ m Q E X hl h
  obtain ⟨z, p1, rfl, hk⟩ := mt_gstr hm
  simp only [Bool.and_eq_true, beq_iff_eq, bne_iff_ne, ne_eq] at hk
  obtain ⟨⟨⟨rfl, hg⟩, hd⟩, hi⟩ := hk
  obtain ⟨t, ht⟩ := TK.tStrs y k hi
  exact name_K X.fr (F.kin X.gd) (topRead_of (F.top X.gd)) ht (Post.ok h (tk := s.toks) X (.str _ _)) F.kind (Fx.glob hg) (by simpa using hd)

/-- a list at hand -/
theorem St.isList {Z : Nms} {B : Bas} {h₀ : Heap → Prop} {L : Addr} {fz : Led} {h : Heap} {m : Str → Option Value} {imm own : Led} {ι : List Addr} {σ : Store} (X : St Z B h₀ L fz h m imm own ι σ) {v : V} {y : Value} {vs : List V} (hr : Rep B imm ι v y) (hv : listOf σ v = some vs) :
    ∃ a xs, y = .ref a ∧ h.IsList a xs.toArray ∧ Reps B imm ι vs xs := by
  cases hr with
  | lst hm r =>
    simp only [listOf, Option.some.injEq] at hv; subst hv
    exact ⟨_, _, rfl, ⟨_, X.getImm hm, rfl, _, rfl⟩, r⟩
  | base hb r =>
    simp only [listOf, Option.some.injEq] at hv; subst hv
    obtain ⟨o, ho, q⟩ := hb
    exact ⟨_, _, rfl, ⟨o, X.fr.keep _ _ (X.base _ _ ho), q⟩, r⟩
  | loc hi =>
    simp only [listOf] at hv
    split at hv
    · rename_i vs' hs
      cases hv
      obtain ⟨a, xs, n, pre, post, h1, h2, h3, _⟩ := X.owned.listAt hs
      have hia := Option.some.inj (h1.symm.trans hi)
      subst hia
      exact ⟨_, xs, rfl, ⟨_, (X.news (_, lstObj xs n) (List.mem_append_left _ (by rw [h2]; simp))).1, rfl, _, rfl⟩, h3⟩
    · cases hv
  | none => simp [listOf] at hv
  | bool b => simp [listOf] at hv
  | int i t => simp [listOf] at hv
  | str s t => simp [listOf] at hv
  | tup _ _ => simp [listOf] at hv
  | exc _ _ _ => simp [listOf] at hv
theorem St.isTup {Z : Nms} {B : Bas} {h₀ : Heap → Prop} {L : Addr} {fz : Led} {h : Heap} {m : Str → Option Value} {imm own : Led} {ι : List Addr} {σ : Store} (X : St Z B h₀ L fz h m imm own ι σ) {y : Value} {vs : List V} (hr : Rep B imm ι (.tup vs) y) :
    ∃ a xs, y = .ref a ∧ IsTup h a xs.toArray ∧ Reps B imm ι vs xs := by
  cases hr with
  | tup hm r => exact ⟨_, _, rfl, ⟨_, X.getImm hm, rfl, _, rfl⟩, r⟩

theorem sound_binop (F : Frm c x d) {op : Operator} {v w : V} {y z : Value} {s : Shared} {imm own : Led} {ι : List Addr} {σ : Store} {m : Str → Option Value} {Q : Value → Shared → Prop} {E : Value → Shared → Prop}
    (X : St c.Z c.B (Gnd x) x.L x.fz s.heap m imm own ι σ) (hv : Rep c.B imm ι v y) (hw : Rep c.B imm ι w z) (h : Post c x m imm ι (relV c) (ofOpt (binV σ op v w) σ) Q E s) : wpAny (model c.prog c.w) x.A (binaryOp op y z) Q E s := by
  obtain ⟨r, hr, h⟩ := Post.opt h
  cases op with
  | Add =>
    rcases Option.or_eq_some_iff.mp hr with hr | ⟨_, hr⟩
    · obtain ⟨a, b, rfl, rfl, hr2⟩ := on2_inv hr
      clear hr
      have hr := hr2
      cases hr; obtain ⟨t, rfl⟩ := inv_int hv; obtain ⟨u, rfl⟩ := inv_int hw
      exact P.add_int (Post.ok h X (.int _ _))
    · obtain ⟨xs, e1, hr⟩ := Option.bind_eq_some_iff.mp hr
      obtain ⟨ys, e2, hr⟩ := Option.bind_eq_some_iff.mp hr
      split at hr
      · rename_i hz
        cases hr
        obtain ⟨a, as, rfl, ha, ra⟩ := X.isList hv e1
        obtain ⟨b, bs, rfl, hb, rb⟩ := X.isList hw e2
        refine add_lists X.fr X.news ha hb (fun h' F' N' => ?_) (by rw [ra.length, rb.length, sizeLine_eq]; omega)
        refine h _ h' s.toks _ own ι (Ext.imm _) (X.newImm F' N' fun p hp => X.lt p hp) ?_
        exact .lst (.head _) ((ra.append rb).mono (Ext.imm _))
      · cases hr
  | Sub =>
    obtain ⟨a, b, rfl, rfl, hr2⟩ := on2_inv hr
    clear hr
    have hr := hr2
    cases hr; obtain ⟨t, rfl⟩ := inv_int hv; obtain ⟨u, rfl⟩ := inv_int hw
    exact P.sub_int (Post.ok h X (.int _ _))
  | Mult =>
    obtain ⟨a, b, rfl, rfl, hr2⟩ := on2_inv (f := mulF) hr
    clear hr
    have hr := hr2
    unfold mulF at hr
    obtain ⟨t, rfl⟩ := inv_int hv; obtain ⟨u, rfl⟩ := inv_int hw
    split at hr
    · rename_i hc
      cases hr
      refine P.mul_int (Post.ok h X (.int _ _)) ?_
      rcases hc with (hc | hc) | hc
      · exact IntMulOk.of_left hc
      · exact IntMulOk.of_right hc
      · exact IntMulOk.of_bits hc.1 hc.2
    · cases hr
  | FloorDiv =>
    obtain ⟨a, b, rfl, rfl, hr2⟩ := on2_inv (f := divF) hr
    clear hr
    have hr := hr2
    unfold divF at hr
    obtain ⟨t, rfl⟩ := inv_int hv; obtain ⟨u, rfl⟩ := inv_int hw
    split at hr
    · cases hr
    · rename_i hc
      cases hr
      refine floordiv_int hc (Post.ok h X (.int _ _)) (.inr (PylongRoom.of ((F.top X.gd).nolimit.keeps X.fr.keep) ?_ (SeerAt.of ((F.seer X.gd).keeps X.fr.keep) F.tree F.frames F.gen F.coro rfl rfl)))
      have := F.depth
      simp only [Builtin.pylongFrames]
      omega
  | Mod =>
    obtain ⟨a, b, rfl, rfl, hr2⟩ := on2_inv (f := modF) hr
    clear hr
    have hr := hr2
    unfold modF at hr
    obtain ⟨t, rfl⟩ := inv_int hv; obtain ⟨u, rfl⟩ := inv_int hw
    split at hr
    · cases hr
    · rename_i hc
      cases hr
      exact mod_int' hc (Post.ok h X (.int _ _))
  | Pow =>
    obtain ⟨a, b, rfl, rfl, hr2⟩ := on2_inv (f := powF) hr
    clear hr
    have hr := hr2
    unfold powF at hr
    obtain ⟨t, rfl⟩ := inv_int hv; obtain ⟨u, rfl⟩ := inv_int hw
    split at hr
    · rename_i hc
      cases hr
      exact pow_int hc.1 hc.2 (Post.ok h X (.int _ _))
    · cases hr
  | _ => cases hr
theorem sound_bin (F : Frm c x d) {op : Operator} {a b : ME} (ha : SoundE c x Φ a) (hb : SoundE c x Φ b) : SoundE c x Φ (.bin op a b) := by
  intro e hm s imm own ι σ ρ m Q E X hl h
  obtain ⟨l, o, r, p, rfl, hk⟩ := mt_bin hm
  simp only [Bool.and_eq_true, beq_iff_eq] at hk
  obtain ⟨⟨rfl, h1⟩, h2⟩ := hk
  simp only [ee_var, ee_cint, ee_cstr, ee_cnone, ee_cbool, ee_gint, ee_gstr, ee_bin, ee_neg, ee_not, ee_and, ee_or, ee_cmp, ee_cmp2, ee_call, ee_bi, ee_copy, ee_isi, ee_make, ee_meth, ee_attr, ee_idx, ee_sliceTo, ee_sliceFrom, ee_tup, ee_lst, ee_sumAt, ee_rev, ee_strMul, ee_cat, ee_slen, ee_sidx, ee_sTo, ee_sFrom, ee_split, ee_join, ee_upper, ee_giveRepl, ee_strOf, ee_intOf, ee_notIn, ee_inT, ee_notInL, ee_minL, ee_shownL] at h
  exact wpAny_BinOp (sound_two ha hb h1 h2 X hl h fun v w y z s imm own ι σ X hv hw h => sound_binop F X hv hw h)
end
end Mine
set_option maxRecDepth 100000
set_option linter.unusedVariables false
namespace Mine
open PySem PySem.W PyProof.Rows PySem.Calls

mutual
noncomputable def pd : V → PyData
  | .none => .none
  | .bool b => .bool b
  | .int i => .int i
  | .str x => .str x
  | .tup vs => .tuple (pds vs)
  | .lst vs => .list (pds vs)
  | .loc _ => .none
  | .exc _ => .none
noncomputable def pds : List V → List PyData
  | [] => []
  | v :: vs => pd v :: pds vs
end
section
variable {c : Cx} {x : Fx} {d : Nat} {Φ : Fns} {P : Prog}
section
variable {Z : Nms} {B : Bas} {h₀ : Heap → Prop} {L : Addr} {fz : Led} {h : Heap} {m : Str → Option Value} {imm own : Led} {ι : List Addr} {σ : Store}
theorem pds_of {n : Nat} (ih : ∀ {v : V} {y : Value}, Rep B imm ι v y → plain n v = true → ∃ as, Reads h y (pd v) as) : ∀ {vs : List V} {ys : List Value}, Reps B imm ι vs ys → (∀ v ∈ vs, plain n v = true) → ∃ as, ReadsAll h ys (pds vs) as
  | _, _, .nil, _ => ⟨_, ReadsAll.nil⟩
  | _, _, .cons hd r, hk => by
    obtain ⟨as, q⟩ := ih hd (hk _ (.head _))
    obtain ⟨bs, p⟩ := pds_of ih r fun d hm => hk d (.tail _ hm)
    rw [pds]
    exact ⟨_, ReadsAll.cons q p⟩
theorem pd_reads (X : St Z B h₀ L fz h m imm own ι σ) : ∀ (n : Nat) {v : V} {y : Value}, Rep B imm ι v y → plain n v = true → ∃ as, Reads h y (pd v) as := by
  intro n
  induction n with
  | zero =>
    intro v y hr hk
    cases hr with
    | none => exact ⟨_, Reads.none⟩
    | int i t => exact ⟨_, Reads.int i t⟩
    | _ => exact Bool.noConfusion (show false = true from hk)
  | succ n ih =>
    intro v y hr hk
    cases hr with
    | none => exact ⟨_, Reads.none⟩
    | int i t => exact ⟨_, Reads.int i t⟩
    | tup hm r =>
      obtain ⟨as, q⟩ := pds_of ih r (by simpa [plain] using hk)
      rw [pd]
      exact ⟨as, reads_tuple_at (X.getImm hm) rfl rfl (by simpa using q)⟩
    | lst hm r =>
      obtain ⟨as, q⟩ := pds_of ih r (by simpa [plain] using hk)
      rw [pd]
      exact ⟨_, reads_list_at (X.getImm hm) rfl rfl (by simpa using q)⟩
    | base hb r =>
      obtain ⟨as, q⟩ := pds_of ih r (by simpa [plain] using hk)
      rw [pd]
      obtain ⟨o, ho, h1, k, h2⟩ := hb
      exact ⟨_, reads_list_at (X.fr.keep _ _ (X.base _ _ ho)) h1 h2 (by simpa using q)⟩
    | _ => exact Bool.noConfusion (show false = true from hk)
theorem pds_reads (X : St Z B h₀ L fz h m imm own ι σ) {vs : List V} {ys : List Value} (n : Nat) (r : Reps B imm ι vs ys) (hk : ∀ v ∈ vs, plain n v = true) : ∃ as, ReadsAll h ys (pds vs) as := pds_of (pd_reads X n) r hk
end
theorem pd_lay : ∀ (n : Nat) (v : V), plain n v = true → (pd v).canLay0 = true ∧ (pd v).depth ≤ n := by
  have all : ∀ (n : Nat), (∀ v, plain n v = true → (pd v).canLay0 = true ∧ (pd v).depth ≤ n) → ∀ vs : List V, (∀ v ∈ vs, plain n v = true) → PyData.canLayAll0 (pds vs) = true ∧ PyData.depthAll (pds vs) ≤ n := by
    intro n ih vs
    induction vs with
    | nil => intro _; simp [pds, PyData.canLayAll0, PyData.depthAll]
    | cons v vs hi =>
      intro h
      have h1 := ih v (h v (.head _))
      have h2 := hi fun e he => h e (.tail _ he)
      simp only [pds, PyData.canLayAll0, PyData.depthAll, h1.1, h2.1, Bool.and_self, true_and]
      have a1 := h1.2
      have a2 := h2.2
      omega
  intro n
  induction n with
  | zero =>
    intro v h
    cases v <;> simp_all [plain, pd, PyData.canLay0, PyData.depth]
  | succ n ih =>
    intro v h
    cases v with
    | none => simp [pd, PyData.canLay0, PyData.depth]
    | bool b => simp [plain] at h
    | int i => simp [pd, PyData.canLay0, PyData.depth]
    | str s => simp [plain] at h
    | loc i => simp [plain] at h
    | exc i => simp [plain] at h
    | tup vs =>
      have q := all n ih vs (by simpa [plain] using h)
      have q2 := q.2
      simp only [pd, PyData.canLay0, PyData.depth, q.1, true_and]
      omega
    | lst vs =>
      have q := all n ih vs (by simpa [plain] using h)
      have q2 := q.2
      simp only [pd, PyData.canLay0, PyData.depth, q.1, true_and]
      omega
theorem pd_eqv : ∀ (n : Nat) (v u : V) (k : Nat), plain n v = true → plain k u = true → (PyData.eqv (pd v) (pd u) = true ↔ v = u) := by
  have all : ∀ (n : Nat), (∀ v u k, plain n v = true → plain k u = true → (PyData.eqv (pd v) (pd u) = true ↔ v = u)) → ∀ (k : Nat) (vs us : List V), (∀ v ∈ vs, plain n v = true) → (∀ v ∈ us, plain k v = true) →
      (PyData.eqvAll (pds vs) (pds us) = true ↔ vs = us) := by
    intro n ih k vs
    induction vs with
    | nil => intro us _ _; cases us <;> simp [pds, PyData.eqvAll]
    | cons v vs hi =>
      intro us h1 h2
      cases us with
      | nil => simp [pds, PyData.eqvAll]
      | cons u us =>
        have q1 := ih v u k (h1 v (.head _)) (h2 u (.head _))
        have q2 := hi us (fun x hx => h1 x (.tail _ hx)) fun x hx => h2 x (.tail _ hx)
        simp only [pds, PyData.eqvAll, Bool.and_eq_true, q1, q2, List.cons.injEq]
  intro n
  induction n with
  | zero =>
    intro v u k h1 h2
    cases v <;> cases u <;> cases k <;> simp_all [plain, pd, PyData.eqv]
  | succ n ih =>
    intro v u k h1 h2
    cases v with
    | tup vs =>
      cases u with
      | tup us =>
        cases k with
        | zero => simp [plain] at h2
        | succ k =>
          simp only [pd, PyData.eqv, V.tup.injEq]
          exact all n ih k vs us (by simpa [plain] using h1) (by simpa [plain] using h2)
      | _ => cases k <;> simp_all [plain, pd, PyData.eqv]
    | lst vs =>
      cases u with
      | lst us =>
        cases k with
        | zero => simp [plain] at h2
        | succ k =>
          simp only [pd, PyData.eqv, V.lst.injEq]
          exact all n ih k vs us (by simpa [plain] using h1) (by simpa [plain] using h2)
      | _ => cases k <;> simp_all [plain, pd, PyData.eqv]
    | _ => cases u <;> cases k <;> simp_all [plain, pd, PyData.eqv]

theorem seen_reads {Z : Nms} {B : Bas} {h₀ : Heap → Prop} {L : Addr} {fz : Led} {h : Heap} {m : Str → Option Value} {imm own : Led} {ι : List Addr} {σ : Store} (X : St Z B h₀ L fz h m imm own ι σ) {v : V} {y : Value} (hr : Rep B imm ι v y) (hp : plain 8 (seen σ v) = true) : ∃ as, Reads h y (pd (seen σ v)) as := by
  unfold seen at hp ⊢
  cases e : listOf σ v with
  | none =>
    simp only [e] at hp ⊢
    exact pd_reads X 8 hr hp
  | some vs =>
    simp only [e] at hp ⊢
    obtain ⟨a, xs, rfl, ⟨o, ho, h1, k, h2⟩, rs⟩ := X.isList hr e
    obtain ⟨as, q⟩ := pds_reads X 7 rs (by simpa [plain] using hp)
    rw [pd]
    exact ⟨_, reads_list_at ho h1 h2 (by simpa using q)⟩

open Classical in
theorem eqV_cases {σ : Store} {v w : V} {b : Bool} (h : eqV σ v w = some b) :
    (∃ s t, v = .str s ∧ w = .str t ∧ b = decide (s = t)) ∨ (plain 8 (seen σ v) = true ∧ plain 8 (seen σ w) = true ∧ b = decide (seen σ v = seen σ w)) := by
  unfold eqV at h
  split at h
  · cases h; exact .inl ⟨_, _, rfl, rfl, by congr⟩
  · right
    split at h
    · rename_i hc
      cases h
      exact ⟨hc.1, hc.2, rfl⟩
    · cases h

open Classical in
theorem sound_eq (F : Frm c x d) {v w : V} {y z : Value} {s : Shared} {imm own : Led} {ι : List Addr} {σ : Store} {m : Str → Option Value} {Q : Value → Shared → Prop} {E : Value → Shared → Prop} {b : Bool}
    (X : St c.Z c.B (Gnd x) x.L x.fz s.heap m imm own ι σ) (hv : Rep c.B imm ι v y) (hw : Rep c.B imm ι w z) (h : eqV σ v w = some b) (hq : ∀ tk, Q (.bool b) { s with toks := tk }) : wpAny (model c.prog c.w) x.A (compareOp .Eq y z) Q E s := by
  have hu := F.units
  rcases eqV_cases h with ⟨p, q, rfl, rfl, rfl⟩ | ⟨p, q, rfl⟩
  · obtain ⟨t, rfl⟩ := inv_str hv; obtain ⟨u, rfl⟩ := inv_str hw
    refine PyProof.Rows.eq_str ?_
    have := hq s.toks
    by_cases e : p = q
    · subst e; simpa using this
    · have e2 : (p == q) = false := by simpa using e
      rw [e2]; rw [decide_eq_false e] at this; exact this
  · obtain ⟨as, ra⟩ := seen_reads X hv p
    obtain ⟨bs, rb⟩ := seen_reads X hw q
    have la := pd_lay 8 _ p
    have lb := pd_lay 8 _ q
    refine SeqAt.compareEq_reads ra rb la.1 lb.1 ?_ ?_
    · have := la.2
      have h3 : min (pd (seen σ v)).depth (pd (seen σ w)).depth ≤ (pd (seen σ v)).depth := Nat.min_le_left _ _
      omega
    · have e : PyData.eqv (pd (seen σ v)) (pd (seen σ w)) = decide (seen σ v = seen σ w) := by
        have k := pd_eqv 8 _ _ 8 p q
        by_cases hq : seen σ v = seen σ w
        · rw [decide_eq_true hq]; exact k.mpr hq
        · rw [decide_eq_false hq]; exact Bool.eq_false_iff.mpr fun x => hq (k.mp x)
      rw [e]; exact hq s.toks
open Classical in
theorem sound_ne (F : Frm c x d) {v w : V} {y z : Value} {s : Shared} {imm own : Led} {ι : List Addr} {σ : Store} {m : Str → Option Value} {Q : Value → Shared → Prop} {E : Value → Shared → Prop} {b : Bool}
    (X : St c.Z c.B (Gnd x) x.L x.fz s.heap m imm own ι σ) (hv : Rep c.B imm ι v y) (hw : Rep c.B imm ι w z) (h : eqV σ v w = some b) (hq : ∀ tk, Q (.bool (!b)) { s with toks := tk }) : wpAny (model c.prog c.w) x.A (compareOp .NotEq y z) Q E s := by
  have hu := F.units
  rcases eqV_cases h with ⟨p, q, rfl, rfl, rfl⟩ | ⟨p, q, rfl⟩
  · obtain ⟨t, rfl⟩ := inv_str hv; obtain ⟨u, rfl⟩ := inv_str hw
    refine PyProof.Rows.ne_str ?_
    have := hq s.toks
    by_cases e : p = q
    · subst e; simpa using this
    · have e2 : (p != q) = true := by simpa using e
      rw [e2]; rw [decide_eq_false e] at this; exact this
  · obtain ⟨as, ra⟩ := seen_reads X hv p
    obtain ⟨bs, rb⟩ := seen_reads X hw q
    have la := pd_lay 8 _ p
    have lb := pd_lay 8 _ q
    refine SeqAt.compareNe_reads ra rb la.1 lb.1 ?_ ?_
    · have := la.2
      have h3 : min (pd (seen σ v)).depth (pd (seen σ w)).depth ≤ (pd (seen σ v)).depth := Nat.min_le_left _ _
      omega
    · have e : PyData.eqv (pd (seen σ v)) (pd (seen σ w)) = decide (seen σ v = seen σ w) := by
        have k := pd_eqv 8 _ _ 8 p q
        by_cases hq : seen σ v = seen σ w
        · rw [decide_eq_true hq]; exact k.mpr hq
        · rw [decide_eq_false hq]; exact Bool.eq_false_iff.mpr fun x => hq (k.mp x)
      rw [e]; exact hq s.toks
end
end Mine
set_option maxRecDepth 100000
set_option linter.unusedVariables false
namespace Mine
open PySem PySem.W PyProof.Rows PySem.Calls
section
variable {c : Cx} {x : Fx} {d : Nat} {Φ : Fns} {P : Prog}

theorem sound_cmpop (F : Frm c x d) {op : CmpOp} {v w : V} {y z : Value} {s : Shared} {imm own : Led} {ι : List Addr} {σ : Store} {m : Str → Option Value} {Q : Value → Shared → Prop} {E : Value → Shared → Prop}
    (X : St c.Z c.B (Gnd x) x.L x.fz s.heap m imm own ι σ) (hv : Rep c.B imm ι v y) (hw : Rep c.B imm ι w z) (h : Post c x m imm ι (relV c) (ofOpt (cmpV σ op v w) σ) Q E s) : wpAny (model c.prog c.w) x.A (compareOp op y z) Q E s := by
  obtain ⟨r, hr, h⟩ := Post.opt h
  have fin : ∀ b : Bool, r = .bool b → ∀ tk, Q (.bool b) { s with toks := tk } := fun b e tk => by
    subst e; exact Post.ok h X (.bool b)
  have two : ∀ {f : Int → Int → Option V} {op : CmpOp}, on2 v w f = some r → (∀ a b t u, f a b = some r → wpAny (model c.prog c.w) x.A (compareOp op (.int a t) (.int b u)) Q E s) → wpAny (model c.prog c.w) x.A (compareOp op y z) Q E s := by
    intro f op hr k
    obtain ⟨a, b, rfl, rfl, hr2⟩ := on2_inv hr
    obtain ⟨t, rfl⟩ := inv_int hv; obtain ⟨u, rfl⟩ := inv_int hw
    exact k a b t u hr2
  have nn : isNone v = false → y ≠ .none := by
    rintro q rfl
    cases hv
    cases q
  cases op with
  | Lt => exact two hr fun a b t u e => P.lt_int (fin _ (Option.some.inj e).symm s.toks)
  | LtE => exact two hr fun a b t u e => P.le_int (fin _ (Option.some.inj e).symm s.toks)
  | Gt => exact two hr fun a b t u e => P.gt_int (fin _ (Option.some.inj e).symm s.toks)
  | GtE => exact two hr fun a b t u e => P.ge_int (fin _ (Option.some.inj e).symm s.toks)
  | Eq =>
    obtain ⟨b, hb, rfl⟩ := Option.map_eq_some_iff.mp hr
    exact sound_eq F X hv hw hb (fin _ rfl)
  | NotEq =>
    obtain ⟨b, hb, rfl⟩ := Option.map_eq_some_iff.mp hr
    exact sound_ne F X hv hw hb (fin _ rfl)
  | Is =>
    have hr2 : (if isNone w = true then some (V.bool (isNone v)) else Option.none) = some r := hr
    clear hr
    split at hr2
    · rename_i q
      have hr := hr2
      clear hr2
      obtain rfl := isNone_inv q
      obtain rfl := inv_none hw
      cases q2 : isNone v with
      | true => rw [q2] at hr; obtain rfl := isNone_inv q2; obtain rfl := inv_none hv; exact is_none_none (fin _ (Option.some.inj hr).symm s.toks)
      | false => rw [q2] at hr; exact is_none_ne (nn q2) (fin _ (Option.some.inj hr).symm s.toks)
    · cases hr2
  | IsNot =>
    have hr2 : (if isNone w = true then some (V.bool (!isNone v)) else Option.none) = some r := hr
    clear hr
    split at hr2
    · rename_i q
      have hr := hr2
      clear hr2
      obtain rfl := isNone_inv q
      obtain rfl := inv_none hw
      cases q2 : isNone v with
      | true => rw [q2] at hr; obtain rfl := isNone_inv q2; obtain rfl := inv_none hv; exact isnot_none_none (fin _ (Option.some.inj hr).symm s.toks)
      | false => rw [q2] at hr; exact isnot_none_ne (nn q2) (fin _ (Option.some.inj hr).symm s.toks)
    · cases hr2
  | _ => cases hr

/-- what e can't be -/
theorem mt_head {T : Tops} {G : Str → Bool} {S : List Str} {M : Nat → Option Str} {me : ME} {e : Expr} (h : mt T G S M me e = true) :
    (∀ q p, e ≠ .Starred q p) ∧ (∀ a b q p, e ≠ .Slice a b q p) ∧ (∀ a b q p, e ≠ .ListComp a b q p) ∧ (∀ a b q p, e ≠ .SetComp a b q p) ∧ (∀ a b q r p, e ≠ .DictComp a b q r p) ∧ (∀ a b p, e ≠ .Set a b p) ∧ (∀ a b q p, e ≠ .IfExp a b q p) := by
  have k := mt_ok h
  refine ⟨?_, ?_, ?_, ?_, ?_, ?_, ?_⟩ <;> (intros; rintro rfl; exact Bool.noConfusion (show false = true from k))

theorem star_cons {T : Tops} {G : Str → Bool} {S : List Str} {M : Nat → Option Str} {me : ME} {e : Expr} {rest : List Expr} {env : Env} (h : mt T G S M me e = true) : starEach (e :: rest) env = (false, eval e env) :: starEach rest env := by
  have := (mt_head h).1
  cases e <;> first | rfl | exact absurd rfl (this _ _)
theorem star_none {T : Tops} {G : Str → Bool} {S : List Str} {M : Nat → Option Str} {pos : Pos} {env : Env} : ∀ {mes : List ME} {es : List Expr}, mts T G S M mes es = true → (backTo pos (starEach es env)).any (·.1) = false
  | [], [], _ => rfl
  | [], _ :: _, h => by first | cases mts_n h | cases h
  | _ :: _, [], h => by first | cases mts_n h | cases h
  | me :: mes, e :: es, h => by
    simp only [mts, List.head?_cons, Option.any_some, List.tail_cons, Bool.and_eq_true] at h
    rw [star_cons h.1]
    simpa [backTo] using star_none (pos := pos) (env := env) h.2
theorem marks_no {T : Tops} {G : Str → Bool} {S : List Str} {M : Nat → Option Str} {me : ME} {e : Expr} {op : CmpOp} (h : mt T G S M me e = true) : behindInMarks op e = false := by
  have := (mt_head h).2.2.2.2.2.1
  cases e <;> first | rfl | exact absurd rfl (this _ _ _)
theorem swaps_no {T : Tops} {G : Str → Bool} {S : List Str} {M : Nat → Option Str} {me : ME} {e : Expr} {t : Option Expr} {l : Nat} {env : Env} (h : mt T G S M me e = true) : swapsWith e t l env = pure false := by
  have h1 := (mt_head h).2.2.1
  have h2 := (mt_head h).2.2.2.1
  have h3 := (mt_head h).2.2.2.2.1
  cases e <;> first | rfl | exact absurd rfl (h1 _ _ _ _) | exact absurd rfl (h2 _ _ _ _) | exact absurd rfl (h3 _ _ _ _ _)
theorem fold_no {T : Tops} {G : Str → Bool} {S : List Str} {M : Nat → Option Str} {me : ME} {e : Expr} {env : Env} (h : mt T G S M me e = true) : ∀ v, foldedSetIterable e env v = pure v := by
  have := (mt_head h).2.2.2.2.2.1
  intro v
  cases e <;> first | rfl | exact absurd rfl (this _ _ _)
theorem sub_plain {T : Tops} {G : Str → Bool} {S : List Str} {M : Nat → Option Str} {me : ME} {e : Expr} {o i : Value} (h : mt T G S M me e = true) : subscripted e false o i = operate [o, i] (getItem o i) := by
  have := (mt_head h).2.1
  cases e <;> first | rfl | exact absurd rfl (this _ _ _ _)

noncomputable def SoundEs (c : Cx) (x : Fx) (Φ : Fns) (mes : List ME) : Prop := ∀ (es : List Expr) (pos : Pos), mts c.T x.G x.S c.M mes es = true → ∀ (s : Shared) (imm own : Led) (ι : List Addr) (σ : Store) (ρ : Loc) (m : Str → Option Value) (Q : List Value → Shared → Prop) (E : Value → Shared → Prop),
  St c.Z c.B (Gnd x) x.L x.fz s.heap m imm own ι σ → LocRel c.B imm ι x.S ρ m → Post c x m imm ι (relVs c) (evalEs Φ ρ mes σ) Q E s → wpAny (model c.prog c.w) x.A (spliced (backTo pos (starEach es x.env))) Q E s

theorem sound_nil : SoundEs c x Φ [] := by
  intro es pos hm s imm own ι σ ρ m Q E X hl h
  cases es with
  | cons _ _ => (first | cases mts_n hm | cases mts_n hm.2 | (exact Bool.noConfusion (show false = true from hm)) | exact Bool.noConfusion (show false = true from hm.2))
  | nil =>
    simp only [es_0, es_1] at h
    exact args_nil (Post.ok h (tk := s.toks) X .nil)
theorem sound_cons {me : ME} {mes : List ME} (h1 : SoundE c x Φ me) (h2 : SoundEs c x Φ mes) : SoundEs c x Φ (me :: mes) := by
  intro es pos hm s imm own ι σ ρ m Q E X hl h
  cases es with
  | nil => (first | cases mts_n hm | cases mts_n hm.2 | (exact Bool.noConfusion (show false = true from hm)) | exact Bool.noConfusion (show false = true from hm.2))
  | cons e es =>
    simp only [mts, List.head?_cons, Option.any_some, List.tail_cons, Bool.and_eq_true] at hm
    simp only [es_0, es_1] at h
    refine args_cons ?_ (star_cons hm.1)
    refine h1 e hm.1 s imm own ι σ ρ m _ E X hl (Post.bind h fun v σ₁ y h' tk imm' own' ι' hx X' hr h₁ => ?_)
    refine h2 es pos hm.2 _ imm' own' ι' σ₁ ρ m _ E X' (hl.mono hx) (Post.bind h₁ fun vs σ₂ ys h'' tk' imm'' own'' ι'' hx' X'' hr' h₂ => ?_)
    exact Post.ok h₂ (tk := tk') X'' (.cons (hr.mono hx') hr')

theorem sound_neg {a : ME} (ha : SoundE c x Φ a) : SoundE c x Φ (.neg a) := by
  intro e hm s imm own ι σ ρ m Q E X hl h
  obtain ⟨l, p, rfl, hk⟩ := mt_neg hm
  simp only [ee_var, ee_cint, ee_cstr, ee_cnone, ee_cbool, ee_gint, ee_gstr, ee_bin, ee_neg, ee_not, ee_and, ee_or, ee_cmp, ee_cmp2, ee_call, ee_bi, ee_copy, ee_isi, ee_make, ee_meth, ee_attr, ee_idx, ee_sliceTo, ee_sliceFrom, ee_tup, ee_lst, ee_sumAt, ee_rev, ee_strMul, ee_cat, ee_slen, ee_sidx, ee_sTo, ee_sFrom, ee_split, ee_join, ee_upper, ee_giveRepl, ee_strOf, ee_intOf, ee_notIn, ee_inT, ee_notInL, ee_minL, ee_shownL] at h
  refine UnaryOp_ (ha l hk s imm own ι σ ρ m _ E X hl (Post.bind h fun v σ₁ y h' tk imm' own' ι' hx X' hr h₁ => ?_))
  cases v with
  | int i =>
    obtain ⟨t, rfl⟩ := inv_int hr
    exact P.neg_int (Post.ok h₁ X' (.int _ _))
  | _ => exact h₁.elim

theorem sound_truthy {v : V} {y : Value} {b : Bool} {s : Shared} {B : Bas} {imm : Led} {ι : List Addr} {A : Around} {Q : Bool → Shared → Prop} {E : Value → Shared → Prop} (hr : Rep B imm ι v y) (hb : truth v = some b) (hq : Q b s) : wpAny (model c.prog c.w) A (truthy y) Q E s := by
  cases hr with
  | none => simp [truth] at hb; subst hb; exact truthy_none hq
  | bool b' => simp [truth] at hb; subst hb; exact wpAny_truthy_bool hq
  | int i t => simp only [truth, Option.some.injEq] at hb; subst hb; exact P.truthy_int hq
  | _ => simp [truth] at hb

theorem sound_not {a : ME} (ha : SoundE c x Φ a) : SoundE c x Φ (.not a) := by
  intro e hm s imm own ι σ ρ m Q E X hl h
  obtain ⟨l, p, rfl, hk⟩ := mt_not hm
  simp only [ee_var, ee_cint, ee_cstr, ee_cnone, ee_cbool, ee_gint, ee_gstr, ee_bin, ee_neg, ee_not, ee_and, ee_or, ee_cmp, ee_cmp2, ee_call, ee_bi, ee_copy, ee_isi, ee_make, ee_meth, ee_attr, ee_idx, ee_sliceTo, ee_sliceFrom, ee_tup, ee_lst, ee_sumAt, ee_rev, ee_strMul, ee_cat, ee_slen, ee_sidx, ee_sTo, ee_sFrom, ee_split, ee_join, ee_upper, ee_giveRepl, ee_strOf, ee_intOf, ee_notIn, ee_inT, ee_notInL, ee_minL, ee_shownL] at h
  refine UnaryOp_ (ha l hk s imm own ι σ ρ m _ E X hl (Post.bind h fun v σ₁ y h' tk imm' own' ι' hx X' hr h₁ => ?_))
  obtain ⟨r, hr', h₁⟩ := Post.opt h₁
  obtain ⟨b, hb, rfl⟩ := Option.map_eq_some_iff.mp hr'
  exact not_of (sound_truthy hr hb (Post.ok h₁ (tk := tk) X' (.bool _)))

theorem sound_cmp (F : Frm c x d) {op : CmpOp} {a b : ME} (ha : SoundE c x Φ a) (hb : SoundE c x Φ b) : SoundE c x Φ (.cmp op a b) := by
  intro e hm s imm own ι σ ρ m Q E X hl h
  obtain ⟨l, o, r, p, rfl, hk⟩ := mt_cmp hm
  simp only [Bool.and_eq_true, beq_iff_eq] at hk
  obtain ⟨⟨rfl, h1⟩, h2⟩ := hk
  simp only [ee_var, ee_cint, ee_cstr, ee_cnone, ee_cbool, ee_gint, ee_gstr, ee_bin, ee_neg, ee_not, ee_and, ee_or, ee_cmp, ee_cmp2, ee_call, ee_bi, ee_copy, ee_isi, ee_make, ee_meth, ee_attr, ee_idx, ee_sliceTo, ee_sliceFrom, ee_tup, ee_lst, ee_sumAt, ee_rev, ee_strMul, ee_cat, ee_slen, ee_sidx, ee_sTo, ee_sFrom, ee_split, ee_join, ee_upper, ee_giveRepl, ee_strOf, ee_intOf, ee_notIn, ee_inT, ee_notInL, ee_minL, ee_shownL] at h
  exact wpAny_Compare1 (sound_two ha hb h1 h2 X hl h fun v w y z s imm own ι σ X hv hw h => sound_cmpop F X hv hw h) (marks_no h2)
theorem sound_cmp2 (F : Frm c x d) {o₁ o₂ : CmpOp} {a b e₃ : ME} (ha : SoundE c x Φ a) (hb : SoundE c x Φ b) (hc : SoundE c x Φ e₃) : SoundE c x Φ (.cmp2 o₁ o₂ a b e₃) := by
  intro e hm s imm own ι σ ρ m Q E X hl h
  obtain ⟨l, p₁, p₂, r₁, r₂, p, rfl, hk⟩ := mt_cmp2 hm
  simp only [Bool.and_eq_true, beq_iff_eq] at hk
  obtain ⟨⟨⟨⟨rfl, rfl⟩, h1⟩, h2⟩, h3⟩ := hk
  simp only [ee_var, ee_cint, ee_cstr, ee_cnone, ee_cbool, ee_gint, ee_gstr, ee_bin, ee_neg, ee_not, ee_and, ee_or, ee_cmp, ee_cmp2, ee_call, ee_bi, ee_copy, ee_isi, ee_make, ee_meth, ee_attr, ee_idx, ee_sliceTo, ee_sliceFrom, ee_tup, ee_lst, ee_sumAt, ee_rev, ee_strMul, ee_cat, ee_slen, ee_sidx, ee_sTo, ee_sFrom, ee_split, ee_join, ee_upper, ee_giveRepl, ee_strOf, ee_intOf, ee_notIn, ee_inT, ee_notInL, ee_minL, ee_shownL] at h
  refine Compare_chain ?_ (by show lastMarks [o₂] [r₂] = false; exact marks_no h3)
  refine ha l h1 s imm own ι σ ρ m _ E X hl (Post.bind h fun v σ₁ y h' tk imm' own' ι' hx X' hr h₁ => ?_)
  refine chain_link ?_
  refine hb r₁ h2 _ imm' own' ι' σ₁ ρ m _ E X' (hl.mono hx) (Post.bind h₁ fun w σ₂ z h'' tk' imm'' own'' ι'' hx' X'' hr' h₂ => ?_)
  refine sound_cmpop F X'' (hr.mono hx') hr' (Post.bind h₂ fun q σ₃ qy h₃' tk₃ imm₃ own₃ ι₃ hx₃ X₃ hr₃ h₃ => ?_)
  obtain ⟨t, ht⟩ : ∃ t, truth q = some t := by
    cases e : truth q with
    | none => rw [e] at h₃; exact h₃.elim
    | some t => exact ⟨t, rfl⟩
  refine sound_truthy hr₃ ht ?_
  rw [ht] at h₃
  cases t with
  | false => exact Post.ok (tk := tk₃) h₃ X₃ hr₃
  | true =>
    rw [if_pos rfl]
    refine chain_last ?_
    refine hc r₂ h3 _ imm₃ own₃ ι₃ σ₃ ρ m _ E X₃ ((hl.mono hx).mono (hx'.trans hx₃)) (Post.bind h₃ fun u σ₄ uy h₄' tk₄ imm₄ own₄ ι₄ hx₄ X₄ hr₄ h₄ => ?_)
    exact sound_cmpop F X₄ (hr'.mono (hx₃.trans hx₄)) hr₄ h₄

noncomputable def SoundAnd (c : Cx) (x : Fx) (Φ : Fns) (mes : List ME) : Prop := ∀ (es : List Expr) (pos : Pos), mts c.T x.G x.S c.M mes es = true → ∀ (s : Shared) (imm own : Led) (ι : List Addr) (σ : Store) (ρ : Loc) (m : Str → Option Value) (Q : Value → Shared → Prop) (E : Value → Shared → Prop),
  St c.Z c.B (Gnd x) x.L x.fz s.heap m imm own ι σ → LocRel c.B imm ι x.S ρ m → Post c x m imm ι (relV c) (evalAnd Φ ρ mes σ) Q E s → wpAny (model c.prog c.w) x.A (eval (.BoolOp .And es pos) x.env) Q E s
noncomputable def SoundOr (c : Cx) (x : Fx) (Φ : Fns) (mes : List ME) : Prop := ∀ (es : List Expr) (pos : Pos), mts c.T x.G x.S c.M mes es = true → ∀ (s : Shared) (imm own : Led) (ι : List Addr) (σ : Store) (ρ : Loc) (m : Str → Option Value) (Q : Value → Shared → Prop) (E : Value → Shared → Prop),
  St c.Z c.B (Gnd x) x.L x.fz s.heap m imm own ι σ → LocRel c.B imm ι x.S ρ m → Post c x m imm ι (relV c) (evalOr Φ ρ mes σ) Q E s → wpAny (model c.prog c.w) x.A (eval (.BoolOp .Or es pos) x.env) Q E s

theorem sound_and_nil : SoundAnd c x Φ [] := by
  intro es pos hm s imm own ι σ ρ m Q E X hl h
  simp only [ea_0, ea_1] at h
  exact h.elim
theorem sound_or_nil : SoundOr c x Φ [] := by
  intro es pos hm s imm own ι σ ρ m Q E X hl h
  simp only [eo_0, eo_1] at h
  exact h.elim
theorem sound_and_cons {me : ME} {mes : List ME} (h1 : SoundE c x Φ me) (h2 : SoundAnd c x Φ mes) : SoundAnd c x Φ (me :: mes) := by
  intro es pos hm s imm own ι σ ρ m Q E X hl h
  cases es with
  | nil => (first | cases mts_n hm | cases mts_n hm.2 | (exact Bool.noConfusion (show false = true from hm)) | exact Bool.noConfusion (show false = true from hm.2))
  | cons e es =>
    simp only [mts, List.head?_cons, Option.any_some, List.tail_cons, Bool.and_eq_true] at hm
    simp only [ea_0, ea_1] at h
    cases mes with
    | nil =>
      cases es with
      | cons _ _ => (first | cases mts_n hm | cases mts_n hm.2 | (exact Bool.noConfusion (show false = true from hm)) | exact Bool.noConfusion (show false = true from hm.2))
      | nil =>
        refine BoolOp_one (h1 e hm.1 s imm own ι σ ρ m _ E X hl (Post.bind h fun v σ₁ y h' tk imm' own' ι' hx X' hr h₁ => ?_))
        exact Post.ok (tk := tk) h₁ X' hr
    | cons me' mes =>
      cases es with
      | nil => (first | cases mts_n hm | cases mts_n hm.2 | (exact Bool.noConfusion (show false = true from hm)) | exact Bool.noConfusion (show false = true from hm.2))
      | cons e' es =>
        refine BoolOp_and (h1 e hm.1 s imm own ι σ ρ m _ E X hl (Post.bind h fun v σ₁ y h' tk imm' own' ι' hx X' hr h₁ => ?_))
        obtain ⟨t, ht⟩ : ∃ t, truth v = some t := by
          cases e : truth v with
          | none => rw [e] at h₁; exact h₁.elim
          | some t => exact ⟨t, rfl⟩
        refine sound_truthy hr ht ?_
        rw [ht] at h₁
        cases t with
        | false => exact Post.ok (tk := tk) h₁ X' hr
        | true =>
          rw [if_pos rfl]
          exact h2 (e' :: es) pos hm.2 _ imm' own' ι' σ₁ ρ m Q E X' (hl.mono hx) h₁
theorem sound_or_cons {me : ME} {mes : List ME} (h1 : SoundE c x Φ me) (h2 : SoundOr c x Φ mes) : SoundOr c x Φ (me :: mes) := by
  intro es pos hm s imm own ι σ ρ m Q E X hl h
  cases es with
  | nil => (first | cases mts_n hm | cases mts_n hm.2 | (exact Bool.noConfusion (show false = true from hm)) | exact Bool.noConfusion (show false = true from hm.2))
  | cons e es =>
    simp only [mts, List.head?_cons, Option.any_some, List.tail_cons, Bool.and_eq_true] at hm
    simp only [eo_0, eo_1] at h
    cases mes with
    | nil =>
      cases es with
      | cons _ _ => (first | cases mts_n hm | cases mts_n hm.2 | (exact Bool.noConfusion (show false = true from hm)) | exact Bool.noConfusion (show false = true from hm.2))
      | nil =>
        refine BoolOp_one (h1 e hm.1 s imm own ι σ ρ m _ E X hl (Post.bind h fun v σ₁ y h' tk imm' own' ι' hx X' hr h₁ => ?_))
        exact Post.ok (tk := tk) h₁ X' hr
    | cons me' mes =>
      cases es with
      | nil => (first | cases mts_n hm | cases mts_n hm.2 | (exact Bool.noConfusion (show false = true from hm)) | exact Bool.noConfusion (show false = true from hm.2))
      | cons e' es =>
        refine BoolOp_or (h1 e hm.1 s imm own ι σ ρ m _ E X hl (Post.bind h fun v σ₁ y h' tk imm' own' ι' hx X' hr h₁ => ?_))
        obtain ⟨t, ht⟩ : ∃ t, truth v = some t := by
          cases e : truth v with
          | none => rw [e] at h₁; exact h₁.elim
          | some t => exact ⟨t, rfl⟩
        refine sound_truthy hr ht ?_
        rw [ht] at h₁
        cases t with
        | true => exact Post.ok (tk := tk) h₁ X' hr
        | false =>
          rw [if_neg (by simp)]
          exact h2 (e' :: es) pos hm.2 _ imm' own' ι' σ₁ ρ m Q E X' (hl.mono hx) h₁
theorem sound_and {es : List ME} (h1 : SoundAnd c x Φ es) : SoundE c x Φ (.and es) := by
  intro e hm s imm own ι σ ρ m Q E X hl h
  obtain ⟨l, p, rfl, hk⟩ := mt_and hm
  simp only [Bool.and_eq_true] at hk
  simp only [ee_var, ee_cint, ee_cstr, ee_cnone, ee_cbool, ee_gint, ee_gstr, ee_bin, ee_neg, ee_not, ee_and, ee_or, ee_cmp, ee_cmp2, ee_call, ee_bi, ee_copy, ee_isi, ee_make, ee_meth, ee_attr, ee_idx, ee_sliceTo, ee_sliceFrom, ee_tup, ee_lst, ee_sumAt, ee_rev, ee_strMul, ee_cat, ee_slen, ee_sidx, ee_sTo, ee_sFrom, ee_split, ee_join, ee_upper, ee_giveRepl, ee_strOf, ee_intOf, ee_notIn, ee_inT, ee_notInL, ee_minL, ee_shownL] at h
  exact h1 l p hk.1 s imm own ι σ ρ m Q E X hl h
theorem sound_or {es : List ME} (h1 : SoundOr c x Φ es) : SoundE c x Φ (.or es) := by
  intro e hm s imm own ι σ ρ m Q E X hl h
  obtain ⟨l, p, rfl, hk⟩ := mt_or hm
  simp only [Bool.and_eq_true] at hk
  simp only [ee_var, ee_cint, ee_cstr, ee_cnone, ee_cbool, ee_gint, ee_gstr, ee_bin, ee_neg, ee_not, ee_and, ee_or, ee_cmp, ee_cmp2, ee_call, ee_bi, ee_copy, ee_isi, ee_make, ee_meth, ee_attr, ee_idx, ee_sliceTo, ee_sliceFrom, ee_tup, ee_lst, ee_sumAt, ee_rev, ee_strMul, ee_cat, ee_slen, ee_sidx, ee_sTo, ee_sFrom, ee_split, ee_join, ee_upper, ee_giveRepl, ee_strOf, ee_intOf, ee_notIn, ee_inT, ee_notInL, ee_minL, ee_shownL] at h
  exact h1 l p hk.1 s imm own ι σ ρ m Q E X hl h
end
end Mine
set_option maxRecDepth 100000
set_option linter.unusedVariables false
namespace Mine
open PySem PySem.W PyProof.Rows PySem.Calls

/-- what is to be shown of a call's outcome -/
noncomputable def PostC (c : Cx) (x : Fx) (m : Str → Option Value) (imm : Led) (ι : List Addr) (r : R V) (Q : Result → Shared → Prop) (s : Shared) : Prop :=
  match r with
  | .ok v σ' => ∀ y h' tk imm' own' ι', Ext imm imm' ι ι' → St c.Z c.B (Gnd x) x.L x.fz h' m imm' own' ι' σ' → Rep c.B imm' ι' v y → Q (.ok (.ret y)) { s with heap := h', toks := tk }
  | .exn k σ' => ∀ e s', Thrown c x m imm ι k σ' s s' e → Q (.error (.ref e)) s'
  | .stuck => False

/-- a def does what φ says -/
noncomputable def FnOK (c : Cx) (d : Nat) (D : Fn) (φ : List V → Store → R V) : Prop :=
  ∀ (x : Fx) (m : Str → Option Value) (s : Shared) (imm own : Led) (ι : List Addr) (σ : Store) (vs : List V) (ys : List Value) (Q : Result → Shared → Prop), Frm c x d → (x.quiet = true → D.quiet = true) →
    St c.Z c.B (Gnd x) x.L x.fz s.heap m imm own ι σ → Reps c.B imm ι vs ys → PostC c x m imm ι (φ vs σ) Q s → codeAny (model c.prog c.w) x.A (.call (.ref D.addr) ⟨ys, []⟩) Q s

theorem Frm.less {c : Cx} {x : Fx} {d d' : Nat} (F : Frm c x d) (h : d' ≤ d) : Frm c x d' :=
  ⟨F.kinB, F.topB, F.atB, F.imp, F.frames, F.calm, F.kind, F.loc, F.nd, by have := F.depth; omega, by have := F.units; omega, F.tree, F.gen, F.coro⟩

/-- the defs that a frame may call -/
structure FnsOK (c : Cx) (P : Prog) (d : Nat) (Φ : Fns) : Prop where
  fn : ∀ f vs σ, Φ.fn f vs σ ≠ .stuck → ∃ D, P.fns.lookup f = some D ∧ FnOK c d D (Φ.fn f)
  init : ∀ k f, Φ.init k = some f → ∃ C, c.Z.classes[k]? = some (C, f)
  make : ∀ (k : Nat) (C : Addr) (f : Nat), c.Z.classes[k]? = some (C, f) → ∃ D, P.fns.lookup f = some D ∧ makesIn c.K C = true ∧ findIn c.K (.ref C) "__init__" = some (some (.ref D.addr)) ∧ isFn c.K (.ref D.addr) = true
  meth : ∀ k f, Φ.methOk k f = true → ∃ C g D x, c.Z.classes[k]? = some (C, g) ∧ P.fns.lookup f = some D ∧ c.M f = some x ∧ x ∉ c.Z.attrs ∧ plainGet c.K C x = true ∧ findIn c.K (.ref C) x = some (some (.ref D.addr)) ∧ isFn c.K (.ref D.addr) = true ∧ keepIn c.K (.ref D.addr) = true
  attr : ∀ k j, Φ.attrOk k j = true → ∃ C g x a, c.Z.classes[k]? = some (C, g) ∧ c.Z.attrs[j]? = some x ∧ plainGet c.K C x = true ∧ hasDictIn c.K C = true ∧ findIn c.K (.ref C) x = some a ∧ noGet c.K a = true ∧
    findIn c.K (.ref C) "__setattr__" = some (some (.builtin "object.__setattr__")) ∧ plainOver c.K C = true ∧ takerIn c.K C x = some none

section
variable {c : Cx} {x : Fx} {d : Nat} {Φ : Fns} {P : Prog}

theorem Post.pos {α β : Type} {m : Str → Option Value} {imm : Led} {ι : List Addr} {rel : Led → List Addr → α → β → Prop} {r : R α} {Q : β → Shared → Prop} {s : Shared} (h : Post c x m imm ι rel r Q E s) : r ≠ .stuck := by
  rintro rfl; exact h

/-- a call of a def -/
theorem sound_fncall (F : Frm c x (d + 1)) (FO : FnsOK c P d Φ) {f : Nat} {D : Fn} {vs : List V} {ys : List Value} {s : Shared} {imm own : Led} {ι : List Addr} {σ : Store} {m : Str → Option Value} {Q : Value → Shared → Prop} {E : Value → Shared → Prop}
    (hD : P.fns.lookup f = some D) (hq : x.quiet = true → D.quiet = true) (X : St c.Z c.B (Gnd x) x.L x.fz s.heap m imm own ι σ) (hr : Reps c.B imm ι vs ys) (h : Post c x m imm ι (relV c) (Φ.fn f vs σ) Q E s) : wpAny (model c.prog c.w) x.A (call (.ref D.addr) ys) Q E s := by
  obtain ⟨D', hD', hf⟩ := FO.fn f vs σ h.pos
  rw [hD] at hD'; cases hD'
  refine wpAny_call (hf x m s imm own ι σ vs ys _ (F.less (Nat.le_succ _)) hq X hr ?_)
  revert h
  cases Φ.fn f vs σ with
  | ok v σ' => exact fun h y h' tk imm' own' ι' hx X' hr' => h y h' tk imm' own' ι' hx X' hr'
  | exn _ _ => exact fun h => h
  | stuck => exact fun h => h

theorem sound_call (F : Frm c x (d + 1)) (TK : TopOk c P) (FO : FnsOK c P d Φ) {f : Nat} {args : List ME} (hq : x.quiet = true → ∀ D, P.fns.lookup f = some D → D.quiet = true) (ha : SoundEs c x Φ args) : SoundE c x Φ (.call f args) := by
  intro e hm s imm own ι σ ρ m Q E X hl h
  obtain ⟨y, p1, es, p2, rfl, hk⟩ := mt_call hm
  simp only [Bool.and_eq_true, beq_iff_eq, bne_iff_ne, ne_eq] at hk
  obtain ⟨⟨⟨⟨hf, hg⟩, hd⟩, hs⟩, hne⟩ := hk
  simp only [ee_var, ee_cint, ee_cstr, ee_cnone, ee_cbool, ee_gint, ee_gstr, ee_bin, ee_neg, ee_not, ee_and, ee_or, ee_cmp, ee_cmp2, ee_call, ee_bi, ee_copy, ee_isi, ee_make, ee_meth, ee_attr, ee_idx, ee_sliceTo, ee_sliceFrom, ee_tup, ee_lst, ee_sumAt, ee_rev, ee_strMul, ee_cat, ee_slen, ee_sidx, ee_sTo, ee_sFrom, ee_split, ee_join, ee_upper, ee_giveRepl, ee_strOf, ee_intOf, ee_notIn, ee_inT, ee_notInL, ee_minL, ee_shownL] at h
  obtain ⟨D, hD, hn, hkeep⟩ := TK.fns y f hf
  refine Call_ (name_K X.fr (F.kin X.gd) (topRead_of (F.top X.gd)) hn ?_ F.kind (Fx.glob hg) (by simpa using hd))
  cases args with
  | nil => simp at hne
  | cons a args =>
    cases es with
    | nil => (first | cases mts_n hs | cases mts_n hs.2 | (exact Bool.noConfusion (show false = true from hs)) | exact Bool.noConfusion (show false = true from hs.2))
    | cons e es =>
      have hs' := hs
      simp only [mts, List.head?_cons, Option.any_some, List.tail_cons, Bool.and_eq_true] at hs
      refine callWith_K (F.kin X.gd) hkeep ?_ (star_cons hs.1) (star_none hs.2)
      refine ha (e :: es) p2 hs' s imm own ι σ ρ m _ E X hl (Post.bind h fun vs σ₁ ys h' tk imm' own' ι' hx X' hr h₁ => ⟨(F.kin X'.gd).keeps X'.fr.keep, ?_⟩)
      exact sound_fncall F FO hD (fun q => hq q D hD) X' hr h₁

theorem evalEs_len {ρ : Loc} : ∀ (es : List ME) (σ : Store) (vs : List V) (σ' : Store), evalEs Φ ρ es σ = .ok vs σ' → vs.length = es.length := by
  intro es
  induction es with
  | nil => intro σ vs σ' h; simp [es_0, es_1] at h; simp [h.1]
  | cons a r ih =>
    intro σ vs σ' h
    simp only [es_0, es_1] at h
    cases e1 : evalE Φ ρ a σ with
    | ok v σ₁ =>
      rw [e1] at h
      simp only [R.bind] at h
      cases e2 : evalEs Φ ρ r σ₁ with
      | ok ws σ₂ =>
        rw [e2] at h
        simp at h
        rw [← h.1]
        simp [ih _ _ _ e2]
      | exn _ _ => rw [e2] at h; simp at h
      | stuck => rw [e2] at h; simp at h
    | exn _ _ => rw [e1] at h; simp [R.bind] at h
    | stuck => rw [e1] at h; simp [R.bind] at h
theorem mts_len {T : Tops} {G : Str → Bool} {S : List Str} {M : Nat → Option Str} : ∀ (es : List ME) (l : List Expr), mts T G S M es l = true → es.length = l.length := by
  intro es
  induction es with
  | nil => intro l h; cases l <;> simp [mts] at h ⊢
  | cons a r ih => intro l h; cases l <;> simp [mts] at h ⊢; exact ih _ h.2

theorem sound_tup {es : List ME} (ha : SoundEs c x Φ es) : SoundE c x Φ (.tup es) := by
  intro e hm s imm own ι σ ρ m Q E X hl h
  obtain ⟨l, p1, p2, rfl, hk⟩ := mt_tup hm
  simp only [Bool.and_eq_true, decide_eq_true_eq] at hk
  simp only [ee_var, ee_cint, ee_cstr, ee_cnone, ee_cbool, ee_gint, ee_gstr, ee_bin, ee_neg, ee_not, ee_and, ee_or, ee_cmp, ee_cmp2, ee_call, ee_bi, ee_copy, ee_isi, ee_make, ee_meth, ee_attr, ee_idx, ee_sliceTo, ee_sliceFrom, ee_tup, ee_lst, ee_sumAt, ee_rev, ee_strMul, ee_cat, ee_slen, ee_sidx, ee_sTo, ee_sFrom, ee_split, ee_join, ee_upper, ee_giveRepl, ee_strOf, ee_intOf, ee_notIn, ee_inT, ee_notInL, ee_minL, ee_shownL] at h
  have hlen := mts_len es l hk.1
  refine Tuple_ ?_
  cases hv : evalEs Φ ρ es σ with
  | exn _ _ =>
    refine ha l _ hk.1 s imm own ι σ ρ m _ E X hl ?_
    rw [hv] at h ⊢
    exact h
  | stuck => rw [hv] at h; exact h.elim
  | ok vs₀ σ₀ =>
    have hl0 := evalEs_len _ _ _ _ hv
    refine ha l p2 hk.1 s imm own ι σ ρ m _ E X hl ?_
    rw [hv] at h ⊢
    intro ys h' tk imm' own' ι' hx X' hr
    refine newTuple_N X'.fr X'.news (fun h'' F' N' => ?_) (by rw [hr.length, hl0, hlen, sizeLine_eq]; omega)
    exact h _ h'' tk _ own' ι' (hx.trans (Ext.imm _)) (X'.newImm F' N' fun p hp => X'.lt p hp) (.tup (.head _) (hr.mono (Ext.imm _)))

theorem sound_lst {own₁ : Bool} {es : List ME} (ha : SoundEs c x Φ es) : SoundE c x Φ (.lst own₁ es) := by
  intro e hm s imm own ι σ ρ m Q E X hl h
  obtain ⟨l, p1, rfl, hk⟩ := mt_lst hm
  simp only [Bool.and_eq_true, decide_eq_true_eq] at hk
  simp only [ee_var, ee_cint, ee_cstr, ee_cnone, ee_cbool, ee_gint, ee_gstr, ee_bin, ee_neg, ee_not, ee_and, ee_or, ee_cmp, ee_cmp2, ee_call, ee_bi, ee_copy, ee_isi, ee_make, ee_meth, ee_attr, ee_idx, ee_sliceTo, ee_sliceFrom, ee_tup, ee_lst, ee_sumAt, ee_rev, ee_strMul, ee_cat, ee_slen, ee_sidx, ee_sTo, ee_sFrom, ee_split, ee_join, ee_upper, ee_giveRepl, ee_strOf, ee_intOf, ee_notIn, ee_inT, ee_notInL, ee_minL, ee_shownL] at h
  have hlen := mts_len es l hk.1
  refine List_ ?_
  cases hv : evalEs Φ ρ es σ with
  | exn _ _ =>
    refine ha l _ hk.1 s imm own ι σ ρ m _ E X hl ?_
    rw [hv] at h ⊢
    exact h
  | stuck => rw [hv] at h; exact h.elim
  | ok vs₀ σ₀ =>
    have hl0 := evalEs_len _ _ _ _ hv
    refine ha l p1 hk.1 s imm own ι σ ρ m _ E X hl ?_
    rw [hv] at h ⊢
    intro ys h' tk imm' own' ι' hx X' hr
    simp only [R.bind] at h
    refine newList_N X'.fr X'.news (fun h'' F' N' => ?_) (by rw [hr.length, hl0, hlen, sizeLine_eq]; omega)
    cases own₁ with
    | false =>
      rw [if_neg (by simp)] at h
      exact h _ h'' tk _ own' ι' (hx.trans (Ext.imm _)) (X'.newImm F' N' fun p hp => X'.lt p hp) (.lst (.head _) (hr.mono (Ext.imm _)))
    | true =>
      rw [if_pos rfl] at h
      exact h _ h'' tk imm' _ _ (hx.trans (Ext.own _)) (X'.newList F' N' (fun p hp => X'.lt p hp) hr) X'.locNew

theorem sound_copy (F : Frm c x d) (TK : TopOk c P) {own₁ : Bool} {a : ME} (ha : SoundE c x Φ a) : SoundE c x Φ (.copy own₁ a) := by
  intro e hm s imm own ι σ ρ m Q E X hl h
  obtain ⟨y, p1, b, p2, rfl, hk⟩ := mt_copy hm
  simp only [Bool.and_eq_true, beq_iff_eq] at hk
  obtain ⟨⟨rfl, hg⟩, hb⟩ := hk
  simp only [ee_var, ee_cint, ee_cstr, ee_cnone, ee_cbool, ee_gint, ee_gstr, ee_bin, ee_neg, ee_not, ee_and, ee_or, ee_cmp, ee_cmp2, ee_call, ee_bi, ee_copy, ee_isi, ee_make, ee_meth, ee_attr, ee_idx, ee_sliceTo, ee_sliceFrom, ee_tup, ee_lst, ee_sumAt, ee_rev, ee_strMul, ee_cat, ee_slen, ee_sidx, ee_sTo, ee_sFrom, ee_split, ee_join, ee_upper, ee_giveRepl, ee_strOf, ee_intOf, ee_notIn, ee_inT, ee_notInL, ee_minL, ee_shownL] at h
  refine Call_ (name_B X.fr (F.kin X.gd) (topRead_of (F.top X.gd)) (TK.boot _ (by decide)) boot_list (by decide) ?_ F.kind (Fx.glob hg) (by decide))
  refine Pv.callWith_type1 ?_ (star_cons hb) (by rfl)
  refine args_cons ?_ (star_cons hb)
  refine ha b hb s imm own ι σ ρ m _ E X hl (Post.bind h fun v σ₁ y h' tk imm' own' ι' hx X' hr h₁ => ?_)
  refine args_nil ?_
  split at h₁
  · rename_i vs hv
    split at h₁
    · rename_i hlen
      obtain ⟨l, xs, rfl, hL, rs⟩ := X'.isList hr hv
      refine list_copyK X'.fr X'.news hL (fun D n h'' F' N' hlt => ?_) (by simp only [List.size_toArray]; rw [rs.length, sizeLine_eq]; omega)
      cases own₁ with
      | false =>
        rw [if_neg (by simp)] at h₁
        exact h₁ _ h'' tk _ own' ι' (Ext.imm _) (X'.newImm F' N' hlt) (.lst (n := n) (.head _) (rs.mono (Ext.imm _)))
      | true =>
        rw [if_pos rfl] at h₁
        exact h₁ _ h'' tk imm' _ _ (Ext.own _) (X'.newList (n := n) F' N' hlt rs) X'.locNew
    · exact h₁.elim
  · exact h₁.elim

theorem sound_idx {a i : ME} (ha : SoundE c x Φ a) (hi : SoundE c x Φ i) : SoundE c x Φ (.idx a i) := by
  intro e hm s imm own ι σ ρ m Q E X hl h
  obtain ⟨l, r, p1, rfl, hk⟩ := mt_idx hm
  simp only [Bool.and_eq_true] at hk
  simp only [ee_var, ee_cint, ee_cstr, ee_cnone, ee_cbool, ee_gint, ee_gstr, ee_bin, ee_neg, ee_not, ee_and, ee_or, ee_cmp, ee_cmp2, ee_call, ee_bi, ee_copy, ee_isi, ee_make, ee_meth, ee_attr, ee_idx, ee_sliceTo, ee_sliceFrom, ee_tup, ee_lst, ee_sumAt, ee_rev, ee_strMul, ee_cat, ee_slen, ee_sidx, ee_sTo, ee_sFrom, ee_split, ee_join, ee_upper, ee_giveRepl, ee_strOf, ee_intOf, ee_notIn, ee_inT, ee_notInL, ee_minL, ee_shownL] at h
  refine Subscript_ (sound_two ha hi hk.1 hk.2 X hl h fun v w y z s imm own ι σ X hv hw h => ?_)
  obtain ⟨u, hu, hQ⟩ := Post.opt h
  clear h
  obtain ⟨vs, hs, hu2⟩ := Option.bind_eq_some_iff.mp hu
  clear hu
  obtain ⟨k, hk', hu⟩ := Option.bind_eq_some_iff.mp hu2
  clear hu2
  obtain rfl := asInt_inv hk'
  clear hk'
  · obtain ⟨t, rfl⟩ := inv_int hw
    have fin : ∀ y, Rep c.B imm ι u y → Q y s := fun y hy => Post.ok (tk := s.toks) hQ X hy
    unfold seqOf at hs
    split at hs
    · -- a tuple
      cases hs
      obtain ⟨b, xs, rfl, hT, rs⟩ := X.isTup hv
      have hlen := rs.length
      split at hu
      · split at hu
        · obtain ⟨y, hy, ry⟩ := rs.get hu
          have hlt : k.toNat < xs.length := (List.getElem?_eq_some_iff.mp hy).1
          refine item_tupleT (j := k.toNat) hT (by omega) (by omega) ?_ hy (fin y ry) (sub_plain hk.2)
          unfold seqIndex?
          have e1 : ¬ k < 0 := by omega
          simp only [e1, if_false]
          have e2 : (0 ≤ k) := by omega
          have e3 : k < (xs.length : Int) := by omega
          simp [e2, e3]
        · cases hu
      · split at hu
        · rename_i hc
          obtain ⟨y, hy, ry⟩ := rs.get hu
          have hlt := (List.getElem?_eq_some_iff.mp hy).1
          refine item_tupleT (j := (k + (vs.length : Int)).toNat) hT (by omega) (by omega) ?_ hy (fin y ry) (sub_plain hk.2)
          rw [hlen]
          exact seqIndex_neg (by omega) (by omega)
        · cases hu
    · obtain ⟨b, xs, rfl, hL, rs⟩ := X.isList hv hs
      have hlen := rs.length
      split at hu
      · split at hu
        · obtain ⟨y, hy, ry⟩ := rs.get hu
          exact tail_any hL.typeIs slot_list_getitem.lookup (wpAny_getItem_list hL (by omega) (by omega) (by simpa using hy) (fin y ry)) (sub_plain hk.2)
        · cases hu
      · split at hu
        · obtain ⟨y, hy, ry⟩ := rs.get hu
          refine tail_any hL.typeIs slot_list_getitem.lookup (wpAny_getItem_list_neg hL (by omega) ?_ (by omega) ?_ (fin y ry)) (sub_plain hk.2)
          · simp only [List.size_toArray]; omega
          · simp only [List.size_toArray, hlen, List.getElem?_toArray]; exact hy
        · cases hu

theorem pick_to {vs : List Value} {k : Int} (h : 0 ≤ k) : slicePick vs.toArray none (some k) none = (vs.take k.toNat).toArray := by
  rw [kms_pick_eq]
  unfold kms_pick
  simp only [kms_lo, kms_hi, if_neg (show ¬ k < 0 by omega), List.drop_zero, Nat.sub_zero]
  rw [kmk_take_min]
theorem pick_from {vs : List Value} {k : Int} (h : 0 ≤ k) : slicePick vs.toArray (some k) none none = (vs.drop k.toNat).toArray := by
  rw [kms_pick_eq]
  unfold kms_pick
  simp only [kms_lo, kms_hi, if_neg (show ¬ k < 0 by omega)]
  rw [kmk_drop_min, List.take_of_length_le (by rw [List.length_drop]; omega)]
section
variable {B : Bas} {imm : Led} {ι : List Addr}
theorem Reps.take : ∀ {vs : List V} {xs : List Value} (k : Nat), Reps B imm ι vs xs → Reps B imm ι (vs.take k) (xs.take k)
  | _, _, 0, _ => by simpa using Reps.nil
  | _, _, _ + 1, .nil => by simpa using Reps.nil
  | _, _, k + 1, .cons h r => by simpa using Reps.cons h (r.take k)
theorem Reps.drop : ∀ {vs : List V} {xs : List Value} (k : Nat), Reps B imm ι vs xs → Reps B imm ι (vs.drop k) (xs.drop k)
  | _, _, 0, h => by simpa using h
  | _, _, _ + 1, .nil => by simpa using Reps.nil
  | _, _, k + 1, .cons h r => by simpa using r.drop k
end

/-- the rest of a tuple -/
theorem cut_tup {l sl : Expr} {upto own₁ : Bool} {v u : V} {k : Int} {t : Tok} {y : Value} {vl vu : Value} {lo hi : Option Int} {s : Shared} {imm own : Led} {ι : List Addr} {σ : Store} {m : Str → Option Value} {Q : Value → Shared → Prop} {E : Value → Shared → Prop}
    (X : St c.Z c.B (Gnd x) x.L x.fz s.heap m imm own ι σ) (hv : Rep c.B imm ι v y) (hz : ∀ k' t', Value.int k t = .int k' t' → (upto = true → vl = .none ∧ vu = .int k' t' ∧ lo = none ∧ hi = some k') ∧ (upto = false → vl = .int k' t' ∧ vu = .none ∧ lo = some k' ∧ hi = none))
    (hs : ∀ o i, subscripted sl false o i = operate [i, o] (getItem o i)) (hc : cutT upto k v = some u) (h : Post c x m imm ι (relV c) (newL own₁ u σ) Q E s) :
    wpAny (model c.prog c.w) x.A (subscriptTail l sl y (.ref s.heap.objs.size)) Q E { s with heap := s.heap.push { cls := .type "slice", data := .fields #[vl, vu, .none] } } := by
  unfold cutT at hc
  split at hc
  · rename_i vs
    split at hc
    · rename_i q
      cases hc
      obtain ⟨rfl, h1, h2, h3⟩ := q
      obtain ⟨rfl, rfl, -, -⟩ := (hz k t rfl).2 rfl
      obtain ⟨b, xs, rfl, hT, rs⟩ := X.isTup hv
      obtain ⟨a, rfl⟩ : ∃ a : Nat, k = (a : Int) := ⟨k.toNat, by omega⟩
      have hlen := rs.length
      refine tail_any (IsTup.typeIs (s := { s with heap := s.heap.push { cls := .type "slice", data := .fields #[.int a t, .none, .none] } }) (hT.push _)) slot_tuple_getitem.lookup
        (getItem_tuple_from (hT.push _) (Heap.IsSliceOf.new ..) (by omega) (by simp only [List.size_toArray]; omega) ?_ (by simp only [List.size_toArray]; rw [rs.length, sizeLine_eq]; omega)) (hs _ _)
      have F1 := X.fr.push { cls := .type "slice", data := .fields #[.int a t, .none, .none] }
      have N1 := News.push F1 (X.news.grown fun _ _ e => Heap.get?_push_of_some _ e) { cls := .type "tuple", data := .seq (xs.drop a).toArray }
      have F2 := F1.push { cls := .type "tuple", data := .seq (xs.drop a).toArray }
      have hlt : ∀ p ∈ own ++ (imm ++ x.fz), p.1 < (s.heap.push { cls := .type "slice", data := .fields #[.int a t, .none, .none] }).objs.size := fun p hp => by
        rw [Heap.size_push]; exact Nat.lt_succ_of_lt (X.lt p hp)
      have e : newL own₁ (.tup (vs.drop a)) σ = .ok (.tup (vs.drop a)) σ := by cases own₁ <;> rfl
      rw [Int.toNat_natCast, e] at h
      exact h _ _ s.toks _ own ι (Ext.imm _) (X.newImm (o := tupObj _ 0) F2 N1 hlt) (.tup (n := 0) (.head _) ((rs.drop a).mono (Ext.imm _)))
    · cases hc
  · cases hc

/-- the part of a list, behind its bounds -/
theorem cut_tail {l sl : Expr} {upto own₁ : Bool} {v w : V} {y z : Value} {vl vu : Value} {lo hi : Option Int} {s : Shared} {imm own : Led} {ι : List Addr} {σ : Store} {m : Str → Option Value} {Q : Value → Shared → Prop} {E : Value → Shared → Prop}
    (X : St c.Z c.B (Gnd x) x.L x.fz s.heap m imm own ι σ) (hv : Rep c.B imm ι v y) (hw : Rep c.B imm ι w z) (hz : ∀ k t, z = .int k t → (upto = true → vl = .none ∧ vu = .int k t ∧ lo = none ∧ hi = some k) ∧ (upto = false → vl = .int k t ∧ vu = .none ∧ lo = some k ∧ hi = none))
    (hs : ∀ o i, subscripted sl false o i = operate [i, o] (getItem o i))
    (h : Post c x m imm ι (relV c) ((ofOpt (cutV σ upto v w) σ).bind fun v σ => newL own₁ v σ) Q E s) :
    wpAny (model c.prog c.w) x.A (subscriptTail l sl y (.ref s.heap.objs.size)) Q E { s with heap := s.heap.push { cls := .type "slice", data := .fields #[vl, vu, .none] } } := by
  cases hc : cutV σ upto v w with
  | none => rw [hc] at h; exact h.elim
  | some u =>
    rw [hc] at h
    simp only [ofOpt, R.bind] at h
    unfold cutV at hc
    split at hc
    · rename_i k
      split at hc
      · rename_i hk
        obtain ⟨t, rfl⟩ := inv_int hw
        cases hv' : Mine.listOf σ v with
        | none => rw [hv'] at hc; exact cut_tup X hv hz hs hc h
        | some vs =>
          rw [hv'] at hc
          dsimp only at hc
          split at hc
          · rename_i hlen
            cases hc
            obtain ⟨a, xs, rfl, hL, rs⟩ := X.isList hv hv'
            have hzz := hz k t rfl
            have pp : IsPart vl lo ∧ IsPart vu hi ∧ slicePick xs.toArray lo hi none = ((if upto = true then xs.take k.toNat else xs.drop k.toNat) : List Value).toArray := by
              cases upto with
              | true => obtain ⟨rfl, rfl, rfl, rfl⟩ := hzz.1 rfl; exact ⟨.none, .int _ _, pick_to hk.1⟩
              | false => obtain ⟨rfl, rfl, rfl, rfl⟩ := hzz.2 rfl; exact ⟨.int _ _, .none, pick_from hk.1⟩
            have rs' : Reps c.B imm ι (if upto = true then vs.take k.toNat else vs.drop k.toNat) (if upto = true then xs.take k.toNat else xs.drop k.toNat) := by
              cases upto with
              | true => exact rs.take _
              | false => exact rs.drop _
            refine tail_any (Heap.IsList.typeIs (s := { s with heap := s.heap.push { cls := .type "slice", data := .fields #[vl, vu, .none] } }) (hL.push _)) slot_list_getitem.lookup
              (wpAny_getItem_list_slice (hL.push _) (Heap.IsSliceOf.new ..) pp.1 pp.2.1 .none (by simp) ?_ (by simp only [List.size_toArray]; rw [rs.length, sizeLine_eq]; omega)) (hs _ _)
            rw [pp.2.2]
            have F1 := X.fr.push { cls := .type "slice", data := .fields #[vl, vu, .none] }
            have N1 := News.push F1 (X.news.grown fun _ _ e => Heap.get?_push_of_some _ e) { cls := .type "list", data := .seq ((if upto = true then xs.take k.toNat else xs.drop k.toNat) : List Value).toArray }
            have F2 := F1.push { cls := .type "list", data := .seq ((if upto = true then xs.take k.toNat else xs.drop k.toNat) : List Value).toArray }
            have hlt : ∀ p ∈ own ++ (imm ++ x.fz), p.1 < (s.heap.push { cls := .type "slice", data := .fields #[vl, vu, .none] }).objs.size := fun p hp => by
              rw [Heap.size_push]; exact Nat.lt_succ_of_lt (X.lt p hp)
            cases own₁ with
            | false => exact h _ _ s.toks _ own ι (Ext.imm _) (X.newImm (o := lstObj _ 0) F2 N1 hlt) (.lst (n := 0) (.head _) (rs'.mono (Ext.imm _)))
            | true => exact h _ _ s.toks imm _ _ (Ext.own _) (X.newList (n := 0) F2 N1 hlt rs') X.locNew
          · cases hc
      · cases hc
    · cases hc

theorem sound_sliceTo {own₁ : Bool} {a k : ME} (ha : SoundE c x Φ a) (hb : SoundE c x Φ k) : SoundE c x Φ (.sliceTo own₁ a k) := by
  intro e hm s imm own ι σ ρ m Q E X hl h
  obtain ⟨l, r, p1, p2, rfl, hk⟩ := mt_sliceTo hm
  simp only [Bool.and_eq_true] at hk
  simp only [ee_var, ee_cint, ee_cstr, ee_cnone, ee_cbool, ee_gint, ee_gstr, ee_bin, ee_neg, ee_not, ee_and, ee_or, ee_cmp, ee_cmp2, ee_call, ee_bi, ee_copy, ee_isi, ee_make, ee_meth, ee_attr, ee_idx, ee_sliceTo, ee_sliceFrom, ee_tup, ee_lst, ee_sumAt, ee_rev, ee_strMul, ee_cat, ee_slen, ee_sidx, ee_sTo, ee_sFrom, ee_split, ee_join, ee_upper, ee_giveRepl, ee_strOf, ee_intOf, ee_notIn, ee_inT, ee_notInL, ee_minL, ee_shownL] at h
  refine Subscript_ ?_
  refine ha l hk.1 s imm own ι σ ρ m _ E X hl (Post.bind h fun v σ₁ y h' tk imm' own' ι' hx X' hr h₁ => ?_)
  refine wpAny_Slice (evalPart_none_step (evalPart_some_step ?_))
  refine hb r hk.2 _ imm' own' ι' σ₁ ρ m _ E X' (hl.mono hx) (Post.bind h₁ fun w σ₂ z h'' tk' imm'' own'' ι'' hx' X'' hr' h₂ => ?_)
  refine evalPart_none_step ?_
  obtain hz | ⟨k, t, rfl⟩ : (∀ k t, z ≠ .int k t) ∨ ∃ k t, z = .int k t := by
    by_cases q : ∃ k t, z = .int k t
    · exact .inr q
    · exact .inl fun k t e => q ⟨k, t, e⟩
  · exact cut_tail (upto := true) (lo := none) (hi := none) X'' (hr.mono hx') hr' (fun k t e => absurd e (hz k t)) (fun _ _ => rfl) h₂
  · exact cut_tail (upto := true) (lo := none) (hi := some k) X'' (hr.mono hx') hr' (fun k t e => by cases e; exact ⟨fun _ => ⟨rfl, rfl, rfl, rfl⟩, fun q => by cases q⟩) (fun _ _ => rfl) h₂
theorem sound_sliceFrom {own₁ : Bool} {a k : ME} (ha : SoundE c x Φ a) (hb : SoundE c x Φ k) : SoundE c x Φ (.sliceFrom own₁ a k) := by
  intro e hm s imm own ι σ ρ m Q E X hl h
  obtain ⟨l, r, p1, p2, rfl, hk⟩ := mt_sliceFrom hm
  simp only [Bool.and_eq_true] at hk
  simp only [ee_var, ee_cint, ee_cstr, ee_cnone, ee_cbool, ee_gint, ee_gstr, ee_bin, ee_neg, ee_not, ee_and, ee_or, ee_cmp, ee_cmp2, ee_call, ee_bi, ee_copy, ee_isi, ee_make, ee_meth, ee_attr, ee_idx, ee_sliceTo, ee_sliceFrom, ee_tup, ee_lst, ee_sumAt, ee_rev, ee_strMul, ee_cat, ee_slen, ee_sidx, ee_sTo, ee_sFrom, ee_split, ee_join, ee_upper, ee_giveRepl, ee_strOf, ee_intOf, ee_notIn, ee_inT, ee_notInL, ee_minL, ee_shownL] at h
  refine Subscript_ ?_
  refine ha l hk.1 s imm own ι σ ρ m _ E X hl (Post.bind h fun v σ₁ y h' tk imm' own' ι' hx X' hr h₁ => ?_)
  refine wpAny_Slice (evalPart_some_step ?_)
  refine hb r hk.2 _ imm' own' ι' σ₁ ρ m _ E X' (hl.mono hx) (Post.bind h₁ fun w σ₂ z h'' tk' imm'' own'' ι'' hx' X'' hr' h₂ => ?_)
  refine evalPart_none_step (evalPart_none_step ?_)
  obtain hz | ⟨k, t, rfl⟩ : (∀ k t, z ≠ .int k t) ∨ ∃ k t, z = .int k t := by
    by_cases q : ∃ k t, z = .int k t
    · exact .inr q
    · exact .inl fun k t e => q ⟨k, t, e⟩
  · exact cut_tail (upto := false) (lo := none) (hi := none) X'' (hr.mono hx') hr' (fun k t e => absurd e (hz k t)) (fun _ _ => rfl) h₂
  · exact cut_tail (upto := false) (lo := some k) (hi := none) X'' (hr.mono hx') hr' (fun k t e => by cases e; exact ⟨fun q => (by cases q), fun _ => ⟨rfl, rfl, rfl, rfl⟩⟩) (fun _ _ => rfl) h₂
end
end Mine
set_option maxRecDepth 100000
set_option linter.unusedVariables false
namespace Mine
open PySem PySem.W PyProof.Rows PySem.Calls PySem.Spec Builtin Builtin.ObjectAttr Builtin.Getset_descriptor

section
variable {prog : Program} {w : World} {A : Around} {E : Value → Shared → Prop} {s : Shared} {K : Frag} {a C : Addr} {R : Result → Shared → Prop}
/-- the class of an object that is known by its type alone -/
theorem exc_get {tp : Value} (X : K.In s.heap) (L0 : Looks (model prog w) s.heap (typeOf (.ref a)) (.ref C)) (hm : mroIn K C (.type "object") = some true) (h : R (.ok (.ret (.ref C))) s) :
    codeAny (model prog w) A (.call (.builtin "getset_descriptor.__get__") ⟨[.builtin "object.__class__", .ref a, tp], []⟩) R s := by
  obtain ⟨hh, g, dr, t, os⟩ := s
  have L1 := looks_mroIn (M := model prog w) X hm
  refine codeAny_call_builtin KF.slot_gs.plain KF.entry_gs (KF.slot_gs.check _ _ _ _ _ _ _ _ KF.type_class (KF.args_gs _ _ _) ?_)
  unfold Builtin.«getset_descriptor.__get__» descrGet
  rw [dga_obj]
  refine wpAny_bind (wpAny_pure ?_)
  unfold descrGetter descrCheckInstance descrNameAndClass isInstance
  simp only [KF.owner_class]
  repeat lk
  refine ⟨Code.quiet_builtin _ (by decide +kernel), codeAny_builtin KF.entry_class ?_⟩
  unfold Builtin.«object.__class__» shownTypeOf
  repeat lk
  exact h
theorem find_data {M : Model} {h : Heap} {name : Str} {x g : Value} (X : K.In h) (ha : findIn K (.ref C) name = some (some x)) (hg : specialIn K x "__get__" = some (some g)) (ht : takesIn K x = some true) : Looks M h (Builtin.ObjectAttr.find (.ref a) (.ref C) name) (.bind g x) :=
  (looks_findIn X ha).andThen ((looks_specialIn X hg).andThen ((show Looks M h (dataDescriptor? (some x) (some g)) (some (g, x)) from (looks_takesIn X ht).andThen .now).andThen (Looks.tag .now)))
theorem chk_ga {M : Model} {nameV : Value} {Q : Unit → Shared → Prop} (X : K.In s.heap) (L0 : Looks M s.heap (typeOf (.ref a)) (.ref C)) (hb : mroIn K C (.type "BaseException") = some true)
    (hq : Q () s) : wpAny M A (checkBuiltinCall "BaseException.__getattribute__" ⟨[.ref a, nameV], []⟩) Q E s := by
  obtain ⟨hh, g, d, t, os⟩ := s
  have hk : builtinKind "BaseException.__getattribute__" = some .slot := by decide +kernel
  have hsplit : splitId "BaseException.__getattribute__" = some ("BaseException", "__getattribute__") := by decide +kernel
  have L1 := looks_mroIn (M := M) X hb
  have ha := F.args_bexc_ga (.ref a) nameV
  simp only [checkBuiltinCall, hk, hsplit]
  refine wpAny_bind ?_
  unfold isInstance
  repeat lk
  repeat (first | assumption | wp_step)
  all_goals exact hq
theorem exc_class {Q : Option Value → Shared → Prop} (X : K.In s.heap) (L0 : Looks (model prog w) s.heap (typeOf (.ref a)) (.ref C)) (hg : xget K C = true) (ha : findIn K (.ref C) "__class__" = some (some (.builtin "object.__class__")))
    (hn : specialIn K (.builtin "object.__class__") "__get__" = some (some (.builtin "getset_descriptor.__get__"))) (htk : takesIn K (.builtin "object.__class__") = some true) (hm : mroIn K C (.type "object") = some true)
    (h : Q (some (.ref C)) { s with toks := s.toks + 1 }) : wpAny (model prog w) A (getAttr? (.ref a) "__class__") Q E s := by
  obtain ⟨hh, g, d, t, os⟩ := s
  have L1 := looks_findIn (M := model prog w) X (of_decide_eq_true (and_inv hg).1)
  have L2 := find_data (M := model prog w) (a := a) X ha hn htk
  have L3 := looks_findIn (M := model prog w) X (of_decide_eq_true (and_inv (and_inv hg).2).1)
  have hx2 : (Value.builtin "BaseException.__getattribute__" == Value.builtin "object.__getattribute__") = false := by decide +kernel
  have hx1 : (onTheHeap (Value.ref C) && Value.builtin "BaseException.__getattribute__" == Value.builtin "object.__getattribute__") = false := by rw [hx2]; rfl
  unfold getAttr? getAttrBy? getAttrBy
  refine wpAny_bind (wpAny_mkText (wpAny_bind (wpAny_attempt (wpAny_holding (wpAny_bind (L0.at (wpAny_bind (L1.at ?_))))))))
  dsimp only
  rw [hx1, if_neg Bool.false_ne_true]
  unfold getAttrByItsOwn
  refine wpAny_bind ?_
  show wpAny _ _ (typeLookup (.ref C) "__getattr__") _ _ _
  refine L3.at (wpAny_bind (wpAny_attempt (wpAny_holding ?_)))
  show wpAny _ _ (boundAndCalled _ _ _) _ _ _
  unfold boundAndCalled
  refine wpAny_bind ?_
  rw [F.excAttr_ValueError.ga.bind (.ref a)]
  refine wpAny_pure ?_
  refine wpAny_call (codeAny_call_builtin F.excAttr_ValueError.ga.plain F.entry_bexc_ga (chk_ga (s := ⟨hh, g, d, t + 1, os⟩) X L0 (of_decide_eq_true (and_inv (and_inv hg).2).2) ?_))
  unfold Builtin.«object.__getattribute__»
  refine wpAny_bind (wpAny_pure (wpAny_bind (wpAny_pure (wpAny_bind (L0.at (wpAny_bind (L2.at ?_)))))))
  show wpAny _ _ (call _ [_, .ref a, .ref C] >>= ret) _ _ _
  refine wpAny_bind (wpAny_call (exc_get (s := ⟨hh, g, d, t + 1, os⟩) X L0 hm ?_))
  refine wpAny_pure ?_
  refine wpAny_pure ?_
  exact wpAny_pure h
theorem kitx_exc (hcl : (clsIn K C).isSome = true) (hg : xget K C = true) (ha : findIn K (.ref C) "__class__" = some (some (.builtin "object.__class__")))
    (hn : specialIn K (.builtin "object.__class__") "__get__" = some (some (.builtin "getset_descriptor.__get__"))) (htk : takesIn K (.builtin "object.__class__") = some true) (hm : mroIn K C (.type "object") = some true) :
    KitX K (.ref a) (.ref C) (fun h => ∃ o, h.get? a = some o ∧ o.cls = .ref C) where
  ty := fun _ _ _ ⟨o, ho, hc⟩ => hc ▸ (Looks.ld ho).andThen .now
  it := fun _ _ X _ => by
    obtain ⟨cdD, hcD⟩ := Option.isSome_iff_exists.mp hcl
    unfold clsIn at hcD
    split at hcD
    · rename_i c' d' cd' sl' ho
      intro A' Q' E' s' k q
      unfold isType loadHead
      exact wpAny_bind (wpAny_loadPart (k _ _ (X _ _ ho)) (wpAny_pure q))
    · cases hcD
  ne := fun h tp dd its n sl X htp => by
    obtain ⟨cdD, hcD⟩ := Option.isSome_iff_exists.mp hcl
    refine Bool.eq_false_iff.mpr fun q => ?_
    have e : C = tp := Value.ref.inj (beq_iff_eq.mp q)
    subst e
    unfold clsIn at hcD
    split at hcD
    · rename_i c' d' cd' sl' ho
      have z := (X _ _ ho).symm.trans htp
      cases z
    · cases hcD
  ca := fun X ⟨o, ho, hc⟩ k => exc_class X (hc ▸ (Looks.ld ho).andThen .now) hg ha hn htk hm k
end
section
variable {c : Cx} {P : Prog}
theorem ExcAt.kitx {k : Nat} {y : Str} {C a : Addr} (E : ExcAt c k y C) : KitX c.K (.ref a) (.ref C) (fun h => ∃ o, h.get? a = some o ∧ o.cls = .ref C) := kitx_exc E.cls E.plain E.fc E.sp E.tk E.mro
theorem TopOk.exAt (TK : TopOk c P) {k : Nat} {C : Addr} (h : c.B.xs[k]? = some C) : ∃ y, c.T.xs[k]? = some (y, C) := by
  rw [TK.xs, List.getElem?_map, Option.map_eq_some_iff] at h
  obtain ⟨q, h1, h2⟩ := h
  exact ⟨q.1, by rw [h1, ← h2]⟩
theorem nmX_inv {T : Tops} {k : Nat} {y : Str} (h : nmX T k y = true) : ∃ C, T.xs[k]? = some (y, C) := by
  obtain ⟨q, h1, h2⟩ := any_inv h
  obtain ⟨a, b⟩ := q
  cases beq_iff_eq.mp h2
  exact ⟨b, h1⟩
end
end Mine
set_option maxRecDepth 100000
set_option linter.unusedVariables false
namespace Mine
open PySem PySem.W PyProof.Rows PySem.Calls
section
variable {c : Cx} {x : Fx} {d : Nat} {Φ : Fns} {P : Prog}

theorem ints_are {B : Bas} {imm : Led} {ι : List Addr} : ∀ {vs : List V} {ys : List Value} {ns : List Int}, Reps B imm ι vs ys → intsOf vs = some ns → IntsAre ys ns
  | _, _, _, .nil, h => by simp [intsOf] at h; subst h; exact IntsAre.nil
  | v :: vs, _, _, .cons hv r, h => by
    cases v with
    | int i =>
      simp only [intsOf, Option.map_eq_some_iff] at h
      obtain ⟨l, hl, rfl⟩ := h
      obtain ⟨t, rfl⟩ := inv_int hv
      exact IntsAre.cons _ _ (ints_are r hl)
    | _ => simp [intsOf] at h
theorem are_ints {B : Bas} {imm : Led} {ι : List Addr} : ∀ {ys : List Value} {ns : List Int}, IntsAre ys ns → Reps B imm ι (ns.map .int) ys
  | _, _, .nil => .nil
  | _, _, .cons _ _ r => .cons (.int _ _) (are_ints r)

theorem insertI_perm (a : Int) : ∀ l : List Int, (insertI a l).Perm (a :: l)
  | [] => .refl _
  | b :: r => by
    unfold insertI
    split
    · exact .refl _
    · exact ((insertI_perm a r).cons b).trans (.swap a b r)
theorem sortI_perm : ∀ l : List Int, (sortI l).Perm l
  | [] => .refl _
  | a :: r => (insertI_perm a (sortI r)).trans ((sortI_perm r).cons a)
theorem insertI_sorted (a : Int) : ∀ {l : List Int}, l.Pairwise (· ≤ ·) → (insertI a l).Pairwise (· ≤ ·)
  | [], _ => by simp [insertI]
  | b :: r, h => by
    unfold insertI
    split
    · rename_i hab
      refine List.pairwise_cons.mpr ⟨fun z hz => ?_, h⟩
      rcases List.mem_cons.mp hz with rfl | hz
      · exact hab
      · exact Int.le_trans hab ((List.pairwise_cons.mp h).1 z hz)
    · rename_i hab
      refine List.pairwise_cons.mpr ⟨fun z hz => ?_, insertI_sorted a (List.pairwise_cons.mp h).2⟩
      rcases List.mem_cons.mp ((insertI_perm a r).mem_iff.mp hz) with rfl | hz
      · omega
      · exact (List.pairwise_cons.mp h).1 z hz
theorem sortI_sorted : ∀ l : List Int, (sortI l).Pairwise (· ≤ ·)
  | [] => by simp [sortI]
  | a :: r => insertI_sorted a (sortI_sorted r)
theorem sorted_unique : ∀ {l l' : List Int}, l.Perm l' → l.Pairwise (· ≤ ·) → l'.Pairwise (· ≤ ·) → l = l'
  | [], l', h, _, _ => by rw [h.nil_eq]
  | a :: r, [], h, _, _ => by simpa using h.length_eq
  | a :: r, b :: s, h, h1, h2 => by
    have ab : a = b := by
      have m1 : a ∈ b :: s := h.mem_iff.mp (.head _)
      have m2 : b ∈ a :: r := h.mem_iff.mpr (.head _)
      rcases List.mem_cons.mp m1 with e | m1
      · exact e
      · rcases List.mem_cons.mp m2 with e | m2
        · exact e.symm
        · have := (List.pairwise_cons.mp h1).1 b m2
          have := (List.pairwise_cons.mp h2).1 a m1
          omega
    subst ab
    rw [sorted_unique (List.Perm.cons_inv h) (List.pairwise_cons.mp h1).2 (List.pairwise_cons.mp h2).2]

theorem sound_bi (F : Frm c x d) (TK : TopOk c P) {b : BI} {args : List ME} (hq : b = .max2 ∨ b = .min2 → x.quiet = false) (ha : SoundEs c x Φ args) : SoundE c x Φ (.bi b args) := by
  intro e hm s imm own ι σ ρ m Q E X hl h
  obtain ⟨y, p1, es, p2, rfl, hk⟩ := mt_bi hm
  simp only [Bool.and_eq_true, beq_iff_eq] at hk
  obtain ⟨⟨⟨rfl, hg⟩, hs⟩, hne⟩ := hk
  simp only [ee_var, ee_cint, ee_cstr, ee_cnone, ee_cbool, ee_gint, ee_gstr, ee_bin, ee_neg, ee_not, ee_and, ee_or, ee_cmp, ee_cmp2, ee_call, ee_bi, ee_copy, ee_isi, ee_make, ee_meth, ee_attr, ee_idx, ee_sliceTo, ee_sliceFrom, ee_tup, ee_lst, ee_sumAt, ee_rev, ee_strMul, ee_cat, ee_slen, ee_sidx, ee_sTo, ee_sFrom, ee_split, ee_join, ee_upper, ee_giveRepl, ee_strOf, ee_intOf, ee_notIn, ee_inT, ee_notInL, ee_minL, ee_shownL] at h
  cases args with
  | nil => simp at hne
  | cons a args =>
  cases es with
  | nil => (first | cases mts_n hs | cases mts_n hs.2 | (exact Bool.noConfusion (show false = true from hs)) | exact Bool.noConfusion (show false = true from hs.2))
  | cons e es =>
  have hs' := hs
  simp only [mts, List.head?_cons, Option.any_some, List.tail_cons, Bool.and_eq_true] at hs
  have go : ∀ id : String, bootBuiltins b.name = some (.builtin id) → b.name ∈ (["len", "max", "min", "sorted", "sum", "int", "str", "list", "range", "isinstance", "bool", "tuple", "ValueError"] : List Str) → b.name ≠ "__name__" → (b.name == ("__debug__" : Str)) = false →
      (∀ vs ys (s : Shared) imm own ι σ v, St c.Z c.B (Gnd x) x.L x.fz s.heap m imm own ι σ → Reps c.B imm ι vs ys → biV σ b vs = some v → Post c x m imm ι (relV c) (.ok v σ) Q E s → wpAny (model c.prog c.w) x.A (call (.builtin id) ys) Q E s) →
      wpAny (model c.prog c.w) x.A (eval (.Call (.Name b.name p1) (e :: es) [] p2) x.env) Q E s := by
    intro id hb hin hn hd k
    refine Call_ (name_B X.fr (F.kin X.gd) (topRead_of (F.top X.gd)) (TK.boot _ hin) hb hn ?_ F.kind (Fx.glob hg) hd)
    refine callWith_builtin1 ?_ (star_cons hs.1) (star_none hs.2)
    refine ha (e :: es) p2 hs' s imm own ι σ ρ m _ E X hl (Post.bind h fun vs σ₁ ys h' tk imm' own' ι' hx X' hr h₁ => ?_)
    obtain ⟨v, hv, h₂⟩ := Post.opt h₁
    exact k vs ys _ imm' own' ι' σ₁ v X' hr hv h₂
  cases b with
  | len =>
    refine go "len" boot_len (by decide) (by decide) (by decide) fun vs ys s imm own ι σ v X hr hv h => ?_
    obtain ⟨w, rfl, hv⟩ := bi1_inv hv
    cases hr with
    | cons hw hr =>
    cases hr
    obtain ⟨l, hl', hv⟩ := Option.bind_eq_some_iff.mp hv
    split at hv
    · rename_i hlen
      cases hv
      unfold seqOf at hl'
      split at hl'
      · cases hl'
        obtain ⟨a, xs, rfl, hT, rs⟩ := X.isTup hw
        refine len_tuple hT (by simp only [List.size_toArray]; rw [rs.length]; omega) ?_
        have := Post.ok h (tk := s.toks + 1 + 1) X (.int _ (s.toks + 1))
        simpa [rs.length] using this
      · obtain ⟨a, xs, rfl, hL, rs⟩ := X.isList hw hl'
        refine len_list hL (by simp only [List.size_toArray]; rw [rs.length]; omega) ?_
        have := Post.ok h (tk := s.toks + 1 + 1) X (.int _ (s.toks + 1))
        simpa [rs.length] using this
    · cases hv
  | max2 =>
    refine go "max" boot_max (by decide) (by decide) (by decide) fun vs ys s imm own ι σ v X hr hv h => ?_
    obtain ⟨a, b, rfl, rfl⟩ := bi2_inv hv
    cases hr with
    | cons h1 hr =>
    cases hr with
    | cons h2 hr =>
    cases hr
    obtain ⟨t, rfl⟩ := inv_int h1
    obtain ⟨u, rfl⟩ := inv_int h2
    exact max_two_N (F.calm (hq (.inl rfl))) X.fr X.news fun h' tk F' N' => h _ h' tk imm own ι Ext.refl (X.keep F' N') (.int _ _)
  | min2 =>
    refine go "min" boot_min (by decide) (by decide) (by decide) fun vs ys s imm own ι σ v X hr hv h => ?_
    obtain ⟨a, b, rfl, rfl⟩ := bi2_inv hv
    cases hr with
    | cons h1 hr =>
    cases hr with
    | cons h2 hr =>
    cases hr
    obtain ⟨t, rfl⟩ := inv_int h1
    obtain ⟨u, rfl⟩ := inv_int h2
    exact min_two_N (F.calm (hq (.inr rfl))) X.fr X.news fun h' tk F' N' => h _ h' tk imm own ι Ext.refl (X.keep F' N') (.int _ _)
  | sorted =>
    refine go "sorted" boot_sorted (by decide) (by decide) (by decide) fun vs ys s imm own ι σ v X hr hv h => ?_
    obtain ⟨w, rfl, hv⟩ := bi1_inv hv
    cases hr with
    | cons hw hr =>
    cases hr
    obtain ⟨l, hl', hv⟩ := Option.bind_eq_some_iff.mp hv
    obtain ⟨us, hus, hl'⟩ := Option.bind_eq_some_iff.mp hl'
    split at hv
    · rename_i hlen
      cases hv
      obtain ⟨a, xs, rfl, hL, rs⟩ := X.isList hw hus
      have hI := ints_are rs hl'
      refine sorted_N X.fr X.news hL hI (by rw [hI.length]; exact hlen) fun h' vs' ns' n F' N' hI' hp hsrt => ?_
      have e : ns' = sortI l := sorted_unique (hp.trans (sortI_perm l).symm) hsrt (sortI_sorted l)
      subst e
      exact h _ h' s.toks _ own ι (Ext.imm _) (X.newImm F' N' fun p hp => Nat.lt_succ_of_lt (X.lt p hp)) (.lst (.head _) (are_ints hI'))
    · cases hv
  | int =>
    refine Call_ (name_B X.fr (F.kin X.gd) (topRead_of (F.top X.gd)) (TK.boot _ (by decide)) boot_int (by decide) ?_ F.kind (Fx.glob hg) (by decide))
    refine Pv.callWith_type1 ?_ (star_cons hs.1) (star_none hs.2)
    refine ha (e :: es) p2 hs' s imm own ι σ ρ m _ E X hl (Post.bind h fun vs σ₁ ys h' tk imm' own' ι' hx X' hr h₁ => ?_)
    obtain ⟨v, hv, h₂⟩ := Post.opt h₁
    obtain ⟨w, rfl, hv2⟩ := bi1_inv hv
    clear hv
    cases hr with
    | cons hw hr =>
    cases hr
    obtain ⟨b, rfl, rfl⟩ := intOf_inv hv2
    obtain rfl := inv_bool hw
    exact call_int_bool (Post.ok h₂ X' (.int _ _))

theorem sound_isi (F : Frm c x d) (TK : TopOk c P) {a : ME} {t : TY} (ha : SoundE c x Φ a) : SoundE c x Φ (.isi a t) := by
  intro e hm s imm own ι σ ρ m Q E X hl h
  obtain ⟨y, p1, b, z, p2, p3, rfl, hk⟩ := mt_isi hm
  simp only [Bool.and_eq_true, beq_iff_eq, bne_iff_ne, ne_eq] at hk
  obtain ⟨⟨⟨⟨⟨⟨rfl, hg⟩, hgz⟩, rfl⟩, hd⟩, hb⟩, hok⟩ := hk
  simp only [ee_var, ee_cint, ee_cstr, ee_cnone, ee_cbool, ee_gint, ee_gstr, ee_bin, ee_neg, ee_not, ee_and, ee_or, ee_cmp, ee_cmp2, ee_call, ee_bi, ee_copy, ee_isi, ee_make, ee_meth, ee_attr, ee_idx, ee_sliceTo, ee_sliceFrom, ee_tup, ee_lst, ee_sumAt, ee_rev, ee_strMul, ee_cat, ee_slen, ee_sidx, ee_sTo, ee_sFrom, ee_split, ee_join, ee_upper, ee_giveRepl, ee_strOf, ee_intOf, ee_notIn, ee_inT, ee_notInL, ee_minL, ee_shownL] at h
  refine Call_ (name_B X.fr (F.kin X.gd) (topRead_of (F.top X.gd)) (TK.boot _ (by decide)) boot_isinstance (by decide) ?_ F.kind (Fx.glob hg) (by decide))
  refine callWith_builtin1 ?_ (star_cons hb) (by rfl)
  refine args_cons ?_ (star_cons hb)
  refine ha b hb s imm own ι σ ρ m _ E X hl (Post.bind h fun v σ₁ y h' tk imm' own' ι' hx X' hr h₁ => ?_)
  obtain ⟨u, hu, h₂⟩ := Post.opt h₁
  obtain ⟨r, hr2, rfl⟩ := Option.map_eq_some_iff.mp hu
  have fin : ∀ tk', Q (.bool r) { s with heap := h', toks := tk' } := fun tk' => Post.ok h₂ X' (.bool r)
  refine args_cons ?_ rfl
  have nm : ∀ T : String, bootBuiltins t.name = some (.type T) → t.name ∈ (["len", "max", "min", "sorted", "sum", "int", "str", "list", "range", "isinstance", "bool", "tuple", "ValueError"] : List Str) → t.name ≠ "__name__" →
      wpAny (model c.prog c.w) x.A (call (.builtin "isinstance") [y, .type T]) Q E { s with heap := h', toks := tk } →
      wpAny (model c.prog c.w) x.A (eval (.Name t.name p2) x.env) (fun v s₁ => wpAny (model c.prog c.w) x.A (spliced (backTo p3 (starEach [] x.env))) (fun vs s₂ => wpAny (model c.prog c.w) x.A (call (.builtin "isinstance") (y :: v :: vs)) Q E s₂) E s₁) E { s with heap := h', toks := tk } := by
    intro T hT hin hn k
    exact name_B X'.fr (F.kin X'.gd) (topRead_of (F.top X'.gd)) (TK.boot _ hin) hT hn (args_nil k) F.kind (Fx.glob hgz) (by simpa using hd)
  cases t with
  | int =>
    cases v with
    | int i => cases hr2; obtain ⟨tt, rfl⟩ := inv_int hr; exact nm "int" boot_int (by decide) (by decide) (call_isinstance_yes (typeIs_int _ _ _) meta_int PyProof.Rows.sub_int_int (fin tk))
    | bool i => cases hr2; obtain rfl := inv_bool hr; exact nm "int" boot_int (by decide) (by decide) (call_isinstance_yes (PySem.typeIs_bool _ _) meta_int PyProof.Rows.sub_bool_int (fin tk))
    | _ => cases hr2
  | bool =>
    cases v with
    | int i => cases hr2; obtain ⟨tt, rfl⟩ := inv_int hr; exact nm "bool" boot_bool (by decide) (by decide) (call_isinstance (isinstance_false_int (by decide) meta_bool PyProof.Rows.sub_int_bool) (fin _))
    | bool i => cases hr2; obtain rfl := inv_bool hr; exact nm "bool" boot_bool (by decide) (by decide) (call_isinstance_yes (PySem.typeIs_bool _ _) meta_bool PyProof.Rows.sub_bool_bool (fin tk))
    | _ => cases hr2
  | tuple =>
    obtain ⟨⟨vs, rfl⟩, rfl⟩ := isT_inv hr2
    obtain ⟨a, xs, rfl, hT, _⟩ := X'.isTup hr
    exact nm "tuple" boot_tuple (by decide) (by decide) (call_isinstance_yes hT.typeIs meta_tuple PyProof.Rows.sub_tuple_tuple (fin tk))
  | list =>
    obtain ⟨vs, hvs, rfl⟩ := Option.map_eq_some_iff.mp hr2
    obtain ⟨a, xs, rfl, hT, _⟩ := X'.isList hr hvs
    exact nm "list" boot_list (by decide) (by decide) (call_isinstance_yes hT.typeIs meta_list PyProof.Rows.sub_list_list (fin tk))
  | str =>
    obtain ⟨⟨st, rfl⟩, rfl⟩ := isS_inv hr2
    obtain ⟨tt, rfl⟩ := inv_str hr
    exact nm "str" boot_str (by decide) (by decide) (call_isinstance_yes (typeIs_str _ _ _) meta_str PyProof.Rows.sub_str_str (fin tk))
  | exc y' j =>
    obtain ⟨k, hk, rfl⟩ := Option.map_eq_some_iff.mp hr2
    obtain rfl := asX_inv hk
    cases hr with
    | exc hm hC hc =>
      obtain ⟨D, hD⟩ := nmX_inv (show nmX c.T j y' = true from hok)
      obtain ⟨y₁, hC₁⟩ := TK.exAt hC
      have EX := TK.exc k _ _ hC₁
      refine name_K X'.fr (F.kin X'.gd) (topRead_of (F.top X'.gd)) (TK.exc j _ D hD).ns (args_nil ?_) F.kind (Fx.glob hgz) (by simpa using hd)
      exact kia_one EX.kitx ((F.kin X'.gd).keeps X'.fr.keep) ⟨_, X'.getImm hm, hc⟩ (EX.sub j _ D hD).2 (by intro q; cases q) fun tk' => fin tk'
  | verr =>
    obtain ⟨k, hk, rfl⟩ := Option.map_eq_some_iff.mp hr2
    obtain rfl := asX_inv hk
    cases hr with
    | exc hm hC hc =>
      obtain ⟨y₁, hC₁⟩ := TK.exAt hC
      have EX := TK.exc k _ _ hC₁
      refine nm "ValueError" (by decide +kernel) (by decide) (by decide) ?_
      exact kia_one EX.kitx ((F.kin X'.gd).keeps X'.fr.keep) ⟨_, X'.getImm hm, hc⟩ EX.verr (by intro q; cases q) fun tk' => fin tk'

theorem FRep.get {Z : Nms} {B : Bas} {imm : Led} {ι : List Addr} {k : Nat} {v : V} {y : Str} (hy : Z.attrs[k]? = some y) : ∀ {fs : List (Nat × V)} {es : List DictEntry}, FRep Z B imm ι fs es → fieldOf k fs = some v → ∃ z, getL y es = some (some z) ∧ Rep B imm ι v z
  | _, _, .nil, h => by simp [fieldOf] at h
  | _, _, .cons (k := k') (x := y') (y := z) (t := t) hk hv r, h => by
    unfold fieldOf at h
    split at h
    · rename_i e
      subst e
      cases h
      rw [hk] at hy; cases hy
      exact ⟨z, by simp [getL, Value.isStr], hv⟩
    · rename_i e
      obtain ⟨z', h1, h2⟩ := r.get hy h
      refine ⟨z', ?_, h2⟩
      have hne : (y' == y) = false := by
        rw [beq_eq_false_iff_ne]
        rintro rfl
        exact e (nodup_at Z.nd hy hk)
      have hk2 : (Value.str y' t).isStr y = false := hne
      unfold getL at h1 ⊢
      simp only [List.find?_cons, hk2]
      split at h1
      · rename_i en hen
        rw [hen]
        exact h1
      · rename_i hen
        rw [hen]
        simp only
        split at h1
        · cases h1
        · cases h1
theorem FRep.getNone {Z : Nms} {B : Bas} {imm : Led} {ι : List Addr} {y : Str} (hy : y ∉ Z.attrs) : ∀ {fs : List (Nat × V)} {es : List DictEntry}, FRep Z B imm ι fs es → getL y es = some none
  | _, _, .nil => by simp [getL]
  | _, _, .cons (k := k') (x := y') (y := z) (t := t) hk hv r => by
    have h1 := r.getNone hy
    have hne : (y' == y) = false := by
      rw [beq_eq_false_iff_ne]
      rintro rfl
      exact hy (List.mem_of_getElem? hk)
    have hk2 : (Value.str y' t).isStr y = false := hne
    unfold getL at h1 ⊢
    simp only [List.find?_cons, hk2]
    split at h1
    · cases h1
    · rename_i hen
      rw [hen]
      simp only
      split at h1
      · cases h1
      · rename_i hn
        rw [if_neg]
        simpa [DictEntry.refKey] using hn
theorem FRep.getSome {Z : Nms} {B : Bas} {imm : Led} {ι : List Addr} {y : Str} : ∀ {fs : List (Nat × V)} {es : List DictEntry}, FRep Z B imm ι fs es → (getL y es).isSome = true
  | _, _, .nil => by simp [getL]
  | _, _, .cons (k := k') (x := y') (y := z) (t := t) hk hv r => by
    have h1 := r.getSome (y := y)
    unfold getL at h1 ⊢
    simp only [List.find?_cons]
    cases (Value.str y' t).isStr y with
    | true => simp
    | false =>
      simp only
      split at h1
      · simp
      · split at h1
        · cases h1
        · rename_i hn
          rw [if_neg]
          · simp
          · simpa [DictEntry.refKey] using hn
theorem FRep.put {Z : Nms} {B : Bas} {imm : Led} {ι : List Addr} {k : Nat} {v : V} {y : Str} {z : Value} {hsh : Int} {t : Tok} (hy : Z.attrs[k]? = some y) (hv : Rep B imm ι v z) : ∀ {fs : List (Nat × V)} {es : List DictEntry}, FRep Z B imm ι fs es →
    FRep Z B imm ι (putField k v fs) (putL y hsh (.str y t) z es)
  | _, _, .nil => .cons hy hv .nil
  | _, _, .cons (k := k') (x := y') (t := t') hk hw r => by
    unfold putField putL
    by_cases e : k = k'
    · subst e
      rw [hk] at hy; cases hy
      simp only [if_true, Value.isStr, beq_self_eq_true]
      exact .cons hk hv r
    · have hne : (y' == y) = false := by
        rw [beq_eq_false_iff_ne]
        rintro rfl
        exact e (nodup_at Z.nd hy hk)
      simp only [if_neg e, Value.isStr, hne, Bool.false_eq_true, if_false]
      exact .cons hk hw (r.put hy hv)
theorem FRep.length {Z : Nms} {B : Bas} {imm : Led} {ι : List Addr} : ∀ {fs : List (Nat × V)} {es : List DictEntry}, FRep Z B imm ι fs es → es.length = fs.length
  | _, _, .nil => rfl
  | _, _, .cons _ _ r => by rw [List.length_cons, List.length_cons, r.length]
theorem putField_len (k : Nat) (v : V) : ∀ fs : List (Nat × V), (putField k v fs).length ≤ fs.length + 1
  | [] => by simp [putField]
  | (k', w) :: r => by
    unfold putField
    split
    · simp
    · have := putField_len k v r
      simp; omega

/-- an instance at hand -/
theorem St.instAt {Z : Nms} {B : Bas} {h₀ : Heap → Prop} {L : Addr} {fz : Led} {h : Heap} {m : Str → Option Value} {imm own : Led} {ι : List Addr} {σ : Store} (X : St Z B h₀ L fz h m imm own ι σ) {i k : Nat} {y : Value} {fs : List (Nat × V)} (hr : Rep B imm ι (.loc i) y) (hs : σ[i]? = some (.inst k fs)) :
    ∃ a dx C f es n, y = .ref a ∧ Z.classes[k]? = some (C, f) ∧ FRep Z B imm ι fs es ∧ PySem.W.InstAt h a (instObj C dx) C (some (dictOf es n)) := by
  cases hr with
  | loc hi =>
    obtain ⟨a, dx, C, f, es, n, pre, post, h1, h2, h3, h4, _⟩ := X.owned.instAt hs
    have e := Option.some.inj (h1.symm.trans hi)
    subst e
    refine ⟨_, dx, C, f, es, n, rfl, h3, h4, PySem.W.InstAt.of_news (L := L) X.news ?_ ?_⟩
    · exact List.mem_append_left _ (by rw [h2]; simp)
    · exact List.mem_append_left _ (by rw [h2]; simp)

theorem mts_nil {T : Tops} {G : Str → Bool} {S : List Str} {M : Nat → Option Str} {args : List ME} (h : mts T G S M args [] = true) (h' : (!args.isEmpty) = true) : False := by
  cases args with
  | nil => simp at h'
  | cons a r => exact Bool.noConfusion (show false = true from h)
theorem base_plain {T : Tops} {G : Str → Bool} {S : List Str} {M : Nat → Option Str} {me : ME} {o : Expr} {attr : Str} {env : Env} {whole : Sem Value} (h : mt T G S M me o = true) : attributeBase o attr env whole = whole := by
  have k : ∀ id p pos, o ≠ .Call (.Name id p) [] [] pos := by
    rintro id p pos rfl
    cases me with
    | call f args => obtain ⟨_, _, _, _, e, hk⟩ := mt_call h; cases e; simp only [Bool.and_eq_true] at hk; exact mts_nil hk.1.2 hk.2
    | bi b args => obtain ⟨_, _, _, _, e, hk⟩ := mt_bi h; cases e; simp only [Bool.and_eq_true] at hk; exact mts_nil hk.1.2 hk.2
    | make c args => obtain ⟨_, _, _, _, e, hk⟩ := mt_make h; cases e; simp only [Bool.and_eq_true] at hk; exact mts_nil hk.1.2 hk.2
    | _ => exact Bool.noConfusion (show false = true from h)
  unfold attributeBase
  split
  · exact absurd rfl (k _ _ _)
  · rfl
theorem form_ok {T : Tops} {G : Str → Bool} {S : List Str} {M : Nat → Option Str} {mes : List ME} {es : List Expr} {pos : Pos} {env : Env} {n : Nat} (h : mts T G S M mes es = true) (hn : n < 20) : methodCallForm n (backTo pos (starEach es env)) [] = true := by
  have := star_none (pos := pos) (env := env) h
  unfold methodCallForm
  simp only [List.all_nil, Bool.and_true, List.isEmpty_nil, if_true, Bool.and_eq_true, decide_eq_true_eq]
  refine ⟨?_, by omega⟩
  rw [List.any_eq_false] at this
  rw [List.all_eq_true]
  intro y hy
  have := this y hy
  simpa using this
theorem MCall {M : Model} {A : Around} {E : Value → Shared → Prop} {s : Shared} {env : Env} {o : Expr} {name : Str} {apos pos : Pos} {args : List Expr} {Q : Value → Shared → Prop} (hb : ∀ w, attributeBase o name env w = w)
    (hf : methodCallForm args.length (backTo pos (starEach args env)) [] = true) (hp : apos.endLine = pos.line)
    (h : wpAny M A (eval o env) (fun ov s₁ => wpAny M A (getMethod ov name (do return (← importBound o env).getD true)) (fun fx s₂ => wpAny M A (callWith pos fx.1 fx.2 (backTo pos (starEach args env)) []) Q E s₂) E s₁) E s) :
    wpAny M A (eval (.Call (.Attribute o name apos) args [] pos) env) Q E s := by
  show wpAny M A (do
    let ov ← attributeBase o name env (eval o env)
    standAt apos.atName
    methodCall o name apos pos env ov (args.length + 0) (backTo pos (starEach args env)) []) Q E s
  rw [hb]
  refine wpAny_bind (wpAny_mono h (fun ov s₁ h₁ => wpAny_bind (wpAny_standAt ?_)) fun _ _ x => x)
  unfold methodCall
  simp only [Nat.add_zero]
  rw [hf]
  unfold calleeOf methodCallPos
  simp only [if_true]
  refine wpAny_bind (wpAny_holding (wpAny_mono h₁ (fun fx s₂ h₂ => ?_) fun _ _ x => x))
  have hp' : (apos.endLine == pos.line) = true := by rw [hp]; simp
  simp only [hp', Bool.not_true, Bool.false_or, if_true]
  exact wpAny_bind (wpAny_pure h₂)

theorem sound_attr {d₁ : Nat} (F : Frm c x d₁) (TK : TopOk c P) (FO : FnsOK c P d Φ) {o : ME} {k : Nat} (ho : SoundE c x Φ o) : SoundE c x Φ (.attr o k) := by
  intro e hm s imm own ι σ ρ m Q E X hl h
  obtain ⟨l, y, p1, rfl, hk⟩ := mt_attr hm
  simp only [Bool.and_eq_true, beq_iff_eq] at hk
  simp only [ee_var, ee_cint, ee_cstr, ee_cnone, ee_cbool, ee_gint, ee_gstr, ee_bin, ee_neg, ee_not, ee_and, ee_or, ee_cmp, ee_cmp2, ee_call, ee_bi, ee_copy, ee_isi, ee_make, ee_meth, ee_attr, ee_idx, ee_sliceTo, ee_sliceFrom, ee_tup, ee_lst, ee_sumAt, ee_rev, ee_strMul, ee_cat, ee_slen, ee_sidx, ee_sTo, ee_sFrom, ee_split, ee_join, ee_upper, ee_giveRepl, ee_strOf, ee_intOf, ee_notIn, ee_inT, ee_notInL, ee_minL, ee_shownL] at h
  refine Attribute_any_ ?_ (by show (do let o ← attributeBase l y x.env (eval l x.env); standAt p1.atName; let r ← holding [o] (getAttr o y true); letTemporaryGo l o r; pure r) = _; rw [base_plain hk.2])
  refine ho l hk.2 s imm own ι σ ρ m _ E X hl (Post.bind h fun v σ₁ z h' tk imm' own' ι' hx X' hr h₁ => ?_)
  cases v with
  | loc i =>
    dsimp only at h₁
    split at h₁
    · rename_i cl fs hs
      split at h₁
      · rename_i hat
        obtain ⟨u, hu, h₂⟩ := Post.opt h₁
        obtain ⟨a, dx, C, f, es, n, rfl, hC, hf, hI⟩ := X'.instAt hr hs
        obtain ⟨C', g, y', at', q1, q2, q3, q4, q5, q6, q7, q8, q9⟩ := FO.attr cl k hat
        rw [hC] at q1; cases q1
        rw [TK.attrs, hk.1] at q2; cases q2
        obtain ⟨w, hw, rw'⟩ := hf.get (by rw [TK.attrs]; exact hk.1) hu
        refine get_own X'.fr (F.kin X'.gd) hI q3 q4 q5 q6 hw ?_ (Post.ok h₂ X' rw')
        cases rw' <;> rfl
      · exact h₁.elim
    · exact h₁.elim
  | _ => exact h₁.elim

theorem sound_meth (F : Frm c x (d + 1)) (TK : TopOk c P) (FO : FnsOK c P d Φ) {o : ME} {f : Nat} {args : List ME} (hq : x.quiet = false) (ho : SoundE c x Φ o) (ha : SoundEs c x Φ args) : SoundE c x Φ (.meth o f args) := by
  intro e hm s imm own ι σ ρ m Q E X hl h
  obtain ⟨l, y, p1, es, p2, rfl, hk⟩ := mt_meth hm
  simp only [Bool.and_eq_true, beq_iff_eq] at hk
  obtain ⟨⟨⟨⟨hM, hol⟩, hs⟩, hln⟩, hlen⟩ := hk
  simp only [decide_eq_true_eq] at hlen
  simp only [ee_var, ee_cint, ee_cstr, ee_cnone, ee_cbool, ee_gint, ee_gstr, ee_bin, ee_neg, ee_not, ee_and, ee_or, ee_cmp, ee_cmp2, ee_call, ee_bi, ee_copy, ee_isi, ee_make, ee_meth, ee_attr, ee_idx, ee_sliceTo, ee_sliceFrom, ee_tup, ee_lst, ee_sumAt, ee_rev, ee_strMul, ee_cat, ee_slen, ee_sidx, ee_sTo, ee_sFrom, ee_split, ee_join, ee_upper, ee_giveRepl, ee_strOf, ee_intOf, ee_notIn, ee_inT, ee_notInL, ee_minL, ee_shownL] at h
  refine MCall (fun w => base_plain hol) (form_ok hs hlen) hln ?_
  refine ho l hol s imm own ι σ ρ m _ E X hl (Post.bind h fun v σ₁ z h' tk imm' own' ι' hx X' hr h₁ => ?_)
  cases v with
  | loc i =>
    dsimp only at h₁
    cases hv : evalEs Φ ρ args σ₁ with
    | exn _ _ => rw [hv] at h₁; exact h₁.elim
    | stuck => rw [hv] at h₁; exact h₁.elim
    | ok vs σ₂ =>
      rw [hv] at h₁
      simp only [R.got] at h₁
      split at h₁
      · rename_i cl fs cl' fs' hs2 hs1
        split at h₁
        · rename_i hc
          obtain ⟨rfl, hmo⟩ := hc
          obtain ⟨a, dx, C, g, es', n, rfl, hC, hf, hI⟩ := X'.instAt hr hs1
          obtain ⟨C', g', D, y', q1, q2, q3, q4, q5, q6, q7, q8⟩ := FO.meth _ f hmo
          rw [hC] at q1; cases q1
          rw [hM] at q3; cases q3
          refine method_inst X'.fr (F.kin X'.gd) hI q5 q6 q7 (hf.getNone q4) ?_
          have post : Post c x m imm' ι' (relVs c) (evalEs Φ ρ args σ₁) (fun ys s₁ => c.K.In s₁.heap ∧ wpAny (model c.prog c.w) x.A (call (.ref D.addr) ([.ref a] ++ ys)) Q E s₁) E { s with heap := h', toks := tk } := by
            rw [hv]
            intro ys h'' tk' imm'' own'' ι'' hx' X'' hrs
            refine ⟨(F.kin X''.gd).keeps X''.fr.keep, ?_⟩
            refine sound_fncall F FO q2 (fun q => by rw [hq] at q; cases q) X'' (.cons (hr.mono hx') hrs) ?_
            revert h₁
            cases Φ.fn f (.loc i :: vs) σ₂ with
            | ok v' σ₃ => exact fun h₁ y₃ h₃ tk₃ imm₃ own₃ ι₃ hx₃ X₃ hr₃ => h₁ y₃ h₃ tk₃ imm₃ own₃ ι₃ (hx'.trans hx₃) X₃ hr₃
            | exn _ _ => exact fun h₁ e s' T => h₁ e s' (T.back hx')
            | stuck => exact fun h₁ => h₁
          cases args with
          | nil =>
            cases es with
            | cons _ _ => (first | cases mts_n hs | cases mts_n hs.2 | (exact Bool.noConfusion (show false = true from hs)) | exact Bool.noConfusion (show false = true from hs.2))
            | nil =>
              simp only [es_0, es_1] at post
              refine callWith_K0 ((F.kin X'.gd).keeps X'.fr.keep) q8 ?_
              exact (post [] h' tk imm' own' ι' Ext.refl X' .nil).2
          | cons e₁ args =>
            cases es with
            | nil => (first | cases mts_n hs | cases mts_n hs.2 | (exact Bool.noConfusion (show false = true from hs)) | exact Bool.noConfusion (show false = true from hs.2))
            | cons e es =>
              have hs' := hs
              simp only [mts, List.head?_cons, Option.any_some, List.tail_cons, Bool.and_eq_true] at hs
              refine callWith_K (F.kin X'.gd) q8 ?_ (star_cons hs.1) (star_none hs.2)
              exact ha (e :: es) p2 hs' _ imm' own' ι' σ₁ ρ m _ E X' (hl.mono hx) post
        · exact h₁.elim
      · exact h₁.elim
  | _ => exact h₁.elim
end
end Mine
set_option maxRecDepth 100000
set_option linter.unusedVariables false
set_option linter.unusedSectionVars false
namespace Mine
open PySem PySem.W PyProof.Rows PySem.Calls
section
variable {c : Cx} {x : Fx} {d : Nat} {Φ : Fns} {P : Prog}
theorem tupOf_inv {v : V} {ws : List V} (h : tupOf v = some ws) : v = .tup ws := by
  cases v with
  | tup us => exact congrArg V.tup (Option.some.inj h)
  | _ => cases h
/-- an item of a tuple that lies in the heap -/
noncomputable def AtK (h : Heap) (k : Nat) (v y : Value) : Prop := ∃ (a : Addr) (xs : List Value) (i : Int) (t t' : Tok), v = .ref a ∧ IsTup h a xs.toArray ∧ xs[k]? = some (.int i t') ∧ y = .int i t
theorem tup_same {h : Heap} {a : Addr} {xs ys : List Value} (h1 : IsTup h a xs.toArray) (h2 : IsTup h a ys.toArray) : xs = ys := by
  obtain ⟨o, e, _, n, q⟩ := h1
  obtain ⟨o', e', _, n', q'⟩ := h2
  rw [e] at e'
  cases e'
  rw [q] at q'
  injection q' with q1
  simpa using q1
theorem col_paired {Z : Nms} {B : Bas} {h₀ : Heap → Prop} {L : Addr} {fz : Led} {h : Heap} {m : Str → Option Value} {imm own : Led} {ι : List Addr} {σ : Store} (X : St Z B h₀ L fz h m imm own ι σ) {k : Nat} : ∀ {vs : List V} {xs : List Value} {is : List Int} {ys : List Value},
    Reps B imm ι vs xs → colOf k vs = some is → Paired (AtK h k) xs ys → (∀ y ∈ ys, ∃ i t, y = Value.int i t) ∧ numsOf ys = is
  | [], _, is, _, .nil, hc, .nil => by
    simp only [colOf, Option.some.injEq] at hc
    subst hc
    exact ⟨nofun, rfl⟩
  | v :: vs, _, is, _, .cons hv hr, hc, .cons (b := y) ha hp => by
    simp only [colOf] at hc
    obtain ⟨ws, h1, hc⟩ := Option.bind_eq_some_iff.mp hc
    obtain ⟨w, h2, hc⟩ := Option.bind_eq_some_iff.mp hc
    obtain ⟨i, h3, hc⟩ := Option.bind_eq_some_iff.mp hc
    obtain ⟨is', h4, rfl⟩ := Option.map_eq_some_iff.mp hc
    obtain rfl := tupOf_inv h1
    obtain rfl := asInt_inv h3
    obtain ⟨q1, q2⟩ := col_paired X hr h4 hp
    obtain ⟨a, zs, j, t, t', e, hT, hz, rfl⟩ := ha
    obtain ⟨b, us, e', hT', rs⟩ := X.isTup hv
    rw [e] at e'
    cases e'
    have := tup_same hT hT'
    subst this
    obtain ⟨u, hu, hru⟩ := rs.get h2
    rw [hz] at hu
    cases hu
    obtain ⟨t2, e2⟩ := inv_int hru
    cases e2
    refine ⟨fun y hy => ?_, ?_⟩
    · rcases List.mem_cons.mp hy with rfl | hy
      · exact ⟨_, _, rfl⟩
      · exact q1 y hy
    · simp only [numsOf, q2]
theorem at_mem {Z : Nms} {B : Bas} {h₀ : Heap → Prop} {L : Addr} {fz : Led} {h : Heap} {m : Str → Option Value} {imm own : Led} {ι : List Addr} {σ : Store} (X : St Z B h₀ L fz h m imm own ι σ) {k : Nat} : ∀ {vs : List V} {xs : List Value} {is : List Int},
    Reps B imm ι vs xs → colOf k vs = some is → ∀ y ∈ xs, ∃ (a : Addr) (zs : List Value) (i : Int) (t : Tok), y = .ref a ∧ IsTup h a zs.toArray ∧ zs[k]? = some (.int i t)
  | [], _, is, .nil, hc, y, hy => by cases hy
  | v :: vs, _, is, .cons hv hr, hc, y, hy => by
    simp only [colOf] at hc
    obtain ⟨ws, h1, hc⟩ := Option.bind_eq_some_iff.mp hc
    obtain ⟨w, h2, hc⟩ := Option.bind_eq_some_iff.mp hc
    obtain ⟨i, h3, hc⟩ := Option.bind_eq_some_iff.mp hc
    obtain ⟨is', h4, rfl⟩ := Option.map_eq_some_iff.mp hc
    rcases List.mem_cons.mp hy with rfl | hy
    · obtain rfl := tupOf_inv h1
      obtain rfl := asInt_inv h3
      obtain ⟨b, us, e', hT', rs⟩ := X.isTup hv
      obtain ⟨u, hu, hru⟩ := rs.get h2
      obtain ⟨t2, e2⟩ := inv_int hru
      exact ⟨b, us, i, t2, e', hT', by rw [hu, e2]⟩
    · exact at_mem X hr h4 y hy
theorem sound_sumAt (F : Frm c x d) (TK : TopOk c P) {k i : Nat} (hq : x.quiet = false) : SoundE c x Φ (.sumAt k i) := by
  intro e hm s imm own ι σ ρ m Q E X hl h
  obtain ⟨y, p1, z, p2, cc, p3, p4, p5, gs, sc, p6, p7, rfl, hk⟩ := mt_sumAt hm
  obtain ⟨hk, hgs⟩ := and_inv hk
  obtain ⟨hk, hsc⟩ := and_inv hk
  obtain ⟨hk, hcc⟩ := and_inv hk
  obtain ⟨hk, hz⟩ := and_inv hk
  obtain ⟨hy, hg⟩ := and_inv hk
  obtain rfl := beq_iff_eq.mp hy
  obtain rfl := of_decide_eq_true hcc
  obtain ⟨g, hg1, hg2⟩ := any_inv hgs
  obtain rfl := one_inv hg1
  obtain ⟨hgo, hit⟩ := and_inv hg2
  obtain ⟨gt, gi, gf, ga⟩ := g
  obtain ⟨h1, hgo⟩ := and_inv hgo
  obtain ⟨h2, h3⟩ := and_inv hgo
  obtain ⟨⟨q, pq⟩, h5, h6⟩ := any_inv h1
  obtain ⟨⟨nm, pn⟩, h7, h8⟩ := any_inv hit
  obtain ⟨h8, h9⟩ := and_inv h8
  have e1 := vName_inv h5
  have e2 := nil_inv h2
  have e3 := of_decide_eq_true h3
  have e4 := beq_iff_eq.mp h6
  have e5 := vName_inv h7
  have e6 := beq_iff_eq.mp h8
  dsimp only at e1 e2 e3 e4 e5 e6 h9
  subst e1 e2 e3 e4 e5
  obtain ⟨hs1, hs2⟩ := and_inv hsc
  obtain ⟨hs2, hs3⟩ := and_inv hs2
  have hkind := of_decide_eq_true hs1
  have hlook := of_decide_eq_true hs2
  rw [List.all_eq_true] at hs3
  have hnm : ∀ p ∈ sc.names, p.2 = .local ∧ sc.names.lookup p.1 = some .local := fun p hp => ⟨of_decide_eq_true (and_inv (hs3 p hp)).1, of_decide_eq_true (and_inv (hs3 p hp)).2⟩
  have hz' : (q == ("__debug__" : Str)) = false := by simpa using hz
  have hn' : (nm == ("__debug__" : Str)) = false := by simpa using h9
  simp only [ee_var, ee_cint, ee_cstr, ee_cnone, ee_cbool, ee_gint, ee_gstr, ee_bin, ee_neg, ee_not, ee_and, ee_or, ee_cmp, ee_cmp2, ee_call, ee_bi, ee_copy, ee_isi, ee_make, ee_meth, ee_attr, ee_idx, ee_sliceTo, ee_sliceFrom, ee_tup, ee_lst, ee_sumAt, ee_rev, ee_strMul, ee_cat, ee_slen, ee_sidx, ee_sTo, ee_sFrom, ee_split, ee_join, ee_upper, ee_giveRepl, ee_strOf, ee_intOf, ee_notIn, ee_inT, ee_notInL, ee_minL, ee_shownL] at h
  split at h
  · rename_i v hv
    obtain ⟨u, hu, h⟩ := Post.opt h
    obtain ⟨vs, hvs, hu⟩ := Option.bind_eq_some_iff.mp hu
    obtain ⟨is, his, hu⟩ := Option.bind_eq_some_iff.mp hu
    split at hu
    · rename_i hlen
      cases hu
      obtain ⟨y, hmy, hry⟩ := hl i nm v e6 hv
      obtain ⟨ax, xs, rfl, hL, rs⟩ := X.isList hry hvs
      refine Call_ (name_B X.fr (F.kin X.gd) (topRead_of (F.top X.gd)) (TK.boot _ (by decide)) boot_sum (by decide) ?_ F.kind (Fx.glob hg) (by decide))
      refine callWith_builtin1 ?_ rfl rfl
      refine args_cons ?_ rfl
      refine wpAny_ListComp_map (fun _ => true) (AtK s.heap k) (F.calm hq) (fun p hp => by rw [(hnm p hp).1]; decide) (fun p hp => by rw [(hnm p hp).1]; decide) hkind (fun p hp _ => (hnm p hp).2) hlook ?_ (by intro _; rfl)
      refine ld X.fr hmy ?_ F.kind (F.loc nm (List.mem_of_getElem? e6)) hn'
      refine ⟨ax, xs.toArray, rfl, hL, by simp only [List.size_toArray]; rw [rs.length, sizeLine_eq]; omega, ?_, ?_, ?_⟩
      · intro C w s₂ m₂ E' _ _ _ _
        exact wpAny_tests_nil ⟨rfl, s₂.heap, s₂.toks, rfl, fun _ _ e => e⟩
      · intro C w s₂ m₂ E' hw _ hn hm hkp
        obtain ⟨a, zs, j, t, rfl, hT, hz⟩ := at_mem X rs his w (by simpa using hw)
        have hT2 : IsTup s₂.heap a zs.toArray := by
          obtain ⟨o, ho, q⟩ := hT
          exact ⟨o, hkp _ _ ho, q⟩
        have hlt : k < zs.length := (List.getElem?_eq_some_iff.mp hz).1
        refine Subscript_ (ldK (.start hn) hkind hlook hm ?_ hz')
        refine wpAny_Constant_int ?_
        refine item_tupleT (j := k) (s := { s₂ with toks := _ }) hT2 (by omega) (by omega) ?_ hz ?_ rfl
        · unfold seqIndex?
          have e1 : ¬ (k : Int) < 0 := by omega
          simp only [e1, if_false]
          have e2 : (0 ≤ (k : Int)) := by omega
          have e3 : (k : Int) < (zs.length : Int) := by omega
          simp [e2, e3]
        · exact ⟨⟨a, zs, j, t, t, rfl, hT, hz, rfl⟩, s₂.heap, _, rfl, fun _ _ e => e⟩
      · intro D h' tk ys hnew hlD hF hkp
        have hF' : Paired (AtK s.heap k) xs ys.toList := by
          rw [show xs.toArray.toList.filter (fun _ => true) = xs from List.filter_eq_self.mpr fun _ _ => rfl] at hF
          exact hF
        obtain ⟨q1, q2⟩ := col_paired X rs his hF'
        have hall : AllInts ys := fun v hv => q1 v (by simpa using hv)
        obtain ⟨zs, rfl⟩ := hall.items
        rw [nums_intItems] at q2
        refine args_nil ?_
        have X' := X.keeps hkp
        refine sum_intListG (F.calm hq) hlD fun h'' tk' t' hk'' => ?_
        rw [preSum_eq, List.take_of_length_le (by simp), q2]
        exact h _ h'' tk' imm own ι Ext.refl (X'.keeps hk'') (.int _ _)
    · cases hu
  · exact h.elim
theorem sound_strMul {w : Str} {a : ME} (ha : SoundE c x Φ a) : SoundE c x Φ (.strMul w a) := by
  intro e hm s imm own ι σ ρ m Q E X hl h
  obtain ⟨p1, p2, r, p3, rfl, hk⟩ := mt_strMul hm
  simp only [ee_var, ee_cint, ee_cstr, ee_cnone, ee_cbool, ee_gint, ee_gstr, ee_bin, ee_neg, ee_not, ee_and, ee_or, ee_cmp, ee_cmp2, ee_call, ee_bi, ee_copy, ee_isi, ee_make, ee_meth, ee_attr, ee_idx, ee_sliceTo, ee_sliceFrom, ee_tup, ee_lst, ee_sumAt, ee_rev, ee_strMul, ee_cat, ee_slen, ee_sidx, ee_sTo, ee_sFrom, ee_split, ee_join, ee_upper, ee_giveRepl, ee_strOf, ee_intOf, ee_notIn, ee_inT, ee_notInL, ee_minL, ee_shownL] at h
  refine wpAny_BinOp (Calls.Constant_str ?_)
  refine ha r hk _ imm own ι σ ρ m _ E X hl (Post.bind h fun v σ₁ y h' tk imm' own' ι' hx X' hr h₁ => ?_)
  obtain ⟨u, hu, h₂⟩ := Post.opt h₁
  obtain ⟨n, hn, hu2⟩ := Option.bind_eq_some_iff.mp hu
  clear hu
  have hu := hu2
  clear hu2
  obtain rfl := asInt_inv hn
  obtain ⟨t, rfl⟩ := inv_int hr
  unfold strMulV at hu
  split at hu
  · rename_i e0
    subst e0
    cases hu
    exact P.mul_str_none (by decide) (by decide) (Post.ok h₂ X' (.str _ _))
  · split at hu
    · rename_i e1
      subst e1
      cases hu
      exact P.mul_str (by decide) (fun _ h => by simp at h) (fun _ h => by simp at h) (Post.ok (tk := tk) h₂ X' (.str _ _))
    · split at hu
      · rename_i e2
        obtain ⟨rfl, hl2⟩ := e2
        cases hu
        refine SB.mul ⟨by decide, fun _ _ => ?_, fun _ _ => ?_⟩ fun t' k => Post.ok (tk := k) h₂ X' (.str _ _)
        · have : ((2 : Int) ^ 63 - 1) / 31 = 297528130221121800 := by decide
          rw [this]; omega
        · unfold Builtin.Str.tooLong sizeLine
          exact decide_eq_false (by
            have : (31 : Int).toNat = 31 := rfl
            rw [this]; omega)
      · cases hu
theorem rev4_inv {vs : List V} {u : V} (h : rev4 vs = some u) : ∃ a b c d, vs = [a, b, c, d] ∧ u = .lst [d, c, b, a] := by
  unfold rev4 at h
  split at h
  · exact ⟨_, _, _, _, rfl, (Option.some.inj h).symm⟩
  · cases h
theorem sound_rev {a : ME} (ha : SoundE c x Φ a) : SoundE c x Φ (.rev a) := by
  intro e hm s imm own ι σ ρ m Q E X hl h
  obtain ⟨l, p1, p2, p3, p4, p5, rfl, hk⟩ := mt_rev hm
  simp only [ee_var, ee_cint, ee_cstr, ee_cnone, ee_cbool, ee_gint, ee_gstr, ee_bin, ee_neg, ee_not, ee_and, ee_or, ee_cmp, ee_cmp2, ee_call, ee_bi, ee_copy, ee_isi, ee_make, ee_meth, ee_attr, ee_idx, ee_sliceTo, ee_sliceFrom, ee_tup, ee_lst, ee_sumAt, ee_rev, ee_strMul, ee_cat, ee_slen, ee_sidx, ee_sTo, ee_sFrom, ee_split, ee_join, ee_upper, ee_giveRepl, ee_strOf, ee_intOf, ee_notIn, ee_inT, ee_notInL, ee_minL, ee_shownL] at h
  refine Subscript_ ?_
  refine ha l hk s imm own ι σ ρ m _ E X hl (Post.bind h fun v σ₁ y h' tk imm' own' ι' hx X' hr h₁ => ?_)
  obtain ⟨u, hu, h₂⟩ := Post.opt h₁
  obtain ⟨vs, hvs, hu⟩ := Option.bind_eq_some_iff.mp hu
  obtain ⟨v1, v2, v3, v4, rfl, rfl⟩ := rev4_inv hu
  obtain ⟨ax, xs, rfl, hL, rs⟩ := X'.isList hr hvs
  refine wpAny_Slice (evalPart_none_step (evalPart_none_step (evalPart_some_step ?_)))
  refine sound_neg (Φ := Φ) (a := .cint 1) sound_cint (.UnaryOp .USub (.Constant (.int 1) p1 p2) p3) rfl _ imm' own' ι' σ₁ ρ m _ E X' (hl.mono hx) ?_
  intro w h₃ tk₃ imm₃ own₃ ι₃ hx₃ X₃ hr₃
  obtain ⟨t, rfl⟩ := inv_int hr₃
  obtain ⟨ax', xs', e, hL₃, rs₃⟩ := X₃.isList (hr.mono hx₃) hvs
  cases e
  cases rs₃ with
  | @cons _ y1 _ _ r1 rs₃ =>
  cases rs₃ with
  | @cons _ y2 _ _ r2 rs₃ =>
  cases rs₃ with
  | @cons _ y3 _ _ r3 rs₃ =>
  cases rs₃ with
  | @cons _ y4 _ _ r4 rs₃ =>
  cases rs₃
  refine tail_any (Heap.IsList.typeIs (s := { s with heap := h₃.push { cls := .type "slice", data := .fields #[.none, .none, .int (-1) t] }, toks := tk₃ }) (hL₃.push _)) slot_list_getitem.lookup
    (wpAny_getItem_list_slice (lo := none) (hi := none) (st := some (-1)) (hL₃.push _) (Heap.IsSliceOf.new ..) .none .none (.int _ _) (by simp) ?_ (by show 4 ≤ sizeLine; decide)) rfl
  have pk : slicePick [y1, y2, y3, y4].toArray none none (some (-1)) = [y4, y3, y2, y1].toArray := by
    have b : sliceBounds none none (some (-1)) 4 = (3, -1, -1) := by decide
    have r : sliceRange 3 (-1) (-1) = [3, 2, 1, 0] := by decide
    show ((sliceRange (sliceBounds none none (some (-1)) 4).1 (sliceBounds none none (some (-1)) 4).2.1 (sliceBounds none none (some (-1)) 4).2.2).filterMap ([y1, y2, y3, y4].toArray[·]?)).toArray = _
    rw [b, r]
    rfl
  rw [pk]
  have F1 := X₃.fr.push { cls := .type "slice", data := .fields #[.none, .none, .int (-1) t] }
  have N1 := News.push F1 (X₃.news.grown fun _ _ e => Heap.get?_push_of_some _ e) { cls := .type "list", data := .seq [y4, y3, y2, y1].toArray }
  have F2 := F1.push { cls := .type "list", data := .seq [y4, y3, y2, y1].toArray }
  have hlt : ∀ p ∈ own₃ ++ (imm₃ ++ x.fz), p.1 < (h₃.push { cls := .type "slice", data := .fields #[.none, .none, .int (-1) t] }).objs.size := fun p hp => by
    rw [Heap.size_push]; exact Nat.lt_succ_of_lt (X₃.lt p hp)
  exact h₂ _ _ tk₃ _ own₃ ι₃ (hx₃.trans (Ext.imm _)) (X₃.newImm (o := lstObj _ 0) F2 N1 hlt) (.lst (n := 0) (.head _) (.mono (Ext.imm _) (.cons r4 (.cons r3 (.cons r2 (.cons r1 .nil))))))
end
end Mine
set_option maxRecDepth 100000
set_option linter.unusedVariables false
set_option linter.unusedSectionVars false
namespace Mine
open PySem PySem.W PyProof.Rows PySem.Calls
section
variable {c : Cx} {x : Fx} {d : Nat} {Φ : Fns} {P : Prog}
theorem asStr_inv {v : V} {s : Str} (h : v.asStr = some s) : v = .str s := by
  cases v with
  | str u => exact congrArg V.str (Option.some.inj h)
  | _ => cases h
theorem onS_inv {v : V} {f : Str → Option V} {r : V} (h : onS v f = some r) : ∃ s, v = .str s ∧ s.length ≤ 10000 ∧ f s = some r := by
  obtain ⟨s, h1, h⟩ := Option.bind_eq_some_iff.mp h
  split at h
  · exact ⟨s, asStr_inv h1, ‹_›, h⟩
  · cases h
theorem sl10 {n : Nat} (h : n ≤ 20002) : n ≤ sizeLine := by rw [sizeLine_eq]; omega
theorem sound_cat {a b : ME} (ha : SoundE c x Φ a) (hb : SoundE c x Φ b) : SoundE c x Φ (.cat a b) := by
  intro e hm s imm own ι σ ρ m Q E X hl h
  obtain ⟨l, r, p, rfl, hk⟩ := mt_cat hm
  obtain ⟨h1, h2⟩ := and_inv hk
  simp only [ee_var, ee_cint, ee_cstr, ee_cnone, ee_cbool, ee_gint, ee_gstr, ee_bin, ee_neg, ee_not, ee_and, ee_or, ee_cmp, ee_cmp2, ee_call, ee_bi, ee_copy, ee_isi, ee_make, ee_meth, ee_attr, ee_idx, ee_sliceTo, ee_sliceFrom, ee_tup, ee_lst, ee_sumAt, ee_rev, ee_strMul, ee_cat, ee_slen, ee_sidx, ee_sTo, ee_sFrom, ee_split, ee_join, ee_upper, ee_giveRepl, ee_strOf, ee_intOf, ee_notIn, ee_inT, ee_notInL, ee_minL, ee_shownL] at h
  refine wpAny_BinOp (sound_two ha hb h1 h2 X hl h fun v w y z s imm own ι σ X hv hw h => ?_)
  obtain ⟨u, hu, h⟩ := Post.opt h
  obtain ⟨s1, rfl, l1, hu⟩ := onS_inv hu
  obtain ⟨s2, rfl, l2, hu⟩ := onS_inv hu
  cases hu
  obtain ⟨t1, rfl⟩ := inv_str hv
  obtain ⟨t2, rfl⟩ := inv_str hw
  exact SB.add (fun t' k => Post.ok (tk := k) h X (.str _ _)) (sl10 (by omega))
/-- a builtin of one argument -/
theorem call1 (F : Frm c x d) (TK : TopOk c P) {a : ME} (ha : SoundE c x Φ a) {y : Str} {id : String} {p1 p2 : Pos} {r : Expr} {s : Shared} {imm own : Led} {ι : List Addr} {σ : Store} {ρ : Loc} {m : Str → Option Value} {Q E : Value → Shared → Prop} {g : V → Store → R V}
    (hb : bootBuiltins y = some (.builtin id)) (hin : y ∈ (["len", "max", "min", "sorted", "sum", "int", "str", "list", "range", "isinstance", "bool", "tuple", "ValueError"] : List Str)) (hn : y ≠ "__name__") (hd : (y == ("__debug__" : Str)) = false) (hg : x.G y = true) (hm : mt c.T x.G x.S c.M a r = true)
    (X : St c.Z c.B (Gnd x) x.L x.fz s.heap m imm own ι σ) (hl : LocRel c.B imm ι x.S ρ m) (h : Post c x m imm ι (relV c) ((evalE Φ ρ a σ).bind g) Q E s)
    (k : ∀ v z (s : Shared) imm own ι σ, St c.Z c.B (Gnd x) x.L x.fz s.heap m imm own ι σ → Rep c.B imm ι v z → Post c x m imm ι (relV c) (g v σ) Q E s → wpAny (model c.prog c.w) x.A (call (.builtin id) [z]) Q E s) :
    wpAny (model c.prog c.w) x.A (eval (.Call (.Name y p1) [r] [] p2) x.env) Q E s := by
  refine Call_ (name_B X.fr (F.kin X.gd) (topRead_of (F.top X.gd)) (TK.boot _ hin) hb hn ?_ F.kind (Fx.glob hg) hd)
  refine callWith_builtin1 ?_ (star_cons hm) rfl
  refine args_cons ?_ (star_cons hm)
  refine ha r hm s imm own ι σ ρ m _ E X hl (Post.bind h fun v σ₁ z h' tk imm' own' ι' hx X' hr h₁ => args_nil (k v z _ imm' own' ι' σ₁ X' hr h₁))
theorem callT (F : Frm c x d) (TK : TopOk c P) {a : ME} (ha : SoundE c x Φ a) {y : Str} {T : String} {p1 p2 : Pos} {r : Expr} {s : Shared} {imm own : Led} {ι : List Addr} {σ : Store} {ρ : Loc} {m : Str → Option Value} {Q E : Value → Shared → Prop} {g : V → Store → R V}
    (hb : bootBuiltins y = some (.type T)) (hin : y ∈ (["len", "max", "min", "sorted", "sum", "int", "str", "list", "range", "isinstance", "bool", "tuple", "ValueError"] : List Str)) (hn : y ≠ "__name__") (hd : (y == ("__debug__" : Str)) = false) (hg : x.G y = true) (hm : mt c.T x.G x.S c.M a r = true)
    (X : St c.Z c.B (Gnd x) x.L x.fz s.heap m imm own ι σ) (hl : LocRel c.B imm ι x.S ρ m) (h : Post c x m imm ι (relV c) ((evalE Φ ρ a σ).bind g) Q E s)
    (k : ∀ v z (s : Shared) imm own ι σ, St c.Z c.B (Gnd x) x.L x.fz s.heap m imm own ι σ → Rep c.B imm ι v z → Post c x m imm ι (relV c) (g v σ) Q E s → wpAny (model c.prog c.w) x.A (call (.type T) [z]) Q E s) :
    wpAny (model c.prog c.w) x.A (eval (.Call (.Name y p1) [r] [] p2) x.env) Q E s := by
  refine Call_ (name_B X.fr (F.kin X.gd) (topRead_of (F.top X.gd)) (TK.boot _ hin) hb hn ?_ F.kind (Fx.glob hg) hd)
  refine Pv.callWith_type1 ?_ (star_cons hm) rfl
  refine args_cons ?_ (star_cons hm)
  refine ha r hm s imm own ι σ ρ m _ E X hl (Post.bind h fun v σ₁ z h' tk imm' own' ι' hx X' hr h₁ => args_nil (k v z _ imm' own' ι' σ₁ X' hr h₁))
theorem sound_slen (F : Frm c x d) (TK : TopOk c P) {a : ME} (ha : SoundE c x Φ a) : SoundE c x Φ (.slen a) := by
  intro e hm s imm own ι σ ρ m Q E X hl h
  obtain ⟨y, p1, r, p2, rfl, hk⟩ := mt_slen hm
  obtain ⟨hk, hr⟩ := and_inv hk
  obtain ⟨hy, hg⟩ := and_inv hk
  obtain rfl := beq_iff_eq.mp hy
  simp only [ee_var, ee_cint, ee_cstr, ee_cnone, ee_cbool, ee_gint, ee_gstr, ee_bin, ee_neg, ee_not, ee_and, ee_or, ee_cmp, ee_cmp2, ee_call, ee_bi, ee_copy, ee_isi, ee_make, ee_meth, ee_attr, ee_idx, ee_sliceTo, ee_sliceFrom, ee_tup, ee_lst, ee_sumAt, ee_rev, ee_strMul, ee_cat, ee_slen, ee_sidx, ee_sTo, ee_sFrom, ee_split, ee_join, ee_upper, ee_giveRepl, ee_strOf, ee_intOf, ee_notIn, ee_inT, ee_notInL, ee_minL, ee_shownL] at h
  refine call1 F TK ha boot_len (by decide) (by decide) (by decide) hg hr X hl h fun v z s imm own ι σ X hv h => ?_
  obtain ⟨u, hu, h⟩ := Post.opt h
  obtain ⟨s1, rfl, l1, hu⟩ := onS_inv hu
  cases hu
  obtain ⟨t1, rfl⟩ := inv_str hv
  exact PySem.P.len_str (by omega) (Post.ok h X (.int _ _))
theorem sound_sidx {a i : ME} (ha : SoundE c x Φ a) (hi : SoundE c x Φ i) : SoundE c x Φ (.sidx a i) := by
  intro e hm s imm own ι σ ρ m Q E X hl h
  obtain ⟨l, r, p1, rfl, hk⟩ := mt_sidx hm
  obtain ⟨h1, h2⟩ := and_inv hk
  simp only [ee_var, ee_cint, ee_cstr, ee_cnone, ee_cbool, ee_gint, ee_gstr, ee_bin, ee_neg, ee_not, ee_and, ee_or, ee_cmp, ee_cmp2, ee_call, ee_bi, ee_copy, ee_isi, ee_make, ee_meth, ee_attr, ee_idx, ee_sliceTo, ee_sliceFrom, ee_tup, ee_lst, ee_sumAt, ee_rev, ee_strMul, ee_cat, ee_slen, ee_sidx, ee_sTo, ee_sFrom, ee_split, ee_join, ee_upper, ee_giveRepl, ee_strOf, ee_intOf, ee_notIn, ee_inT, ee_notInL, ee_minL, ee_shownL] at h
  refine Subscript_ (sound_two ha hi h1 h2 X hl h fun v w y z s imm own ι σ X hv hw h => ?_)
  obtain ⟨u, hu, h⟩ := Post.opt h
  obtain ⟨s1, rfl, l1, hu⟩ := onS_inv hu
  obtain ⟨k, hk, hu2⟩ := Option.bind_eq_some_iff.mp hu
  obtain rfl := asInt_inv hk
  split at hu2
  · rename_i hc
    cases hu2
    obtain ⟨t1, rfl⟩ := inv_str hv
    obtain ⟨t2, rfl⟩ := inv_int hw
    refine tail_any (typeIs_str _ _ _) F.slot_str_getitem.lookup (SB.getItem ?_ ?_ (Post.ok h X (.str _ _))) (sub_plain h2)
    · unfold fitsSsize
      rw [Bool.not_eq_true', Bool.or_eq_false_iff, decide_eq_false_iff_not, decide_eq_false_iff_not]; omega
    · have hlt : k.toNat < s1.cps.size := by have := hc.2; show k.toNat < s1.length; omega
      have e1 : seqIndex? k s1.length = some k.toNat := by
        unfold seqIndex?
        simp only [if_neg (show ¬ k < 0 by omega)]
        simp [hc.1, hc.2]
      unfold Txt.charAt
      rw [e1, Option.bind_some, Array.getElem?_eq_getElem hlt]
      rfl
  · cases hu2
theorem sound_sTo {a k : ME} (ha : SoundE c x Φ a) (hb : SoundE c x Φ k) : SoundE c x Φ (.sTo a k) := by
  intro e hm s imm own ι σ ρ m Q E X hl h
  obtain ⟨l, r, p1, p2, rfl, hk⟩ := mt_sTo hm
  obtain ⟨h1, h2⟩ := and_inv hk
  simp only [ee_var, ee_cint, ee_cstr, ee_cnone, ee_cbool, ee_gint, ee_gstr, ee_bin, ee_neg, ee_not, ee_and, ee_or, ee_cmp, ee_cmp2, ee_call, ee_bi, ee_copy, ee_isi, ee_make, ee_meth, ee_attr, ee_idx, ee_sliceTo, ee_sliceFrom, ee_tup, ee_lst, ee_sumAt, ee_rev, ee_strMul, ee_cat, ee_slen, ee_sidx, ee_sTo, ee_sFrom, ee_split, ee_join, ee_upper, ee_giveRepl, ee_strOf, ee_intOf, ee_notIn, ee_inT, ee_notInL, ee_minL, ee_shownL] at h
  refine Subscript_ ?_
  refine ha l h1 s imm own ι σ ρ m _ E X hl (Post.bind h fun v σ₁ y h' tk imm' own' ι' hx X' hr h₁ => ?_)
  refine wpAny_Slice (evalPart_none_step (evalPart_some_step ?_))
  refine hb r h2 _ imm' own' ι' σ₁ ρ m _ E X' (hl.mono hx) (Post.bind h₁ fun w σ₂ z h'' tk' imm'' own'' ι'' hx' X'' hr' h₂ => ?_)
  refine evalPart_none_step ?_
  obtain ⟨u, hu0, h₃⟩ := Post.opt h₂
  obtain ⟨s1, rfl, l1, hu⟩ := onS_inv hu0
  obtain ⟨k, hk, hu2⟩ := Option.bind_eq_some_iff.mp hu
  cases hu2
  obtain rfl := asInt_inv hk
  obtain ⟨t1, rfl⟩ := inv_str hr
  obtain ⟨t2, rfl⟩ := inv_int hr'
  exact slice_strN_ns X''.fr X''.news (fun h₄ t' k' F₃ N₃ => h₃ _ h₄ k' imm'' own'' ι'' Ext.refl (X''.keep F₃ N₃) (.str _ _)) rfl (by intro _; cases l <;> first | rfl | (exact Bool.noConfusion (mt_ok h1))) (sl10 (by omega))
theorem sound_sFrom {a k : ME} (ha : SoundE c x Φ a) (hb : SoundE c x Φ k) : SoundE c x Φ (.sFrom a k) := by
  intro e hm s imm own ι σ ρ m Q E X hl h
  obtain ⟨l, r, p1, p2, rfl, hk⟩ := mt_sFrom hm
  obtain ⟨h1, h2⟩ := and_inv hk
  simp only [ee_var, ee_cint, ee_cstr, ee_cnone, ee_cbool, ee_gint, ee_gstr, ee_bin, ee_neg, ee_not, ee_and, ee_or, ee_cmp, ee_cmp2, ee_call, ee_bi, ee_copy, ee_isi, ee_make, ee_meth, ee_attr, ee_idx, ee_sliceTo, ee_sliceFrom, ee_tup, ee_lst, ee_sumAt, ee_rev, ee_strMul, ee_cat, ee_slen, ee_sidx, ee_sTo, ee_sFrom, ee_split, ee_join, ee_upper, ee_giveRepl, ee_strOf, ee_intOf, ee_notIn, ee_inT, ee_notInL, ee_minL, ee_shownL] at h
  refine Subscript_ ?_
  refine ha l h1 s imm own ι σ ρ m _ E X hl (Post.bind h fun v σ₁ y h' tk imm' own' ι' hx X' hr h₁ => ?_)
  refine wpAny_Slice (evalPart_some_step ?_)
  refine hb r h2 _ imm' own' ι' σ₁ ρ m _ E X' (hl.mono hx) (Post.bind h₁ fun w σ₂ z h'' tk' imm'' own'' ι'' hx' X'' hr' h₂ => ?_)
  refine evalPart_none_step (evalPart_none_step ?_)
  obtain ⟨u, hu0, h₃⟩ := Post.opt h₂
  obtain ⟨s1, rfl, l1, hu⟩ := onS_inv hu0
  obtain ⟨k, hk, hu2⟩ := Option.bind_eq_some_iff.mp hu
  cases hu2
  obtain rfl := asInt_inv hk
  obtain ⟨t1, rfl⟩ := inv_str hr
  obtain ⟨t2, rfl⟩ := inv_int hr'
  exact slice_strN_sn X''.fr X''.news (fun h₄ t' k' F₃ N₃ => h₃ _ h₄ k' imm'' own'' ι'' Ext.refl (X''.keep F₃ N₃) (.str _ _)) rfl (by intro _; cases l <;> first | rfl | (exact Bool.noConfusion (mt_ok h1))) (sl10 (by omega))
theorem Reps.strs {B : Bas} {imm : Led} {ι : List Addr} : ∀ (l : List (Str × Tok)), Reps B imm ι (strsV (l.map (·.1))) (strValues l)
  | [] => .nil
  | p :: r => .cons (.str _ _) (Reps.strs r)
theorem strsL_reps {B : Bas} {imm : Led} {ι : List Addr} : ∀ {vs : List V} {xs : List Value} {ys : List Str}, Reps B imm ι vs xs → strsL vs = some ys → StrsAre xs ys
  | [], _, ys, .nil, h => by cases h; exact .nil
  | v :: vs, _, ys, .cons hv hr, h => by
    simp only [strsL] at h
    obtain ⟨s, h1, h⟩ := Option.bind_eq_some_iff.mp h
    obtain ⟨r, h2, rfl⟩ := Option.map_eq_some_iff.mp h
    obtain rfl := asStr_inv h1
    obtain ⟨t, rfl⟩ := inv_str hv
    exact .cons _ _ (strsL_reps hr h2)
/-- a method of a str, of one argument -/
theorem on_str {name : Str} {id : String} {y : Str} {t : Tok} {pos : Pos} {a : Sem Value} {Q E : Value → Shared → Prop} {s : Shared} (slot : Slot "str" name id) (ty : typeOf (.builtin id) = pure (.type "method_descriptor"))
    (h : wpAny (model c.prog c.w) x.A a (fun v s₁ => wpAny (model c.prog c.w) x.A (call (.builtin id) [.str y t, v]) Q E s₁) E s) : MethodOnS c.prog c.w x.A E name (.str y t) pos [(false, a)] Q s :=
  ⟨"str", id, F.plainAttrs_str, slot, ty, typeIs_str _ _ _, (fun _ e => nomatch e), Calls.callWith_builtin rfl (Calls.evalArgs_plain (Calls.spliced_cons (wpAny_mono h (fun _ _ h₁ => Calls.spliced_nil h₁) fun _ _ e => e)))⟩
theorem sound_split {own₁ : Bool} {a : ME} (ha : SoundE c x Φ a) : SoundE c x Φ (.split own₁ a) := by
  intro e hm s imm own ι σ ρ m Q E X hl h
  obtain ⟨l, y, pa, p1, p2, pc, rfl, hk⟩ := mt_split hm
  obtain ⟨hk, hp⟩ := and_inv hk
  obtain ⟨hy, h1⟩ := and_inv hk
  obtain rfl := beq_iff_eq.mp hy
  simp only [ee_var, ee_cint, ee_cstr, ee_cnone, ee_cbool, ee_gint, ee_gstr, ee_bin, ee_neg, ee_not, ee_and, ee_or, ee_cmp, ee_cmp2, ee_call, ee_bi, ee_copy, ee_isi, ee_make, ee_meth, ee_attr, ee_idx, ee_sliceTo, ee_sliceFrom, ee_tup, ee_lst, ee_sumAt, ee_rev, ee_strMul, ee_cat, ee_slen, ee_sidx, ee_sTo, ee_sFrom, ee_split, ee_join, ee_upper, ee_giveRepl, ee_strOf, ee_intOf, ee_notIn, ee_inT, ee_notInL, ee_minL, ee_shownL] at h
  refine Call_method1 (base_plain h1) rfl hp ?_
  refine ha l h1 s imm own ι σ ρ m _ E X hl (Post.bind h fun v σ₁ z h' tk imm' own' ι' hx X' hr h₁ => ?_)
  cases hu : onS v fun s => some (.lst (strsV (Txt.split s " "))) with
  | none => rw [hu] at h₁; exact h₁.elim
  | some u =>
    rw [hu] at h₁
    obtain ⟨s1, rfl, l1, hu2⟩ := onS_inv hu
    cases hu2
    obtain ⟨t1, rfl⟩ := inv_str hr
    refine on_str F.slot_str_split F.type_str_split (Calls.Constant_str ?_)
    refine splitN1 X'.fr X'.news (by decide) (fun q h'' k e F' N' => ?_) (sl10 (by omega))
    have rs : Reps c.B imm' ι' (strsV (Txt.split s1 " ")) (strValues q) := e ▸ Reps.strs q
    simp only [ofOpt, R.bind] at h₁
    cases own₁ with
    | false => exact h₁ _ h'' k _ own' ι' (Ext.imm _) (X'.newImm (o := lstObj _ 0) F' N' fun p hp => X'.lt p hp) (.lst (n := 0) (.head _) (rs.mono (Ext.imm _)))
    | true => exact h₁ _ h'' k imm' _ _ (Ext.own _) (X'.newList (n := 0) F' N' (fun p hp => X'.lt p hp) rs) X'.locNew
theorem sound_join {a : ME} (ha : SoundE c x Φ a) : SoundE c x Φ (.join a) := by
  intro e hm s imm own ι σ ρ m Q E X hl h
  obtain ⟨p1, p2, y, pa, r, pc, rfl, hk⟩ := mt_join hm
  obtain ⟨hk, hp⟩ := and_inv hk
  obtain ⟨hy, h1⟩ := and_inv hk
  obtain rfl := beq_iff_eq.mp hy
  simp only [ee_var, ee_cint, ee_cstr, ee_cnone, ee_cbool, ee_gint, ee_gstr, ee_bin, ee_neg, ee_not, ee_and, ee_or, ee_cmp, ee_cmp2, ee_call, ee_bi, ee_copy, ee_isi, ee_make, ee_meth, ee_attr, ee_idx, ee_sliceTo, ee_sliceFrom, ee_tup, ee_lst, ee_sumAt, ee_rev, ee_strMul, ee_cat, ee_slen, ee_sidx, ee_sTo, ee_sFrom, ee_split, ee_join, ee_upper, ee_giveRepl, ee_strOf, ee_intOf, ee_notIn, ee_inT, ee_notInL, ee_minL, ee_shownL] at h
  refine Call_method1 rfl (star_cons h1) hp ?_
  refine Calls.Constant_str (on_str F.slot_str_join F.type_str_join ?_)
  refine ha r h1 _ imm own ι σ ρ m _ E X hl (Post.bind h fun v σ₁ z h' tk imm' own' ι' hx X' hr h₁ => ?_)
  obtain ⟨u, hu, h₂⟩ := Post.opt h₁
  obtain ⟨ys, hys, hu2⟩ := Option.bind_eq_some_iff.mp hu
  obtain ⟨vs, hvs, hs⟩ := Option.bind_eq_some_iff.mp hys
  unfold joinV at hu2
  split at hu2
  · rename_i hlen
    cases hu2
    obtain ⟨ax, xs, rfl, hL, rs⟩ := X'.isList hr hvs
    refine join_list hL (strsL_reps rs hs) ?_ fun t' k => Post.ok (tk := k) h₂ X' (.str _ _)
    have : (" " : Str).length = 1 := by decide
    rw [this]; omega
  · cases hu2
theorem sound_upper {a : ME} (ha : SoundE c x Φ a) : SoundE c x Φ (.upper a) := by
  intro e hm s imm own ι σ ρ m Q E X hl h
  obtain ⟨l, y, pa, pc, rfl, hk⟩ := mt_upper hm
  obtain ⟨hk, hp⟩ := and_inv hk
  obtain ⟨hy, h1⟩ := and_inv hk
  obtain rfl := beq_iff_eq.mp hy
  simp only [ee_var, ee_cint, ee_cstr, ee_cnone, ee_cbool, ee_gint, ee_gstr, ee_bin, ee_neg, ee_not, ee_and, ee_or, ee_cmp, ee_cmp2, ee_call, ee_bi, ee_copy, ee_isi, ee_make, ee_meth, ee_attr, ee_idx, ee_sliceTo, ee_sliceFrom, ee_tup, ee_lst, ee_sumAt, ee_rev, ee_strMul, ee_cat, ee_slen, ee_sidx, ee_sTo, ee_sFrom, ee_split, ee_join, ee_upper, ee_giveRepl, ee_strOf, ee_intOf, ee_notIn, ee_inT, ee_notInL, ee_minL, ee_shownL] at h
  refine Call_method0 (base_plain h1) hp ?_
  refine ha l h1 s imm own ι σ ρ m _ E X hl (Post.bind h fun v σ₁ z h' tk imm' own' ι' hx X' hr h₁ => ?_)
  obtain ⟨u, hu, h₂⟩ := Post.opt h₁
  obtain ⟨s1, rfl, l1, hu2⟩ := onS_inv hu
  cases hu2
  obtain ⟨t1, rfl⟩ := inv_str hr
  exact SB.upper (fit_upper (by omega)) (Post.ok h₂ X' (.str _ _))
theorem sound_strOf (F : Frm c x d) (TK : TopOk c P) {a : ME} (ha : SoundE c x Φ a) : SoundE c x Φ (.strOf a) := by
  intro e hm s imm own ι σ ρ m Q E X hl h
  obtain ⟨y, p1, r, p2, rfl, hk⟩ := mt_strOf hm
  obtain ⟨hk, hr⟩ := and_inv hk
  obtain ⟨hy, hg⟩ := and_inv hk
  obtain rfl := beq_iff_eq.mp hy
  simp only [ee_var, ee_cint, ee_cstr, ee_cnone, ee_cbool, ee_gint, ee_gstr, ee_bin, ee_neg, ee_not, ee_and, ee_or, ee_cmp, ee_cmp2, ee_call, ee_bi, ee_copy, ee_isi, ee_make, ee_meth, ee_attr, ee_idx, ee_sliceTo, ee_sliceFrom, ee_tup, ee_lst, ee_sumAt, ee_rev, ee_strMul, ee_cat, ee_slen, ee_sidx, ee_sTo, ee_sFrom, ee_split, ee_join, ee_upper, ee_giveRepl, ee_strOf, ee_intOf, ee_notIn, ee_inT, ee_notInL, ee_minL, ee_shownL] at h
  refine callT F TK ha boot_str (by decide) (by decide) (by decide) hg hr X hl h fun v z s imm own ι σ X hv h => ?_
  obtain ⟨u, hu, h⟩ := Post.opt h
  obtain ⟨n, hn, hu2⟩ := Option.bind_eq_some_iff.mp hu
  obtain rfl := asInt_inv hn
  obtain ⟨t1, rfl⟩ := inv_int hv
  unfold textV at hu2
  split at hu2
  · cases hu2
    exact PySem.P.str_of_int ‹_› (Post.ok h X (.str _ _))
  · cases hu2
theorem sound_intOf (F : Frm c x d) (TK : TopOk c P) {a : ME} (ha : SoundE c x Φ a) : SoundE c x Φ (.intOf a) := by
  intro e hm s imm own ι σ ρ m Q E X hl h
  obtain ⟨y, p1, r, p2, rfl, hk⟩ := mt_intOf hm
  obtain ⟨hk, hr⟩ := and_inv hk
  obtain ⟨hy, hg⟩ := and_inv hk
  obtain rfl := beq_iff_eq.mp hy
  simp only [ee_var, ee_cint, ee_cstr, ee_cnone, ee_cbool, ee_gint, ee_gstr, ee_bin, ee_neg, ee_not, ee_and, ee_or, ee_cmp, ee_cmp2, ee_call, ee_bi, ee_copy, ee_isi, ee_make, ee_meth, ee_attr, ee_idx, ee_sliceTo, ee_sliceFrom, ee_tup, ee_lst, ee_sumAt, ee_rev, ee_strMul, ee_cat, ee_slen, ee_sidx, ee_sTo, ee_sFrom, ee_split, ee_join, ee_upper, ee_giveRepl, ee_strOf, ee_intOf, ee_notIn, ee_inT, ee_notInL, ee_minL, ee_shownL] at h
  refine callT F TK ha boot_int (by decide) (by decide) (by decide) hg hr X hl h fun v z s imm own ι σ X hv h => ?_
  obtain ⟨u, hu, h⟩ := Post.opt h
  obtain ⟨s1, rfl, l1, hu2⟩ := onS_inv hu
  obtain ⟨t1, rfl⟩ := inv_str hv
  unfold numV at hu2
  split at hu2
  · obtain ⟨n, hn, rfl⟩ := Option.map_eq_some_iff.mp hu2
    exact KIN.call_text hn ‹_› (Post.ok h X (.int _ _))
  · cases hu2
theorem sound_notIn {a b : ME} (ha : SoundE c x Φ a) (hb : SoundE c x Φ b) : SoundE c x Φ (.notIn a b) := by
  intro e hm s imm own ι σ ρ m Q E X hl h
  obtain ⟨l, r, p, rfl, hk⟩ := mt_notIn hm
  obtain ⟨h1, h2⟩ := and_inv hk
  simp only [ee_var, ee_cint, ee_cstr, ee_cnone, ee_cbool, ee_gint, ee_gstr, ee_bin, ee_neg, ee_not, ee_and, ee_or, ee_cmp, ee_cmp2, ee_call, ee_bi, ee_copy, ee_isi, ee_make, ee_meth, ee_attr, ee_idx, ee_sliceTo, ee_sliceFrom, ee_tup, ee_lst, ee_sumAt, ee_rev, ee_strMul, ee_cat, ee_slen, ee_sidx, ee_sTo, ee_sFrom, ee_split, ee_join, ee_upper, ee_giveRepl, ee_strOf, ee_intOf, ee_notIn, ee_inT, ee_notInL, ee_minL, ee_shownL] at h
  refine wpAny_Compare1 (sound_two ha hb h1 h2 X hl h fun v w y z s imm own ι σ X hv hw h => ?_) (marks_no h2)
  obtain ⟨u, hu, h⟩ := Post.opt h
  obtain ⟨s1, rfl, l1, hu⟩ := onS_inv hu
  obtain ⟨s2, rfl, l2, hu⟩ := onS_inv hu
  cases hu
  obtain ⟨t1, rfl⟩ := inv_str hv
  obtain ⟨t2, rfl⟩ := inv_str hw
  exact SB.notContains (Post.ok (tk := s.toks) h X (.bool _))
theorem strsOk_mts {T : Tops} {G : Str → Bool} {S : List Str} {M : Nat → Option Str} : ∀ {ws : List Str} {es : List Expr}, strsOk ws es = true → mts T G S M (ws.map .cstr) es = true ∧ es.length = ws.length
  | [], es, h => by
    obtain rfl := nil_inv h
    exact ⟨rfl, rfl⟩
  | w :: ws, [], h => by cases h
  | w :: ws, e :: es, h => by
    obtain ⟨h1, h2⟩ := and_inv h
    obtain ⟨q, h3, h4⟩ := any_inv h1
    obtain ⟨i1, i2⟩ := strsOk_mts (ws := ws) (es := es) h2
    have e0 := vConstant_inv h3
    have e1 := of_decide_eq_true h4
    refine ⟨?_, congrArg (· + 1) i2⟩
    rw [e0, e1]
    show (mt T G S M (.cstr w) (.Constant (.str w) q.2.1 q.2.2) && mts T G S M (ws.map .cstr) es) = true
    rw [i1]
    show (decide (Const.str w = .str w) && true && true) = true
    simp
theorem evalEs_strs {ρ : Loc} {σ : Store} : ∀ ws : List Str, evalEs Φ ρ (ws.map .cstr) σ = .ok (strsV ws) σ
  | [] => rfl
  | w :: ws => by
    simp only [List.map_cons, es_0, es_1, ee_var, ee_cint, ee_cstr, ee_cnone, ee_cbool, ee_gint, ee_gstr, ee_bin, ee_neg, ee_not, ee_and, ee_or, ee_cmp, ee_cmp2, ee_call, ee_bi, ee_copy, ee_isi, ee_make, ee_meth, ee_attr, ee_idx, ee_sliceTo, ee_sliceFrom, ee_tup, ee_lst, ee_sumAt, ee_rev, ee_strMul, ee_cat, ee_slen, ee_sidx, ee_sTo, ee_sFrom, ee_split, ee_join, ee_upper, ee_giveRepl, ee_strOf, ee_intOf, ee_notIn, ee_inT, ee_notInL, ee_minL, ee_shownL, R.bind, evalEs_strs ws]
theorem strsL_strs : ∀ ws : List Str, strsL (strsV ws) = some ws
  | [] => rfl
  | w :: ws => by
    simp only [List.map_cons, strsL, V.asStr, Option.bind_some, strsL_strs ws, Option.map_some]
theorem sound_inT (hes : ∀ ws : List Str, SoundEs c x Φ (ws.map .cstr)) {ws : List Str} {a : ME} (ha : SoundE c x Φ a) : SoundE c x Φ (.inT ws a) := by
  intro e hm s imm own ι σ ρ m Q E X hl h
  obtain ⟨l, es, p1, p2, p3, rfl, hk⟩ := mt_inT hm
  obtain ⟨hk, hlen⟩ := and_inv hk
  obtain ⟨h1, h2⟩ := and_inv hk
  obtain ⟨h3, h4⟩ := strsOk_mts (T := c.T) (G := x.G) (S := x.S) (M := c.M) h2
  have hlen := of_decide_eq_true hlen
  have hmt : mt c.T x.G x.S c.M (.tup (ws.map .cstr)) (.Tuple es p1 p2) = true := by
    show (mts c.T x.G x.S c.M (ws.map .cstr) es && decide (es.length ≤ 1000)) = true
    rw [h3, decide_eq_true (by omega)]; rfl
  simp only [ee_var, ee_cint, ee_cstr, ee_cnone, ee_cbool, ee_gint, ee_gstr, ee_bin, ee_neg, ee_not, ee_and, ee_or, ee_cmp, ee_cmp2, ee_call, ee_bi, ee_copy, ee_isi, ee_make, ee_meth, ee_attr, ee_idx, ee_sliceTo, ee_sliceFrom, ee_tup, ee_lst, ee_sumAt, ee_rev, ee_strMul, ee_cat, ee_slen, ee_sidx, ee_sTo, ee_sFrom, ee_split, ee_join, ee_upper, ee_giveRepl, ee_strOf, ee_intOf, ee_notIn, ee_inT, ee_notInL, ee_minL, ee_shownL] at h
  refine wpAny_Compare1 ?_ rfl
  refine ha l h1 s imm own ι σ ρ m _ E X hl (Post.bind h fun v σ₁ y h' tk imm' own' ι' hx X' hr h₁ => ?_)
  obtain ⟨u, hu, h₂⟩ := Post.opt h₁
  obtain ⟨s1, rfl, l1, hu2⟩ := onS_inv hu
  cases hu2
  refine sound_tup (hes ws) _ hmt _ imm' own' ι' σ₁ ρ m _ E X' (hl.mono hx) ?_
  rw [show evalE Φ ρ (.tup (ws.map .cstr)) σ₁ = .ok (.tup (strsV ws)) σ₁ by simp only [ee_var, ee_cint, ee_cstr, ee_cnone, ee_cbool, ee_gint, ee_gstr, ee_bin, ee_neg, ee_not, ee_and, ee_or, ee_cmp, ee_cmp2, ee_call, ee_bi, ee_copy, ee_isi, ee_make, ee_meth, ee_attr, ee_idx, ee_sliceTo, ee_sliceFrom, ee_tup, ee_lst, ee_sumAt, ee_rev, ee_strMul, ee_cat, ee_slen, ee_sidx, ee_sTo, ee_sFrom, ee_split, ee_join, ee_upper, ee_giveRepl, ee_strOf, ee_intOf, ee_notIn, ee_inT, ee_notInL, ee_minL, ee_shownL, evalEs_strs, R.bind]]
  intro z h'' tk' imm'' own'' ι'' hx' X'' hr'
  obtain ⟨t1, rfl⟩ := inv_str hr
  obtain ⟨b, xs, rfl, hT, rs⟩ := X''.isTup hr'
  exact in_tuple_strs hT (strsL_reps rs (strsL_strs ws)) (h₂ _ h'' tk' imm'' own'' ι'' hx' X'' (.bool _))
theorem sound_notInL (hes : ∀ ws : List Str, SoundEs c x Φ (ws.map .cstr)) {ws : List Str} {a : ME} (ha : SoundE c x Φ a) : SoundE c x Φ (.notInL ws a) := by
  intro e hm s imm own ι σ ρ m Q E X hl h
  obtain ⟨l, es, p1, p3, rfl, hk⟩ := mt_notInL hm
  obtain ⟨hk, hlen⟩ := and_inv hk
  obtain ⟨h1, h2⟩ := and_inv hk
  obtain ⟨h3, h4⟩ := strsOk_mts (T := c.T) (G := x.G) (S := x.S) (M := c.M) h2
  have hlen := of_decide_eq_true hlen
  have hmt : mt c.T x.G x.S c.M (.lst false (ws.map .cstr)) (.List es p1) = true := by
    show (mts c.T x.G x.S c.M (ws.map .cstr) es && decide (es.length ≤ 1000)) = true
    rw [h3, decide_eq_true (by omega)]; rfl
  simp only [ee_var, ee_cint, ee_cstr, ee_cnone, ee_cbool, ee_gint, ee_gstr, ee_bin, ee_neg, ee_not, ee_and, ee_or, ee_cmp, ee_cmp2, ee_call, ee_bi, ee_copy, ee_isi, ee_make, ee_meth, ee_attr, ee_idx, ee_sliceTo, ee_sliceFrom, ee_tup, ee_lst, ee_sumAt, ee_rev, ee_strMul, ee_cat, ee_slen, ee_sidx, ee_sTo, ee_sFrom, ee_split, ee_join, ee_upper, ee_giveRepl, ee_strOf, ee_intOf, ee_notIn, ee_inT, ee_notInL, ee_minL, ee_shownL] at h
  refine wpAny_Compare1 ?_ rfl
  refine ha l h1 s imm own ι σ ρ m _ E X hl (Post.bind h fun v σ₁ y h' tk imm' own' ι' hx X' hr h₁ => ?_)
  obtain ⟨u, hu, h₂⟩ := Post.opt h₁
  obtain ⟨s1, rfl, l1, hu2⟩ := onS_inv hu
  cases hu2
  refine sound_lst (hes ws) _ hmt _ imm' own' ι' σ₁ ρ m _ E X' (hl.mono hx) ?_
  rw [show evalE Φ ρ (.lst false (ws.map .cstr)) σ₁ = .ok (.lst (strsV ws)) σ₁ by simp only [ee_var, ee_cint, ee_cstr, ee_cnone, ee_cbool, ee_gint, ee_gstr, ee_bin, ee_neg, ee_not, ee_and, ee_or, ee_cmp, ee_cmp2, ee_call, ee_bi, ee_copy, ee_isi, ee_make, ee_meth, ee_attr, ee_idx, ee_sliceTo, ee_sliceFrom, ee_tup, ee_lst, ee_sumAt, ee_rev, ee_strMul, ee_cat, ee_slen, ee_sidx, ee_sTo, ee_sFrom, ee_split, ee_join, ee_upper, ee_giveRepl, ee_strOf, ee_intOf, ee_notIn, ee_inT, ee_notInL, ee_minL, ee_shownL, evalEs_strs, R.bind]; rfl]
  intro z h'' tk' imm'' own'' ι'' hx' X'' hr'
  obtain ⟨t1, rfl⟩ := inv_str hr
  obtain ⟨b, xs, rfl, hL, rs⟩ := X''.isList hr' rfl
  exact notin_list_strs hL (strsL_reps rs (strsL_strs ws)) (h₂ _ h'' tk' imm'' own'' ι'' hx' X'' (.bool _))
theorem soundEs_strs : ∀ ws : List Str, SoundEs c x Φ (ws.map .cstr)
  | [] => sound_nil
  | w :: ws => sound_cons sound_cstr (soundEs_strs ws)
theorem intsOf_reps {B : Bas} {imm : Led} {ι : List Addr} : ∀ {vs : List V} {xs : List Value} {is : List Int}, Reps B imm ι vs xs → intsOf vs = some is → (∀ y ∈ xs, ∃ i t, y = Value.int i t) ∧ numsOf xs = is
  | [], _, is, .nil, h => by cases h; exact ⟨nofun, rfl⟩
  | .int i :: vs, _, is, .cons hv hr, h => by
    obtain ⟨r, h2, rfl⟩ := Option.map_eq_some_iff.mp (show (intsOf vs).map (i :: ·) = some is from h)
    obtain ⟨t, rfl⟩ := inv_int hv
    obtain ⟨q1, q2⟩ := intsOf_reps hr h2
    refine ⟨fun y hy => ?_, ?_⟩
    · rcases List.mem_cons.mp hy with rfl | hy
      · exact ⟨_, _, rfl⟩
      · exact q1 y hy
    · simp only [numsOf, q2]
  | .none :: _, _, _, _, h => by cases h
  | .bool _ :: _, _, _, _, h => by cases h
  | .str _ :: _, _, _, _, h => by cases h
  | .tup _ :: _, _, _, _, h => by cases h
  | .lst _ :: _, _, _, _, h => by cases h
  | .loc _ :: _, _, _, _, h => by cases h
  | .exc _ :: _, _, _, _, h => by cases h
theorem foldl_min : ∀ (r : List Int) (a : Int), (r.foldl min a = a ∨ r.foldl min a ∈ r) ∧ r.foldl min a ≤ a ∧ ∀ z ∈ r, r.foldl min a ≤ z
  | [], a => ⟨.inl rfl, Int.le_refl _, nofun⟩
  | b :: r, a => by
    obtain ⟨h1, h2, h3⟩ := foldl_min r (min a b)
    simp only [List.foldl_cons]
    refine ⟨?_, by omega, fun z hz => ?_⟩
    · rcases h1 with h1 | h1
      · rcases Int.le_total a b with h | h
        · left; rw [h1]; omega
        · right; rw [h1, show min a b = b by omega]; exact List.mem_cons_self ..
      · exact .inr (List.mem_cons_of_mem _ h1)
    · rcases List.mem_cons.mp hz with rfl | hz
      · omega
      · exact h3 z hz
theorem min_is {a : Int} {r : List Int} {M : Int} (h1 : M ∈ a :: r) (h2 : ∀ z ∈ a :: r, M ≤ z) : M = r.foldl min a := by
  obtain ⟨q1, q2, q3⟩ := foldl_min r a
  have : r.foldl min a ∈ a :: r := by
    rcases q1 with q1 | q1
    · rw [q1]; exact List.mem_cons_self ..
    · exact List.mem_cons_of_mem _ q1
  have a1 := h2 _ this
  have a2 : r.foldl min a ≤ M := by
    rcases List.mem_cons.mp h1 with rfl | h1
    · exact q2
    · exact q3 _ h1
  omega
theorem sound_minL (F : Frm c x d) (TK : TopOk c P) (hq : x.quiet = false) {a : ME} (ha : SoundE c x Φ a) : SoundE c x Φ (.minL a) := by
  intro e hm s imm own ι σ ρ m Q E X hl h
  obtain ⟨y, p1, r, p2, rfl, hk⟩ := mt_minL hm
  obtain ⟨hk, hr⟩ := and_inv hk
  obtain ⟨hy, hg⟩ := and_inv hk
  obtain rfl := beq_iff_eq.mp hy
  simp only [ee_var, ee_cint, ee_cstr, ee_cnone, ee_cbool, ee_gint, ee_gstr, ee_bin, ee_neg, ee_not, ee_and, ee_or, ee_cmp, ee_cmp2, ee_call, ee_bi, ee_copy, ee_isi, ee_make, ee_meth, ee_attr, ee_idx, ee_sliceTo, ee_sliceFrom, ee_tup, ee_lst, ee_sumAt, ee_rev, ee_strMul, ee_cat, ee_slen, ee_sidx, ee_sTo, ee_sFrom, ee_split, ee_join, ee_upper, ee_giveRepl, ee_strOf, ee_intOf, ee_notIn, ee_inT, ee_notInL, ee_minL, ee_shownL] at h
  refine call1 F TK ha boot_min (by decide) (by decide) (by decide) hg hr X hl h fun v z s imm own ι σ X hv h => ?_
  obtain ⟨u, hu, h⟩ := Post.opt h
  obtain ⟨is, his, hu2⟩ := Option.bind_eq_some_iff.mp hu
  obtain ⟨vs, hvs, hi⟩ := Option.bind_eq_some_iff.mp his
  obtain ⟨ax, xs, rfl, hL, rs⟩ := X.isList hv hvs
  obtain ⟨q1, q2⟩ := intsOf_reps rs hi
  have hall : AllInts xs.toArray := fun v hv => q1 v (by simpa using hv)
  obtain ⟨zs, hzs⟩ := hall.items
  rw [hzs] at hL
  have e0 : xs = (intItems zs).toList := by rw [← hzs]
  rw [e0, nums_intItems] at q2
  unfold minV at hu2
  split at hu2
  · cases hu2
  · rename_i a0 r0
    split at hu2
    · cases hu2
      have hsz : 0 < zs.size := by
        have := congrArg List.length q2
        simp at this; omega
      refine min_intList (F.calm hq) hL hsz fun v h' tk hv hk => ?_
      obtain ⟨t, rfl⟩ := intItems_at hv
      obtain ⟨g1, g2⟩ := argBest_lt (numAt zs) (zs.size - 1)
      have hM : numAt zs (argBest (fun i j => decide (numAt zs i < numAt zs j)) (zs.size - 1)) = r0.foldl min a0 := by
        refine min_is ?_ fun z hz => ?_
        · rw [← q2, numAt_eq]; exact getD_mem (by rw [List.length_map, Array.length_toList]; omega)
        · rw [← q2] at hz
          obtain ⟨j, hj, rfl⟩ := mem_getD hz
          rw [List.length_map, Array.length_toList] at hj
          rw [← numAt_eq]; exact g2 j (by omega)
      rw [hM]
      exact h _ h' tk imm own ι Ext.refl (X.keeps hk) (.int _ _)
    · cases hu2
theorem sound_giveRepl (F : Frm c x d) {i : Nat} : SoundE c x Φ (.giveRepl i) := by
  intro e hm s imm own ι σ ρ m Q E X hl h
  obtain ⟨p1, p2, y, p3, p4, p5, p6, p7, p8, z, p9, nm, pa, p10, p11, p12, p13, pc, p14, rfl, hk⟩ := mt_giveRepl hm
  obtain ⟨hk, hp⟩ := and_inv hk
  obtain ⟨hk, hd⟩ := and_inv hk
  obtain ⟨hk, hyz⟩ := and_inv hk
  obtain ⟨hnm, hy⟩ := and_inv hk
  obtain rfl := beq_iff_eq.mp hnm
  obtain rfl := beq_iff_eq.mp hyz
  have hy' := beq_iff_eq.mp hy
  have hd' : (y == ("__debug__" : Str)) = false := by simpa using hd
  simp only [ee_var, ee_cint, ee_cstr, ee_cnone, ee_cbool, ee_gint, ee_gstr, ee_bin, ee_neg, ee_not, ee_and, ee_or, ee_cmp, ee_cmp2, ee_call, ee_bi, ee_copy, ee_isi, ee_make, ee_meth, ee_attr, ee_idx, ee_sliceTo, ee_sliceFrom, ee_tup, ee_lst, ee_sumAt, ee_rev, ee_strMul, ee_cat, ee_slen, ee_sidx, ee_sTo, ee_sFrom, ee_split, ee_join, ee_upper, ee_giveRepl, ee_strOf, ee_intOf, ee_notIn, ee_inT, ee_notInL, ee_minL, ee_shownL] at h
  split at h
  · rename_i v hv
    obtain ⟨u, hu, h⟩ := Post.opt h
    obtain ⟨s1, rfl, l1, hu2⟩ := onS_inv hu
    cases hu2
    obtain ⟨yv, hmy, hry⟩ := hl i y _ hy' hv
    obtain ⟨t1, rfl⟩ := inv_str hry
    refine List_ (args_cons ?_ rfl)
    refine wpAny_BinOp (Calls.Constant_str ?_)
    refine wpAny_with_toks (n := 1) (by show 1 ≤ s.toks + 1; omega) ?_
    have hmt : mt c.T x.G x.S c.M (.sFrom (.var i) (.cint 3)) (.Subscript (.Name y p3) (.Slice (some (.Constant (.int 3) p4 p5)) none none p6) p7) = true := by
      show ((x.S[i]? == some y && y != ("__debug__" : Str)) && true) = true
      rw [hy, hd]; rfl
    refine sound_sFrom (Φ := Φ) (sound_var F) sound_cint _ hmt _ imm own ι σ ρ m _ _ X hl ?_
    rw [show evalE Φ ρ (.sFrom (.var i) (.cint 3)) σ = .ok (.str (Txt.slice s1 (some 3) none)) σ by
      simp only [ee_var, ee_cint, ee_cstr, ee_cnone, ee_cbool, ee_gint, ee_gstr, ee_bin, ee_neg, ee_not, ee_and, ee_or, ee_cmp, ee_cmp2, ee_call, ee_bi, ee_copy, ee_isi, ee_make, ee_meth, ee_attr, ee_idx, ee_sliceTo, ee_sliceFrom, ee_tup, ee_lst, ee_sumAt, ee_rev, ee_strMul, ee_cat, ee_slen, ee_sidx, ee_sTo, ee_sFrom, ee_split, ee_join, ee_upper, ee_giveRepl, ee_strOf, ee_intOf, ee_notIn, ee_inT, ee_notInL, ee_minL, ee_shownL, hv, R.bind, scutV, onS, V.asStr, V.asInt, Option.bind_some]
      rw [if_pos l1]; rfl]
    intro y2 h' tk imm' own' ι' hx X' hr hpos
    obtain ⟨t2, rfl⟩ := inv_str hr
    refine wpAny_with_toks (n := 1) hpos ?_
    have hsl : (Txt.slice s1 (some 3) none).length ≤ 10000 := Nat.le_trans (Txt.slice_le s1 _ _) l1
    refine SB.add (fun t' k hpos2 => ?_) (sl10 (by have : ("give" : Str).length = 4 := by decide
                                                   omega))
    refine args_cons ?_ rfl
    refine Call_method2 rfl rfl hp ?_
    refine ld X'.fr hmy ?_ F.kind (F.loc y (List.mem_of_getElem? hy')) hd'
    refine ⟨"str", "str.replace", PySem.F.plainAttrs_str, PySem.F.slot_str_replace, PySem.F.type_str_replace, typeIs_str _ _ _, (fun _ e => nomatch e), Calls.callWith_builtin rfl (Calls.evalArgs_plain (Calls.spliced_cons (Calls.Constant_str (Calls.spliced_cons (Calls.Constant_str (Calls.spliced_nil ?_))))))⟩
    have hk1 : 1 ≤ k := hpos2
    refine SC.replaceW (show k ≠ 0 by omega) (show k + 1 ≠ 0 by omega) (show k ≠ k + 1 by omega) (by decide) (by omega) (by decide) fun t3 k3 => ?_
    refine args_nil ?_
    refine newList_N X'.fr X'.news (fun h'' F'' N'' => ?_) (by show 2 ≤ sizeLine; decide)
    exact h _ h'' k3 _ own' ι' (hx.trans (Ext.imm _)) (X'.newImm F'' N'' fun p hp => X'.lt p hp) (.lst (.head _) (.cons (.str _ _) (.cons (.str _ _) .nil)))
  · exact h.elim
theorem tailOk_inv {S : List Str} {j : Nat} {e : Expr} (h : tailOk S j e = true) : ∃ n p1 p2 p3 p4 p5, e = .Subscript (.Name n p1) (.Slice (some (.Constant (.int 1) p2 p3)) none none p4) p5 ∧ S[j]? = some n ∧ (n != ("__debug__" : Str)) = true := by
  obtain ⟨q, h1, h⟩ := any_inv h
  obtain ⟨n, h2, h⟩ := any_inv h
  obtain ⟨h3, h⟩ := and_inv h
  obtain ⟨h4, h⟩ := and_inv h
  obtain ⟨r, h5, h⟩ := any_inv h
  obtain ⟨h6, h⟩ := and_inv h
  obtain ⟨h7, h⟩ := and_inv h
  obtain ⟨z, h8, h⟩ := any_inv h
  obtain ⟨k, h9, h⟩ := any_inv h
  refine ⟨n.1, n.2, k.2.1, k.2.2, r.2.2.2, q.2.2, ?_, beq_iff_eq.mp h3, h4⟩
  rw [vSubscript_inv h1, vName_inv h2, vSlice_inv h5, h8, non_inv h6, non_inv h7, vConstant_inv h9, of_decide_eq_true h]
/-- a comprehension's one loop over a name -/
theorem gOk_inv {y : Str} {g : Comprehension} (h : gOk y g = true) : ∃ p, g = ⟨.Name y p, g.iter, [], 0⟩ := by
  obtain ⟨gt, gi, gf, ga⟩ := g
  obtain ⟨h1, h⟩ := and_inv h
  obtain ⟨h2, h3⟩ := and_inv h
  obtain ⟨⟨q, pq⟩, h5, h6⟩ := any_inv h1
  have e1 := vName_inv h5
  have e2 := nil_inv h2
  have e3 := of_decide_eq_true h3
  have e4 := beq_iff_eq.mp h6
  dsimp only at e1 e2 e3 e4
  subst e1 e2 e3 e4
  exact ⟨pq, rfl⟩
structure ScG (y f : Str) (sc : Scope) : Prop where
  kind : sc.kind = .function
  loc : sc.names.lookup y = some .local
  glob : sc.names.lookup f = some .globalImplicit
  all : ∀ p ∈ sc.names, (p.2 = .local ∧ sc.names.lookup p.1 = some .local) ∨ p.2 = .globalImplicit
theorem scOkG_inv {y f : Str} {sc : Scope} (h : scOkG y f sc = true) : ScG y f sc := by
  obtain ⟨h1, h⟩ := and_inv h
  obtain ⟨h2, h⟩ := and_inv h
  obtain ⟨h3, h⟩ := and_inv h
  rw [List.all_eq_true] at h
  refine ⟨of_decide_eq_true h1, of_decide_eq_true h2, of_decide_eq_true h3, fun p hp => ?_⟩
  have := h p hp
  rw [Bool.or_eq_true] at this
  rcases this with q | q
  · exact .inl ⟨of_decide_eq_true (and_inv q).1, of_decide_eq_true (and_inv q).2⟩
  · exact .inr (of_decide_eq_true q)
theorem ScG.free {y f : Str} {sc : Scope} (G : ScG y f sc) : ∀ p ∈ sc.names, p.2 ≠ .free := fun p hp => by
  rcases G.all p hp with q | q
  · rw [q.1]; decide
  · rw [q]; decide
theorem ScG.cell {y f : Str} {sc : Scope} (G : ScG y f sc) : ∀ p ∈ sc.names, p.2 ≠ .cell := fun p hp => by
  rcases G.all p hp with q | q
  · rw [q.1]; decide
  · rw [q]; decide
theorem ScG.names {y f : Str} {sc : Scope} (G : ScG y f sc) : ∀ p ∈ sc.names, p.2 = .local → sc.names.lookup p.1 = some .local := fun p hp e => by
  rcases G.all p hp with q | q
  · exact q.2
  · rw [q] at e; cases e
/-- the texts of ints, one by one -/
noncomputable def TextOf (v y : Value) : Prop := ∃ (n : Int) (t u : Tok), v = .int n t ∧ y = .str (Str.ofString (toString n)) u
theorem texts_paired {B : Bas} {imm : Led} {ι : List Addr} : ∀ {vs : List V} {xs ys : List Value} {is : List Int} {ts : List V}, Reps B imm ι vs xs → intsOf vs = some is → texts is = some ts → Paired TextOf xs ys → Reps B imm ι ts ys
  | [], _, _, is, ts, .nil, h, ht, .nil => by cases h; cases ht; exact .nil
  | .int i :: vs, _, _, is, ts, .cons hv hr, h, ht, .cons hp hps => by
    obtain ⟨r, h2, rfl⟩ := Option.map_eq_some_iff.mp (show (intsOf vs).map (i :: ·) = some is from h)
    simp only [texts] at ht
    obtain ⟨u, h3, ht⟩ := Option.bind_eq_some_iff.mp ht
    obtain ⟨us, h4, rfl⟩ := Option.map_eq_some_iff.mp ht
    unfold textV at h3
    split at h3
    · cases h3
      obtain ⟨n, t, u, e1, rfl⟩ := hp
      obtain ⟨t', e2⟩ := inv_int hv
      rw [e1] at e2
      cases e2
      exact .cons (.str _ _) (texts_paired hr h2 h4 hps)
    · cases h3
  | .none :: _, _, _, _, _, _, h, _, _ => by cases h
  | .bool _ :: _, _, _, _, _, _, h, _, _ => by cases h
  | .str _ :: _, _, _, _, _, _, h, _, _ => by cases h
  | .tup _ :: _, _, _, _, _, _, h, _, _ => by cases h
  | .lst _ :: _, _, _, _, _, _, h, _, _ => by cases h
  | .loc _ :: _, _, _, _, _, _, h, _, _ => by cases h
  | .exc _ :: _, _, _, _, _, _, h, _, _ => by cases h
theorem texts_fit : ∀ {is : List Int} {ts : List V}, texts is = some ts → ts.length = is.length ∧ ∀ n ∈ is, n.natAbs.log2 < 1920
  | [], ts, h => by cases h; exact ⟨rfl, nofun⟩
  | n :: is, ts, h => by
    simp only [texts] at h
    obtain ⟨u, h3, h⟩ := Option.bind_eq_some_iff.mp h
    obtain ⟨us, h4, rfl⟩ := Option.map_eq_some_iff.mp h
    obtain ⟨i1, i2⟩ := texts_fit h4
    unfold textV at h3
    split at h3
    · refine ⟨congrArg (· + 1) i1, fun z hz => ?_⟩
      rcases List.mem_cons.mp hz with rfl | hz
      · assumption
      · exact i2 z hz
    · cases h3
theorem sound_shownL (F : Frm c x d) (TK : TopOk c P) (hq : x.quiet = false) {i : Nat} : SoundE c x Φ (.shownL i) := by
  intro e hm s imm own ι σ ρ m Q E X hl h
  obtain ⟨y, p1, p2, p3, p4, p5, f, p6, z, p7, p8, gs, sc, p9, p10, rfl, hk⟩ := mt_shownL hm
  obtain ⟨hk, hgs⟩ := and_inv hk
  obtain ⟨hk, hsc⟩ := and_inv hk
  obtain ⟨hk, hz⟩ := and_inv hk
  obtain ⟨hk, hd⟩ := and_inv hk
  obtain ⟨hf, hy⟩ := and_inv hk
  obtain rfl := beq_iff_eq.mp hf
  have hy' := beq_iff_eq.mp hy
  have hz' : (z == ("__debug__" : Str)) = false := by simpa using hz
  have G := scOkG_inv hsc
  obtain ⟨g, hg1, hg2⟩ := any_inv hgs
  obtain rfl := one_inv hg1
  obtain ⟨hgo, hit⟩ := and_inv hg2
  obtain ⟨pz, ez⟩ := gOk_inv hgo
  obtain ⟨n, q1, q2, q3, q4, q5, eit, hn, hnd⟩ := tailOk_inv hit
  rw [ez]
  simp only [ee_var, ee_cint, ee_cstr, ee_cnone, ee_cbool, ee_gint, ee_gstr, ee_bin, ee_neg, ee_not, ee_and, ee_or, ee_cmp, ee_cmp2, ee_call, ee_bi, ee_copy, ee_isi, ee_make, ee_meth, ee_attr, ee_idx, ee_sliceTo, ee_sliceFrom, ee_tup, ee_lst, ee_sumAt, ee_rev, ee_strMul, ee_cat, ee_slen, ee_sidx, ee_sTo, ee_sFrom, ee_split, ee_join, ee_upper, ee_giveRepl, ee_strOf, ee_intOf, ee_notIn, ee_inT, ee_notInL, ee_minL, ee_shownL] at h
  split at h
  · rename_i v hv
    obtain ⟨u, hu, h⟩ := Post.opt h
    obtain ⟨vs, hvs, hu2⟩ := Option.bind_eq_some_iff.mp hu
    obtain rfl := tupOf_inv hvs
    unfold textsV at hu2
    split at hu2
    · cases hu2
    · rename_i v0 r
      obtain ⟨is, his, hu3⟩ := Option.bind_eq_some_iff.mp hu2
      split at hu3
      · rename_i hlen
        obtain ⟨ts, hts, rfl⟩ := Option.map_eq_some_iff.mp hu3
        obtain ⟨ft1, ft2⟩ := texts_fit hts
        refine wpAny_BinOp ?_
        have hmt1 : mt c.T x.G x.S c.M (.lst false [.idx (.var i) (.cint 0)]) (.List [(.Subscript (.Name y p1) (.Constant (.int 0) p2 p3) p4)] p5) = true := by
          show ((((x.S[i]? == some y && y != ("__debug__" : Str)) && true) && true) && true) = true
          rw [hy, hd]; rfl
        refine sound_lst (Φ := Φ) (sound_cons (sound_idx (sound_var F) sound_cint) sound_nil) _ hmt1 s imm own ι σ ρ m _ E X hl ?_
        rw [show evalE Φ ρ (.lst false [.idx (.var i) (.cint 0)]) σ = .ok (.lst [v0]) σ by
          simp only [ee_var, ee_cint, ee_cstr, ee_cnone, ee_cbool, ee_gint, ee_gstr, ee_bin, ee_neg, ee_not, ee_and, ee_or, ee_cmp, ee_cmp2, ee_call, ee_bi, ee_copy, ee_isi, ee_make, ee_meth, ee_attr, ee_idx, ee_sliceTo, ee_sliceFrom, ee_tup, ee_lst, ee_sumAt, ee_rev, ee_strMul, ee_cat, ee_slen, ee_sidx, ee_sTo, ee_sFrom, ee_split, ee_join, ee_upper, ee_giveRepl, ee_strOf, ee_intOf, ee_notIn, ee_inT, ee_notInL, ee_minL, ee_shownL, es_0, es_1, hv, R.bind, itemV, seqOf, V.asInt, Option.bind_some]; rfl]
        intro w h' tk imm' own' ι' hx X' hr
        have hmt2 : mt c.T x.G x.S c.M (.sliceFrom false (.var i) (.cint 1)) g.iter = true := by
          rw [eit]
          show ((x.S[i]? == some n && n != ("__debug__" : Str)) && true) = true
          rw [hn, hnd]; simp
        have hilen : is.length = r.length := by
          have : ∀ {r : List V} {is : List Int}, intsOf r = some is → is.length = r.length := by
            intro r
            induction r with
            | nil => intro is h; cases h; rfl
            | cons v r ih =>
              intro is h
              cases v with
              | int k =>
                obtain ⟨q, h2, rfl⟩ := Option.map_eq_some_iff.mp (show (intsOf r).map (k :: ·) = some is from h)
                exact congrArg (· + 1) (ih h2)
              | _ => cases h
          exact this his
        refine wpAny_ListComp_walk (fun _ => true) TextOf G.free G.cell G.kind G.names G.loc ?_ (by rw [eit]; intro _; rfl)
        refine sound_sliceFrom (Φ := Φ) (sound_var F) sound_cint _ hmt2 _ imm' own' ι' σ ρ m _ E X' (hl.mono hx) ?_
        rw [show evalE Φ ρ (.sliceFrom false (.var i) (.cint 1)) σ = .ok (.tup r) σ by
          simp only [ee_var, ee_cint, ee_cstr, ee_cnone, ee_cbool, ee_gint, ee_gstr, ee_bin, ee_neg, ee_not, ee_and, ee_or, ee_cmp, ee_cmp2, ee_call, ee_bi, ee_copy, ee_isi, ee_make, ee_meth, ee_attr, ee_idx, ee_sliceTo, ee_sliceFrom, ee_tup, ee_lst, ee_sumAt, ee_rev, ee_strMul, ee_cat, ee_slen, ee_sidx, ee_sTo, ee_sFrom, ee_split, ee_join, ee_upper, ee_giveRepl, ee_strOf, ee_intOf, ee_notIn, ee_inT, ee_notInL, ee_minL, ee_shownL, hv, R.bind, cutV, listOf, cutT]
          rw [if_pos (by decide), if_pos ⟨trivial, by decide, by simp only [List.length_cons]; omega, by simp only [List.length_cons]; omega⟩]
          rfl]
        intro w2 h₂ tk₂ imm₂ own₂ ι₂ hx₂ X₂ hr₂
        obtain ⟨l, xs, rfl, hT, rs⟩ := X₂.isTup hr₂
        obtain ⟨qa, qb⟩ := intsOf_reps rs his
        have hlt : l < h₂.objs.size := by obtain ⟨_, e, _⟩ := hT; exact Heap.lt_size e
        have hls : Heap.IsTuple h₂ l xs.toArray := hT
        refine wpAny_pyIter_tuple hls ?_
        refine ⟨h₂.objs.size, [h₂.objs.size, l], [h₂.objs.size], xs.toArray.size, _, _, rfl, Walks.tuple (F.calm hq) _ l (Nat.ne_of_lt hlt) xs.toArray, (by simp only [List.size_toArray]; rw [rs.length, sizeLine_eq]; omega),
          ⟨⟨_, Heap.get?_push_size _ rfl, rfl, rfl⟩, hls.at fun o e => Heap.get?_push_of_some _ e⟩, ?_, ⟨?_, ?_⟩, ?_⟩
        · intro b hb
          show b < (h₂.push _).objs.size
          rw [Heap.size_push]
          rcases List.mem_cons.mp hb with rfl | hb
          · exact Nat.lt_succ_self _
          · rw [List.mem_singleton.mp hb]; exact Nat.lt_succ_of_lt hlt
        · intro C j v s₃ m₃ E' _ _ _ _ _
          exact wpAny_tests_nil ⟨rfl, s₃.heap, s₃.toks, rfl, fun _ _ e => e⟩
        · intro C j v s₃ m₃ E' hP _ hn₃ hm₃ hkp _
          have hkp' : ∀ b o, h₂.get? b = some o → s₃.heap.get? b = some o := fun b o e => hkp b o (by simpa using Nat.ne_of_lt (Heap.lt_size e)) (Heap.get?_push_of_some _ e)
          have hvm : v ∈ xs := List.mem_of_getElem? (by simpa using hP)
          obtain ⟨k, t, rfl⟩ := qa v hvm
          have hkn : k ∈ is := by
            rw [← qb]
            have : ∀ {xs : List Value}, Value.int k t ∈ xs → k ∈ numsOf xs := by
              intro xs
              induction xs with
              | nil => intro h; cases h
              | cons a xs ih =>
                intro h
                rcases List.mem_cons.mp h with rfl | h
                · exact List.mem_cons_self ..
                · have := ih h
                  cases a with
                  | int b t' => exact List.mem_cons_of_mem _ this
                  | _ => exact this
            exact this hvm
          have F₃ : Fr X₂.g x.L s₃.heap m := X₂.fr.keeps hkp'
          have TR := topRead_of (F.top X₂.gd)
          refine Call_ ?_
          refine Calls.Name_function_global G.kind (show (compEnv sc C x.env).kindOf "str" = some .globalImplicit from G.glob) (Calls.loadGlobal_builtin (env := compEnv sc C x.env) (TR.g.keeps F₃.keep) (mg_none_of (F.kin X₂.gd) TR.g (TK.boot "str" (by decide))) (TR.b.keeps F₃.keep) ((TR.builtins "str" (by decide)).trans boot_str) ?_) (by decide)
          refine Pv.callWith_type1 ?_ rfl rfl
          refine args_cons ?_ rfl
          refine ldK (.start hn₃) G.kind G.loc hm₃ ?_ hz'
          refine args_nil ?_
          exact PySem.P.str_of_int (ft2 k hkn) ⟨⟨k, t, _, rfl, rfl⟩, s₃.heap, _, rfl, fun _ _ e => e⟩
        · intro D h₄ tk₄ ys vs' hnew hlD hplD hlen' hP hF hkp
          have e' : vs' = xs := by simpa using walked_is hlen' hP
          subst e'
          have hF' : Paired TextOf vs' ys.toList := by
            rw [show vs'.filter (fun _ => true) = vs' from List.filter_eq_self.mpr fun _ _ => rfl] at hF
            exact hF
          have hkp' : ∀ b o, h₂.get? b = some o → h₄.get? b = some o := fun b o e => hkp b o (by simpa using Nat.ne_of_lt (Heap.lt_size e)) (Heap.get?_push_of_some _ e)
          have X₄ := X₂.keeps hkp'
          have rt : Reps c.B imm₂ ι₂ ts ys.toList := texts_paired rs his hts hF'
          obtain ⟨a', as', e1, hL1, rs1⟩ := X₄.isList ((hr.mono hx₂)) rfl
          subst e1
          have hlD' : h₄.IsList D ys.toList.toArray := by rw [Array.toArray_toList]; exact hlD
          refine add_lists X₄.fr X₄.news hL1 hlD' (fun h₅ F₅ N₅ => ?_) (by rw [rs1.length, rt.length, ft1, sizeLine_eq]; simp only [List.length_cons, List.length_nil]; omega)
          refine h _ h₅ tk₄ _ own₂ ι₂ ((hx.trans hx₂).trans (Ext.imm _)) (X₄.newImm F₅ N₅ fun p hp => X₄.lt p hp) ?_
          exact .lst (.head _) ((rs1.append rt).mono (Ext.imm _))
      · cases hu3
  · exact h.elim
end
end Mine
set_option maxRecDepth 100000
set_option linter.unusedVariables false
set_option linter.unusedSectionVars false
namespace Mine
open PySem PySem.W PyProof.Rows PySem.Calls
section
variable {c : Cx} {x : Fx} {d : Nat} {Φ : Fns} {P : Prog}

theorem St.newInst {Z : Nms} {B : Bas} {h₀ : Heap → Prop} {L : Addr} {fz : Led} {h h' : Heap} {m : Str → Option Value} {imm own : Led} {ι : List Addr} {σ : Store} {a dx C : Addr} {k f : Nat} (X : St Z B h₀ L fz h m imm own ι σ) (F : Fr X.g L h' m) (N : News X.g L h' ((a, instObj C dx) :: (dx, dictOf [] 0) :: (own ++ (imm ++ fz))))
    (hd : ∀ p ∈ own ++ (imm ++ fz), p.1 < dx) (ha : dx < a) (hk : Z.classes[k]? = some (C, f)) : St Z B h₀ L fz h' m imm (own ++ [(a, instObj C dx), (dx, dictOf [] 0)]) (ι ++ [a]) (σ ++ [.inst k []]) := by
  have hp : ((own ++ [(a, instObj C dx), (dx, dictOf [] 0)]) ++ (imm ++ fz)).Perm ((a, instObj C dx) :: (dx, dictOf [] 0) :: (own ++ (imm ++ fz))) := by
    rw [List.append_assoc]
    exact List.perm_middle.trans (List.Perm.cons _ List.perm_middle)
  have n1 : (((dx, dictOf [] 0) :: (own ++ (imm ++ fz))).map (·.1)).Nodup := nodup_new (List.Perm.refl _) X.nd hd
  refine ⟨X.g, X.gd, F, News.sub N fun p q => hp.mem_iff.mp q, nodup_new hp n1 fun p q => ?_, (X.owned.mono (Ext.own _)).append (.inst hk .nil .nil), X.base⟩
  rcases List.mem_cons.mp q with rfl | q
  · exact ha
  · exact Nat.lt_trans (hd p q) ha

theorem sound_make (F : Frm c x (d + 1)) (TK : TopOk c P) (FO : FnsOK c P d Φ) {k : Nat} {args : List ME} (hq : x.quiet = false) (ha : SoundEs c x Φ args) : SoundE c x Φ (.make k args) := by
  intro e hm s imm own ι σ ρ m Q E X hl h
  obtain ⟨y, p1, es, p2, rfl, hk⟩ := mt_make hm
  simp only [Bool.and_eq_true, beq_iff_eq, bne_iff_ne, ne_eq] at hk
  obtain ⟨⟨⟨⟨hf, hg⟩, hd⟩, hs⟩, hne⟩ := hk
  simp only [ee_var, ee_cint, ee_cstr, ee_cnone, ee_cbool, ee_gint, ee_gstr, ee_bin, ee_neg, ee_not, ee_and, ee_or, ee_cmp, ee_cmp2, ee_call, ee_bi, ee_copy, ee_isi, ee_make, ee_meth, ee_attr, ee_idx, ee_sliceTo, ee_sliceFrom, ee_tup, ee_lst, ee_sumAt, ee_rev, ee_strMul, ee_cat, ee_slen, ee_sidx, ee_sTo, ee_sFrom, ee_split, ee_join, ee_upper, ee_giveRepl, ee_strOf, ee_intOf, ee_notIn, ee_inT, ee_notInL, ee_minL, ee_shownL] at h
  obtain ⟨C, f, hC, hn, hkeep⟩ := TK.classes y k hf
  obtain ⟨D, hD, q1, q2, q3⟩ := FO.make k C f hC
  refine Call_ (name_K X.fr (F.kin X.gd) (topRead_of (F.top X.gd)) hn ?_ F.kind (Fx.glob hg) (by simpa using hd))
  cases args with
  | nil => simp at hne
  | cons a args =>
    cases es with
    | nil => (first | cases mts_n hs | cases mts_n hs.2 | (exact Bool.noConfusion (show false = true from hs)) | exact Bool.noConfusion (show false = true from hs.2))
    | cons e es =>
      have hs' := hs
      simp only [mts, List.head?_cons, Option.any_some, List.tail_cons, Bool.and_eq_true] at hs
      refine callWith_K (F.kin X.gd) hkeep ?_ (star_cons hs.1) (star_none hs.2)
      refine ha (e :: es) p2 hs' s imm own ι σ ρ m _ E X hl (Post.bind h fun vs σ₁ ys h' tk imm' own' ι' hx X' hr h₁ => ⟨(F.kin X'.gd).keeps X'.fr.keep, ?_⟩)
      split at h₁
      · rename_i f' hi
        obtain ⟨C', hC'⟩ := FO.init k f' hi
        rw [hC] at hC'; cases hC'
        refine call_cls X'.fr (F.kin X'.gd) X'.news q1 q2 q3 fun z dz h'' F' N' hlt hlt' => ?_
        have X₂ := X'.newInst F' N' hlt hlt' hC
        have ns : Φ.fn f (.loc σ₁.length :: vs) (σ₁ ++ [.inst k []]) ≠ .stuck := by
          intro q; rw [q] at h₁; exact h₁
        obtain ⟨D', hD', hfn⟩ := FO.fn f _ _ ns
        rw [hD] at hD'; cases hD'
        have h1 := F.depth
        have h2 := F.units
        refine hfn { x with A := x.A.under _ } m _ imm' _ _ _ _ _ _ ⟨F.kinB, F.topB, F.atB, F.imp, F.frames, F.calm, F.kind, F.loc, F.nd, ?_, ?_, F.tree, F.gen, F.coro⟩ (fun q => by rw [hq] at q; cases q) X₂ (.cons X'.locNew (hr.mono (Ext.own _))) ?_
        · show x.A.depth + 1 + d + 120 < recursionLimit
          omega
        · show x.A.units + 1 + 8 * d + 200 < cLine
          omega
        · revert h₁
          cases Φ.fn f (.loc σ₁.length :: vs) (σ₁ ++ [.inst k []]) with
          | exn _ _ => exact fun h₁ e s' T => h₁ e s' (T.back (Ext.own _))
          | stuck => exact fun h₁ => h₁
          | ok v σ₂ =>
            intro h₁ y h₃ tk₃ imm₃ own₃ ι₃ hx₃ X₃ hr₃
            simp only [R.bind] at h₁
            cases v with
            | none =>
              obtain rfl := inv_none hr₃
              exact ⟨rfl, h₁ _ h₃ tk₃ imm₃ own₃ ι₃ ((Ext.own _).trans hx₃) X₃ (X'.locNew.mono hx₃)⟩
            | _ => exact h₁.elim
      · exact h₁.elim

/-- an expression as a test -/
noncomputable def SoundT (c : Cx) (x : Fx) (Φ : Fns) (me : ME) : Prop := ∀ (e : Expr), mt c.T x.G x.S c.M me e = true → ∀ (s : Shared) (imm own : Led) (ι : List Addr) (σ : Store) (ρ : Loc) (m : Str → Option Value) (Q : Bool → Shared → Prop) (E : Value → Shared → Prop),
  St c.Z c.B (Gnd x) x.L x.fz s.heap m imm own ι σ → LocRel c.B imm ι x.S ρ m → Post c x m imm ι (fun _ _ a b => a = b) ((evalE Φ ρ me σ).bind fun v σ => ofOpt (truth v) σ) Q E s → wpAny (model c.prog c.w) x.A (isTrue e x.env (eval e x.env)) Q E s

/-- the last step of a test -/
theorem sound_last {v : V} {y : Value} {s : Shared} {imm own : Led} {ι : List Addr} {σ : Store} {m : Str → Option Value} {Q : Bool → Shared → Prop} {E : Value → Shared → Prop} (X : St c.Z c.B (Gnd x) x.L x.fz s.heap m imm own ι σ) (hr : Rep c.B imm ι v y)
    (h : Post c x m imm ι (fun _ _ a b => a = b) (ofOpt (truth v) σ) Q E s) : wpAny (model c.prog c.w) x.A (truthy y) Q E s := by
  obtain ⟨b, hb, h⟩ := Post.opt h
  exact sound_truthy hr hb (Post.ok (tk := s.toks) h X rfl)

theorem test_plain {me : ME} (h1 : SoundE c x Φ me) (hp : ∀ e, mt c.T x.G x.S c.M me e = true → ∀ whole, isTrue e x.env whole = (do let v ← whole; standAt e.pos; holding [v] (truthy v))) : SoundT c x Φ me := by
  intro e hm s imm own ι σ ρ m Q E X hl h
  refine isTrue_plain ?_ (hp e hm _)
  refine h1 e hm s imm own ι σ ρ m _ E X hl (Post.bind h fun v σ₁ y h' tk imm' own' ι' hx X' hr h₁ => ?_)
  exact sound_last X' hr h₁

theorem bind_assoc {α β γ : Type} (r : R α) (f : α → Store → R β) (g : β → Store → R γ) : (r.bind f).bind g = r.bind fun a σ => (f a σ).bind g := by cases r <;> rfl

theorem test_not {a : ME} (ha : SoundT c x Φ a) : SoundT c x Φ (.not a) := by
  intro e hm s imm own ι σ ρ m Q E X hl h
  obtain ⟨l, p, rfl, hk⟩ := mt_not hm
  refine isTrue_not (ha l hk s imm own ι σ ρ m _ E X hl ?_)
  simp only [ee_var, ee_cint, ee_cstr, ee_cnone, ee_cbool, ee_gint, ee_gstr, ee_bin, ee_neg, ee_not, ee_and, ee_or, ee_cmp, ee_cmp2, ee_call, ee_bi, ee_copy, ee_isi, ee_make, ee_meth, ee_attr, ee_idx, ee_sliceTo, ee_sliceFrom, ee_tup, ee_lst, ee_sumAt, ee_rev, ee_strMul, ee_cat, ee_slen, ee_sidx, ee_sTo, ee_sFrom, ee_split, ee_join, ee_upper, ee_giveRepl, ee_strOf, ee_intOf, ee_notIn, ee_inT, ee_notInL, ee_minL, ee_shownL, bind_assoc] at h
  revert h
  cases evalE Φ ρ a σ with
  | exn _ _ => exact fun h => h
  | stuck => exact fun h => h
  | ok v σ₁ =>
    simp only [R.bind]
    cases truth v with
    | none => exact fun h => h
    | some b => exact fun h y h' tk imm' own' ι' hx X' e => h (!y) h' tk imm' own' ι' hx X' (by rw [e])
theorem test_cmp (F : Frm c x d) {op : CmpOp} {a b : ME} (ha : SoundE c x Φ a) (hb : SoundE c x Φ b) : SoundT c x Φ (.cmp op a b) := by
  intro e hm s imm own ι σ ρ m Q E X hl h
  obtain ⟨l, o, r, p, rfl, hk⟩ := mt_cmp hm
  simp only [Bool.and_eq_true, beq_iff_eq] at hk
  obtain ⟨⟨rfl, h1⟩, h2⟩ := hk
  simp only [ee_var, ee_cint, ee_cstr, ee_cnone, ee_cbool, ee_gint, ee_gstr, ee_bin, ee_neg, ee_not, ee_and, ee_or, ee_cmp, ee_cmp2, ee_call, ee_bi, ee_copy, ee_isi, ee_make, ee_meth, ee_attr, ee_idx, ee_sliceTo, ee_sliceFrom, ee_tup, ee_lst, ee_sumAt, ee_rev, ee_strMul, ee_cat, ee_slen, ee_sidx, ee_sTo, ee_sFrom, ee_split, ee_join, ee_upper, ee_giveRepl, ee_strOf, ee_intOf, ee_notIn, ee_inT, ee_notInL, ee_minL, ee_shownL, bind_assoc] at h
  refine wpAny_isTrue_Compare1 ?_ (marks_no h2)
  refine ha l h1 s imm own ι σ ρ m _ E X hl (Post.bind h fun v σ₁ y h' tk imm' own' ι' hx X' hr h₁ => ?_)
  refine hb r h2 _ imm' own' ι' σ₁ ρ m _ E X' (hl.mono hx) (Post.bind h₁ fun w σ₂ z h'' tk' imm'' own'' ι'' hx' X'' hr' h₂ => ?_)
  refine sound_cmpop F X'' (hr.mono hx') hr' (Post.bind h₂ fun q σ₃ qy h₃' tk₃ imm₃ own₃ ι₃ hx₃ X₃ hr₃ h₃ => ?_)
  exact sound_last X₃ hr₃ h₃
theorem test_cmp2 (F : Frm c x d) {o₁ o₂ : CmpOp} {a b e₃ : ME} (ha : SoundE c x Φ a) (hb : SoundE c x Φ b) (hc : SoundE c x Φ e₃) : SoundT c x Φ (.cmp2 o₁ o₂ a b e₃) := by
  intro e hm s imm own ι σ ρ m Q E X hl h
  obtain ⟨l, p₁, p₂, r₁, r₂, p, rfl, hk⟩ := mt_cmp2 hm
  simp only [Bool.and_eq_true, beq_iff_eq] at hk
  obtain ⟨⟨⟨⟨rfl, rfl⟩, h1⟩, h2⟩, h3⟩ := hk
  simp only [ee_var, ee_cint, ee_cstr, ee_cnone, ee_cbool, ee_gint, ee_gstr, ee_bin, ee_neg, ee_not, ee_and, ee_or, ee_cmp, ee_cmp2, ee_call, ee_bi, ee_copy, ee_isi, ee_make, ee_meth, ee_attr, ee_idx, ee_sliceTo, ee_sliceFrom, ee_tup, ee_lst, ee_sumAt, ee_rev, ee_strMul, ee_cat, ee_slen, ee_sidx, ee_sTo, ee_sFrom, ee_split, ee_join, ee_upper, ee_giveRepl, ee_strOf, ee_intOf, ee_notIn, ee_inT, ee_notInL, ee_minL, ee_shownL, bind_assoc] at h
  refine isTrue_chain ?_ (by show lastMarks [o₂] [r₂] = false; exact marks_no h3)
  refine ha l h1 s imm own ι σ ρ m _ E X hl (Post.bind h fun v σ₁ y h' tk imm' own' ι' hx X' hr h₁ => ?_)
  refine test_link ?_
  refine hb r₁ h2 _ imm' own' ι' σ₁ ρ m _ E X' (hl.mono hx) (Post.bind h₁ fun w σ₂ z h'' tk' imm'' own'' ι'' hx' X'' hr' h₂ => ?_)
  refine sound_cmpop F X'' (hr.mono hx') hr' (Post.bind h₂ fun q σ₃ qy h₃' tk₃ imm₃ own₃ ι₃ hx₃ X₃ hr₃ h₃ => ?_)
  obtain ⟨t, ht⟩ : ∃ t, truth q = some t := by
    cases e : truth q with
    | none => rw [e] at h₃; exact h₃.elim
    | some t => exact ⟨t, rfl⟩
  refine sound_truthy hr₃ ht ?_
  rw [ht] at h₃
  cases t with
  | false =>
    simp only [ofOpt, R.bind, Bool.false_eq_true, if_false, ht] at h₃
    exact Post.ok (tk := tk₃) h₃ X₃ rfl
  | true =>
    rw [if_pos rfl]
    simp only [ofOpt, R.bind, if_true] at h₃
    refine test_last ?_
    have h₄ : Post c x m imm₃ ι₃ (fun _ _ a b => a = b) ((evalE Φ ρ e₃ σ₃).bind fun z σ => (ofOpt (cmpV σ o₂ w z) σ).bind fun v σ => ofOpt (truth v) σ) Q E { s with heap := h₃', toks := tk₃ } := by
      rw [← bind_assoc]; exact h₃
    refine hc r₂ h3 _ imm₃ own₃ ι₃ σ₃ ρ m _ E X₃ ((hl.mono hx).mono (hx'.trans hx₃)) (Post.bind h₄ fun u σ₄ uy h₄' tk₄ imm₄ own₄ ι₄ hx₄ X₄ hr₄ h₅ => ?_)
    refine sound_cmpop F X₄ (hr'.mono (hx₃.trans hx₄)) hr₄ (Post.bind h₅ fun q' σ₅ qy' h₅' tk₅ imm₅ own₅ ι₅ hx₅ X₅ hr₅ h₆ => ?_)
    exact sound_last X₅ hr₅ h₆

noncomputable def SoundTA (c : Cx) (x : Fx) (Φ : Fns) (mes : List ME) : Prop := ∀ (es : List Expr) (pos : Pos) (whole : Sem Value), mts c.T x.G x.S c.M mes es = true → mes ≠ [] → ∀ (s : Shared) (imm own : Led) (ι : List Addr) (σ : Store) (ρ : Loc) (m : Str → Option Value) (Q : Bool → Shared → Prop) (E : Value → Shared → Prop),
  St c.Z c.B (Gnd x) x.L x.fz s.heap m imm own ι σ → LocRel c.B imm ι x.S ρ m → Post c x m imm ι (fun _ _ a b => a = b) ((evalAnd Φ ρ mes σ).bind fun v σ => ofOpt (truth v) σ) Q E s → wpAny (model c.prog c.w) x.A (isTrue (.BoolOp .And es pos) x.env whole) Q E s
noncomputable def SoundTO (c : Cx) (x : Fx) (Φ : Fns) (mes : List ME) : Prop := ∀ (es : List Expr) (pos : Pos) (whole : Sem Value), mts c.T x.G x.S c.M mes es = true → mes ≠ [] → ∀ (s : Shared) (imm own : Led) (ι : List Addr) (σ : Store) (ρ : Loc) (m : Str → Option Value) (Q : Bool → Shared → Prop) (E : Value → Shared → Prop),
  St c.Z c.B (Gnd x) x.L x.fz s.heap m imm own ι σ → LocRel c.B imm ι x.S ρ m → Post c x m imm ι (fun _ _ a b => a = b) ((evalOr Φ ρ mes σ).bind fun v σ => ofOpt (truth v) σ) Q E s → wpAny (model c.prog c.w) x.A (isTrue (.BoolOp .Or es pos) x.env whole) Q E s
theorem testA_nil : SoundTA c x Φ [] := fun _ _ _ _ h => absurd rfl h
theorem testO_nil : SoundTO c x Φ [] := fun _ _ _ _ h => absurd rfl h
/-- the outcome of a test at hand, made ready for what goes on -/
theorem Post.test {α β : Type} {m : Str → Option Value} {imm : Led} {ι : List Addr} {r : R V} {f : V → Bool → Store → R α} {rel' : Led → List Addr → α → β → Prop} {Q : β → Shared → Prop} {Q' : Bool → Shared → Prop} {s : Shared}
    (h : Post c x m imm ι rel' (r.bind fun v σ => (ofOpt (truth v) σ).bind fun t σ => f v t σ) Q E s)
    (k : ∀ v t σ₁ h' tk imm' own' ι', truth v = some t → Ext imm imm' ι ι' → St c.Z c.B (Gnd x) x.L x.fz h' m imm' own' ι' σ₁ → Post c x m imm' ι' rel' (f v t σ₁) Q E { s with heap := h', toks := tk } → Q' t { s with heap := h', toks := tk }) :
    Post c x m imm ι (fun _ _ a b => a = b) (r.bind fun v σ => ofOpt (truth v) σ) Q' E s := by
  cases r with
  | exn _ _ => exact h
  | stuck => exact h
  | ok v σ₁ =>
    simp only [R.bind] at h ⊢
    cases e : truth v with
    | none => rw [e] at h; exact h
    | some t =>
      rw [e] at h
      intro y h' tk imm' own' ι' hx X' ey
      subst ey
      refine k v t σ₁ h' tk imm' own' ι' e hx X' ?_
      have h2 : Post c x m imm ι rel' (f v t σ₁) Q E s := h
      revert h2
      cases f v t σ₁ with
      | ok v' σ₂ => exact fun h2 y' h'' tk' imm'' own'' ι'' hx' hs' hr' => h2 y' h'' tk' imm'' own'' ι'' (hx.trans hx') hs' hr'
      | exn _ _ => exact fun h2 e s' T => h2 e s' (T.back hx)
      | stuck => exact fun h2 => h2

theorem testA_cons {me : ME} {mes : List ME} (h1 : SoundT c x Φ me) (h2 : SoundTA c x Φ mes) : SoundTA c x Φ (me :: mes) := by
  intro es pos whole hm _ s imm own ι σ ρ m Q E X hl h
  cases es with
  | nil => (first | cases mts_n hm | cases mts_n hm.2 | (exact Bool.noConfusion (show false = true from hm)) | exact Bool.noConfusion (show false = true from hm.2))
  | cons e es =>
    simp only [mts, List.head?_cons, Option.any_some, List.tail_cons, Bool.and_eq_true] at hm
    simp only [ea_0, ea_1, bind_assoc] at h
    refine isTrue_and ?_
    cases mes with
    | nil =>
      cases es with
      | cons _ _ => (first | cases mts_n hm | cases mts_n hm.2 | (exact Bool.noConfusion (show false = true from hm)) | exact Bool.noConfusion (show false = true from hm.2))
      | nil =>
        refine h1 e hm.1 s imm own ι σ ρ m _ E X hl ?_
        have h' : Post c x m imm ι (fun _ _ a b => a = b) ((evalE Φ ρ me σ).bind fun v σ => (ofOpt (truth v) σ).bind fun t σ => .ok t σ) Q E s := by
          revert h
          cases evalE Φ ρ me σ with
          | exn _ _ => exact fun h => h
          | stuck => exact fun h => h
          | ok v σ₁ => simp only [R.bind]; cases truth v <;> exact fun h => h
        refine Post.test h' fun v t σ₁ h' tk imm' own' ι' ht hx X' h₁ => ?_
        cases t with
        | false => exact Post.ok (tk := tk) h₁ X' rfl
        | true => rw [if_pos rfl]; exact isTrue_and_nil (Post.ok (tk := tk) h₁ X' rfl)
    | cons me' mes =>
      cases es with
      | nil => (first | cases mts_n hm | cases mts_n hm.2 | (exact Bool.noConfusion (show false = true from hm)) | exact Bool.noConfusion (show false = true from hm.2))
      | cons e' es =>
        refine h1 e hm.1 s imm own ι σ ρ m _ E X hl ?_
        simp only [bind_assoc] at h
        refine Post.test (f := fun v t σ => (if t = true then evalAnd Φ ρ (me' :: mes) σ else .ok v σ).bind fun v σ => ofOpt (truth v) σ) h fun v t σ₁ h' tk imm' own' ι' ht hx X' h₁ => ?_
        cases t with
        | false =>
          simp only [Bool.false_eq_true, if_false, R.bind, ht, ofOpt] at h₁ ⊢
          exact Post.ok (tk := tk) h₁ X' rfl
        | true =>
          simp only [if_true] at h₁ ⊢
          exact h2 (e' :: es) pos whole hm.2 (by simp) _ imm' own' ι' σ₁ ρ m Q E X' (hl.mono hx) h₁
theorem testO_cons {me : ME} {mes : List ME} (h1 : SoundT c x Φ me) (h2 : SoundTO c x Φ mes) : SoundTO c x Φ (me :: mes) := by
  intro es pos whole hm _ s imm own ι σ ρ m Q E X hl h
  cases es with
  | nil => (first | cases mts_n hm | cases mts_n hm.2 | (exact Bool.noConfusion (show false = true from hm)) | exact Bool.noConfusion (show false = true from hm.2))
  | cons e es =>
    simp only [mts, List.head?_cons, Option.any_some, List.tail_cons, Bool.and_eq_true] at hm
    simp only [eo_0, eo_1, bind_assoc] at h
    refine isTrue_or ?_
    cases mes with
    | nil =>
      cases es with
      | cons _ _ => (first | cases mts_n hm | cases mts_n hm.2 | (exact Bool.noConfusion (show false = true from hm)) | exact Bool.noConfusion (show false = true from hm.2))
      | nil =>
        refine h1 e hm.1 s imm own ι σ ρ m _ E X hl ?_
        have h' : Post c x m imm ι (fun _ _ a b => a = b) ((evalE Φ ρ me σ).bind fun v σ => (ofOpt (truth v) σ).bind fun t σ => .ok t σ) Q E s := by
          revert h
          cases evalE Φ ρ me σ with
          | exn _ _ => exact fun h => h
          | stuck => exact fun h => h
          | ok v σ₁ => simp only [R.bind]; cases truth v <;> exact fun h => h
        refine Post.test h' fun v t σ₁ h' tk imm' own' ι' ht hx X' h₁ => ?_
        cases t with
        | true => exact Post.ok (tk := tk) h₁ X' rfl
        | false => rw [if_neg (by simp)]; exact isTrue_or_nil (Post.ok (tk := tk) h₁ X' rfl)
    | cons me' mes =>
      cases es with
      | nil => (first | cases mts_n hm | cases mts_n hm.2 | (exact Bool.noConfusion (show false = true from hm)) | exact Bool.noConfusion (show false = true from hm.2))
      | cons e' es =>
        refine h1 e hm.1 s imm own ι σ ρ m _ E X hl ?_
        simp only [bind_assoc] at h
        refine Post.test (f := fun v t σ => (if t = true then .ok v σ else evalOr Φ ρ (me' :: mes) σ).bind fun v σ => ofOpt (truth v) σ) h fun v t σ₁ h' tk imm' own' ι' ht hx X' h₁ => ?_
        cases t with
        | true =>
          simp only [if_true, R.bind, ht, ofOpt] at h₁ ⊢
          exact Post.ok (tk := tk) h₁ X' rfl
        | false =>
          simp only [Bool.false_eq_true, if_false] at h₁ ⊢
          exact h2 (e' :: es) pos whole hm.2 (by simp) _ imm' own' ι' σ₁ ρ m Q E X' (hl.mono hx) h₁
theorem test_and {es : List ME} (h1 : SoundTA c x Φ es) : SoundT c x Φ (.and es) := by
  intro e hm s imm own ι σ ρ m Q E X hl h
  obtain ⟨l, p, rfl, hk⟩ := mt_and hm
  simp only [Bool.and_eq_true] at hk
  simp only [ee_var, ee_cint, ee_cstr, ee_cnone, ee_cbool, ee_gint, ee_gstr, ee_bin, ee_neg, ee_not, ee_and, ee_or, ee_cmp, ee_cmp2, ee_call, ee_bi, ee_copy, ee_isi, ee_make, ee_meth, ee_attr, ee_idx, ee_sliceTo, ee_sliceFrom, ee_tup, ee_lst, ee_sumAt, ee_rev, ee_strMul, ee_cat, ee_slen, ee_sidx, ee_sTo, ee_sFrom, ee_split, ee_join, ee_upper, ee_giveRepl, ee_strOf, ee_intOf, ee_notIn, ee_inT, ee_notInL, ee_minL, ee_shownL] at h
  exact h1 l p _ hk.1 (by rintro rfl; simp at hk) s imm own ι σ ρ m Q E X hl h
theorem test_or {es : List ME} (h1 : SoundTO c x Φ es) : SoundT c x Φ (.or es) := by
  intro e hm s imm own ι σ ρ m Q E X hl h
  obtain ⟨l, p, rfl, hk⟩ := mt_or hm
  simp only [Bool.and_eq_true] at hk
  simp only [ee_var, ee_cint, ee_cstr, ee_cnone, ee_cbool, ee_gint, ee_gstr, ee_bin, ee_neg, ee_not, ee_and, ee_or, ee_cmp, ee_cmp2, ee_call, ee_bi, ee_copy, ee_isi, ee_make, ee_meth, ee_attr, ee_idx, ee_sliceTo, ee_sliceFrom, ee_tup, ee_lst, ee_sumAt, ee_rev, ee_strMul, ee_cat, ee_slen, ee_sidx, ee_sTo, ee_sFrom, ee_split, ee_join, ee_upper, ee_giveRepl, ee_strOf, ee_intOf, ee_notIn, ee_inT, ee_notInL, ee_minL, ee_shownL] at h
  exact h1 l p _ hk.1 (by rintro rfl; simp at hk) s imm own ι σ ρ m Q E X hl h

/-- all expressions -/
theorem test_notIn {a b : ME} (ha : SoundE c x Φ a) (hb : SoundE c x Φ b) : SoundT c x Φ (.notIn a b) := by
  intro e hm s imm own ι σ ρ m Q E X hl h
  obtain ⟨l, r, p, rfl, hk⟩ := mt_notIn hm
  obtain ⟨h1, h2⟩ := and_inv hk
  simp only [ee_var, ee_cint, ee_cstr, ee_cnone, ee_cbool, ee_gint, ee_gstr, ee_bin, ee_neg, ee_not, ee_and, ee_or, ee_cmp, ee_cmp2, ee_call, ee_bi, ee_copy, ee_isi, ee_make, ee_meth, ee_attr, ee_idx, ee_sliceTo, ee_sliceFrom, ee_tup, ee_lst, ee_sumAt, ee_rev, ee_strMul, ee_cat, ee_slen, ee_sidx, ee_sTo, ee_sFrom, ee_split, ee_join, ee_upper, ee_giveRepl, ee_strOf, ee_intOf, ee_notIn, ee_inT, ee_notInL, ee_minL, ee_shownL, bind_assoc] at h
  refine wpAny_isTrue_Compare1 ?_ (marks_no h2)
  refine ha l h1 s imm own ι σ ρ m _ E X hl (Post.bind h fun v σ₁ y h' tk imm' own' ι' hx X' hr h₁ => ?_)
  refine hb r h2 _ imm' own' ι' σ₁ ρ m _ E X' (hl.mono hx) (Post.bind h₁ fun w σ₂ z h'' tk' imm'' own'' ι'' hx' X'' hr' h₂ => ?_)
  cases hu : onS v fun s => onS w fun t => some (.bool (!Txt.contains t s)) with
  | none => rw [hu] at h₂; exact h₂.elim
  | some u =>
    rw [hu] at h₂
    obtain ⟨s1, rfl, l1, hu2⟩ := onS_inv hu
    obtain ⟨s2, rfl, l2, hu3⟩ := onS_inv hu2
    cases hu3
    obtain ⟨t1, rfl⟩ := inv_str hr
    obtain ⟨t2, rfl⟩ := inv_str hr'
    exact SB.notContains (sound_last X'' (.bool _) h₂)
theorem test_inT (hes : ∀ ws : List Str, SoundEs c x Φ (ws.map .cstr)) {ws : List Str} {a : ME} (ha : SoundE c x Φ a) : SoundT c x Φ (.inT ws a) := by
  intro e hm s imm own ι σ ρ m Q E X hl h
  obtain ⟨l, es, p1, p2, p3, rfl, hk⟩ := mt_inT hm
  obtain ⟨hk, hlen⟩ := and_inv hk
  obtain ⟨h1, h2⟩ := and_inv hk
  obtain ⟨h3, h4⟩ := strsOk_mts (T := c.T) (G := x.G) (S := x.S) (M := c.M) h2
  have hlen := of_decide_eq_true hlen
  have hmt : mt c.T x.G x.S c.M (.tup (ws.map .cstr)) (.Tuple es p1 p2) = true := by
    show (mts c.T x.G x.S c.M (ws.map .cstr) es && decide (es.length ≤ 1000)) = true
    rw [h3, decide_eq_true (by omega)]; rfl
  simp only [ee_var, ee_cint, ee_cstr, ee_cnone, ee_cbool, ee_gint, ee_gstr, ee_bin, ee_neg, ee_not, ee_and, ee_or, ee_cmp, ee_cmp2, ee_call, ee_bi, ee_copy, ee_isi, ee_make, ee_meth, ee_attr, ee_idx, ee_sliceTo, ee_sliceFrom, ee_tup, ee_lst, ee_sumAt, ee_rev, ee_strMul, ee_cat, ee_slen, ee_sidx, ee_sTo, ee_sFrom, ee_split, ee_join, ee_upper, ee_giveRepl, ee_strOf, ee_intOf, ee_notIn, ee_inT, ee_notInL, ee_minL, ee_shownL, bind_assoc] at h
  refine wpAny_isTrue_Compare1 ?_ rfl
  refine ha l h1 s imm own ι σ ρ m _ E X hl (Post.bind h fun v σ₁ y h' tk imm' own' ι' hx X' hr h₁ => ?_)
  cases hu : onS v fun s => some (.bool (ws.any (· == s))) with
  | none => rw [hu] at h₁; exact h₁.elim
  | some u =>
    rw [hu] at h₁
    obtain ⟨s1, rfl, l1, hu2⟩ := onS_inv hu
    cases hu2
    refine sound_tup (hes ws) _ hmt _ imm' own' ι' σ₁ ρ m _ E X' (hl.mono hx) ?_
    rw [show evalE Φ ρ (.tup (ws.map .cstr)) σ₁ = .ok (.tup (strsV ws)) σ₁ by simp only [ee_var, ee_cint, ee_cstr, ee_cnone, ee_cbool, ee_gint, ee_gstr, ee_bin, ee_neg, ee_not, ee_and, ee_or, ee_cmp, ee_cmp2, ee_call, ee_bi, ee_copy, ee_isi, ee_make, ee_meth, ee_attr, ee_idx, ee_sliceTo, ee_sliceFrom, ee_tup, ee_lst, ee_sumAt, ee_rev, ee_strMul, ee_cat, ee_slen, ee_sidx, ee_sTo, ee_sFrom, ee_split, ee_join, ee_upper, ee_giveRepl, ee_strOf, ee_intOf, ee_notIn, ee_inT, ee_notInL, ee_minL, ee_shownL, evalEs_strs, R.bind]]
    intro z h'' tk' imm'' own'' ι'' hx' X'' hr'
    obtain ⟨t1, rfl⟩ := inv_str hr
    obtain ⟨b, xs, rfl, hT, rs⟩ := X''.isTup hr'
    refine in_tuple_strs hT (strsL_reps rs (strsL_strs ws)) (sound_truthy (Rep.bool (B := c.B) (imm := imm) (ι := ι) _) rfl ?_)
    exact h₁ _ h'' tk' imm'' own'' ι'' hx' X'' rfl
theorem test_notInL (hes : ∀ ws : List Str, SoundEs c x Φ (ws.map .cstr)) {ws : List Str} {a : ME} (ha : SoundE c x Φ a) : SoundT c x Φ (.notInL ws a) := by
  intro e hm s imm own ι σ ρ m Q E X hl h
  obtain ⟨l, es, p1, p3, rfl, hk⟩ := mt_notInL hm
  obtain ⟨hk, hlen⟩ := and_inv hk
  obtain ⟨h1, h2⟩ := and_inv hk
  obtain ⟨h3, h4⟩ := strsOk_mts (T := c.T) (G := x.G) (S := x.S) (M := c.M) h2
  have hlen := of_decide_eq_true hlen
  have hmt : mt c.T x.G x.S c.M (.lst false (ws.map .cstr)) (.List es p1) = true := by
    show (mts c.T x.G x.S c.M (ws.map .cstr) es && decide (es.length ≤ 1000)) = true
    rw [h3, decide_eq_true (by omega)]; rfl
  simp only [ee_var, ee_cint, ee_cstr, ee_cnone, ee_cbool, ee_gint, ee_gstr, ee_bin, ee_neg, ee_not, ee_and, ee_or, ee_cmp, ee_cmp2, ee_call, ee_bi, ee_copy, ee_isi, ee_make, ee_meth, ee_attr, ee_idx, ee_sliceTo, ee_sliceFrom, ee_tup, ee_lst, ee_sumAt, ee_rev, ee_strMul, ee_cat, ee_slen, ee_sidx, ee_sTo, ee_sFrom, ee_split, ee_join, ee_upper, ee_giveRepl, ee_strOf, ee_intOf, ee_notIn, ee_inT, ee_notInL, ee_minL, ee_shownL, bind_assoc] at h
  refine wpAny_isTrue_Compare1 ?_ rfl
  refine ha l h1 s imm own ι σ ρ m _ E X hl (Post.bind h fun v σ₁ y h' tk imm' own' ι' hx X' hr h₁ => ?_)
  cases hu : onS v fun s => some (.bool (!ws.any (· == s))) with
  | none => rw [hu] at h₁; exact h₁.elim
  | some u =>
    rw [hu] at h₁
    obtain ⟨s1, rfl, l1, hu2⟩ := onS_inv hu
    cases hu2
    refine sound_lst (hes ws) _ hmt _ imm' own' ι' σ₁ ρ m _ E X' (hl.mono hx) ?_
    rw [show evalE Φ ρ (.lst false (ws.map .cstr)) σ₁ = .ok (.lst (strsV ws)) σ₁ by simp only [ee_var, ee_cint, ee_cstr, ee_cnone, ee_cbool, ee_gint, ee_gstr, ee_bin, ee_neg, ee_not, ee_and, ee_or, ee_cmp, ee_cmp2, ee_call, ee_bi, ee_copy, ee_isi, ee_make, ee_meth, ee_attr, ee_idx, ee_sliceTo, ee_sliceFrom, ee_tup, ee_lst, ee_sumAt, ee_rev, ee_strMul, ee_cat, ee_slen, ee_sidx, ee_sTo, ee_sFrom, ee_split, ee_join, ee_upper, ee_giveRepl, ee_strOf, ee_intOf, ee_notIn, ee_inT, ee_notInL, ee_minL, ee_shownL, evalEs_strs, R.bind]; rfl]
    intro z h'' tk' imm'' own'' ι'' hx' X'' hr'
    obtain ⟨t1, rfl⟩ := inv_str hr
    obtain ⟨b, xs, rfl, hL, rs⟩ := X''.isList hr' rfl
    refine notin_list_strs hL (strsL_reps rs (strsL_strs ws)) (sound_truthy (Rep.bool (B := c.B) (imm := imm) (ι := ι) _) rfl ?_)
    exact h₁ _ h'' tk' imm'' own'' ι'' hx' X'' rfl
structure All (c : Cx) (x : Fx) (Φ : Fns) (me : ME) : Prop where
  e : SoundE c x Φ me
  t : SoundT c x Φ me
structure Alls (c : Cx) (x : Fx) (Φ : Fns) (mes : List ME) : Prop where
  es : SoundEs c x Φ mes
  a : SoundAnd c x Φ mes
  o : SoundOr c x Φ mes
  ta : SoundTA c x Φ mes
  to : SoundTO c x Φ mes

theorem all_of {me : ME} (h : SoundE c x Φ me) (hp : ∀ e, mt c.T x.G x.S c.M me e = true → ∀ whole, isTrue e x.env whole = (do let v ← whole; standAt e.pos; holding [v] (truthy v))) : All c x Φ me := ⟨h, test_plain h hp⟩

mutual
/-- an expression that asks nothing of the exception in hand -/
noncomputable def quietE (P : Prog) : ME → Bool
  | .var _ => true
  | .cint _ => true
  | .cstr _ => true
  | .cnone => true
  | .cbool _ => true
  | .gint _ _ => true
  | .gstr _ _ => true
  | .bin _ a b => quietE P a && quietE P b
  | .neg a => quietE P a
  | .not a => quietE P a
  | .and es => quietEs P es
  | .or es => quietEs P es
  | .cmp _ a b => quietE P a && quietE P b
  | .cmp2 _ _ a b e => quietE P a && (quietE P b && quietE P e)
  | .call f args => ((P.fns.lookup f).any fun D => D.quiet) && quietEs P args
  | .bi b args => (!decide (b = .max2 ∨ b = .min2)) && quietEs P args
  | .copy _ a => quietE P a
  | .isi a _ => quietE P a
  | .make _ _ => false
  | .meth _ _ _ => false
  | .attr o _ => quietE P o
  | .idx a i => quietE P a && quietE P i
  | .sliceTo _ a k => quietE P a && quietE P k
  | .sliceFrom _ a k => quietE P a && quietE P k
  | .tup es => quietEs P es
  | .lst _ es => quietEs P es
  | .sumAt _ _ => false
  | .rev a => quietE P a
  | .strMul _ a => quietE P a
  | .cat a b => quietE P a && quietE P b
  | .slen a => quietE P a
  | .sidx a i => quietE P a && quietE P i
  | .sTo a k => quietE P a && quietE P k
  | .sFrom a k => quietE P a && quietE P k
  | .split _ a => quietE P a
  | .join a => quietE P a
  | .upper a => quietE P a
  | .giveRepl _ => true
  | .strOf a => quietE P a
  | .intOf a => quietE P a
  | .notIn a b => quietE P a && quietE P b
  | .inT _ a => quietE P a
  | .notInL _ a => quietE P a
  | .minL _ => false
  | .shownL _ => false
noncomputable def quietEs (P : Prog) : List ME → Bool
  | [] => true
  | e :: es => quietE P e && quietEs P es
end
noncomputable def QE (x : Fx) (P : Prog) (me : ME) : Prop := x.quiet = true → quietE P me = true
noncomputable def QEs (x : Fx) (P : Prog) (mes : List ME) : Prop := x.quiet = true → quietEs P mes = true
theorem q1 {p : Prop} {a b : Bool} (h : p → (a && b) = true) : p → a = true := fun z => (and_inv (h z)).1
theorem q2 {p : Prop} {a b : Bool} (h : p → (a && b) = true) : p → b = true := fun z => (and_inv (h z)).2
theorem q0 {x : Fx} (h : x.quiet = true → false = true) : x.quiet = false := by
  cases e : x.quiet with
  | false => rfl
  | true => exact (Bool.noConfusion (h e))
theorem qf {x : Fx} {P : Prog} {f : Nat} (h : x.quiet = true → ((P.fns.lookup f).any fun D => D.quiet) = true) : x.quiet = true → ∀ D, P.fns.lookup f = some D → D.quiet = true := by
  intro q D e
  have := h q
  rw [e] at this
  exact this
theorem qb {x : Fx} {p : Prop} [Decidable p] (h : x.quiet = true → (!decide p) = true) : p → x.quiet = false := by
  intro hp
  refine q0 fun q => ?_
  have := h q
  rw [decide_eq_true hp] at this
  exact this
variable (F : Frm c x (d + 1)) (TK : TopOk c P) (FO : FnsOK c P d Φ)
include F TK FO
mutual
theorem allE : ∀ me : ME, QE x P me → All c x Φ me
  | .var i, q => all_of (sound_var F) fun e h _ => by obtain ⟨_, _, rfl, _⟩ := mt_var h; rfl
  | .cint k, q => all_of sound_cint fun e h _ => by obtain ⟨_, _, rfl, _⟩ := mt_cint h; rfl
  | .cstr k, q => all_of sound_cstr fun e h _ => by obtain ⟨_, _, rfl, _⟩ := mt_cstr h; rfl
  | .cnone, q => all_of sound_cnone fun e h _ => by obtain ⟨_, _, rfl, _⟩ := mt_cnone h; rfl
  | .cbool b, q => all_of sound_cbool fun e h _ => by obtain ⟨_, _, rfl, _⟩ := mt_cbool h; rfl
  | .gint y k, q => all_of (sound_gint F TK) fun e h _ => by obtain ⟨_, _, rfl, _⟩ := mt_gint h; rfl
  | .gstr y k, q => all_of (sound_gstr F TK) fun e h _ => by obtain ⟨_, _, rfl, _⟩ := mt_gstr h; rfl
  | .bin op a b, q => all_of (sound_bin F (allE a (q1 q)).e (allE b (q2 q)).e) fun e h _ => by obtain ⟨_, _, _, _, rfl, _⟩ := mt_bin h; rfl
  | .neg a, q => all_of (sound_neg (allE a q).e) fun e h _ => by obtain ⟨_, _, rfl, _⟩ := mt_neg h; rfl
  | .not a, q => ⟨sound_not (allE a q).e, test_not (allE a q).t⟩
  | .and es, q => ⟨sound_and (allEs es q).a, test_and (allEs es q).ta⟩
  | .or es, q => ⟨sound_or (allEs es q).o, test_or (allEs es q).to⟩
  | .cmp op a b, q => ⟨sound_cmp F (allE a (q1 q)).e (allE b (q2 q)).e, test_cmp F (allE a (q1 q)).e (allE b (q2 q)).e⟩
  | .cmp2 o₁ o₂ a b e₃, q => ⟨sound_cmp2 F (allE a (q1 q)).e (allE b (q1 (q2 q))).e (allE e₃ (q2 (q2 q))).e, test_cmp2 F (allE a (q1 q)).e (allE b (q1 (q2 q))).e (allE e₃ (q2 (q2 q))).e⟩
  | .call f args, q => all_of (sound_call F TK FO (qf (q1 q)) (allEs args (q2 q)).es) fun e h _ => by obtain ⟨_, _, _, _, rfl, _⟩ := mt_call h; rfl
  | .bi b args, q => all_of (sound_bi F TK (qb (q1 q)) (allEs args (q2 q)).es) fun e h _ => by obtain ⟨_, _, _, _, rfl, _⟩ := mt_bi h; rfl
  | .copy own a, q => all_of (sound_copy F TK (allE a q).e) fun e h _ => by obtain ⟨_, _, _, _, rfl, _⟩ := mt_copy h; rfl
  | .isi a t, q => all_of (sound_isi F TK (allE a q).e) fun e h _ => by obtain ⟨_, _, _, _, _, _, rfl, _⟩ := mt_isi h; rfl
  | .make k args, q => all_of (sound_make F TK FO (q0 q) (allEs args (fun z => by rw [q0 q] at z; cases z)).es) fun e h _ => by obtain ⟨_, _, _, _, rfl, _⟩ := mt_make h; rfl
  | .meth o f args, q => all_of (sound_meth F TK FO (q0 q) (allE o (fun z => by rw [q0 q] at z; cases z)).e (allEs args (fun z => by rw [q0 q] at z; cases z)).es) fun e h _ => by obtain ⟨_, _, _, _, _, rfl, _⟩ := mt_meth h; rfl
  | .attr o k, q => all_of (sound_attr F TK FO (allE o q).e) fun e h _ => by obtain ⟨_, _, _, rfl, _⟩ := mt_attr h; rfl
  | .idx a i, q => all_of (sound_idx (allE a (q1 q)).e (allE i (q2 q)).e) fun e h _ => by obtain ⟨_, _, _, rfl, _⟩ := mt_idx h; rfl
  | .sliceTo own a k, q => all_of (sound_sliceTo (allE a (q1 q)).e (allE k (q2 q)).e) fun e h _ => by obtain ⟨_, _, _, _, rfl, _⟩ := mt_sliceTo h; rfl
  | .sliceFrom own a k, q => all_of (sound_sliceFrom (allE a (q1 q)).e (allE k (q2 q)).e) fun e h _ => by obtain ⟨_, _, _, _, rfl, _⟩ := mt_sliceFrom h; rfl
  | .tup es, q => all_of (sound_tup (allEs es q).es) fun e h _ => by obtain ⟨_, _, _, rfl, _⟩ := mt_tup h; rfl
  | .lst own es, q => all_of (sound_lst (allEs es q).es) fun e h _ => by obtain ⟨_, _, rfl, _⟩ := mt_lst h; rfl
  | .sumAt k i, q => all_of (sound_sumAt F TK (q0 q)) fun e h _ => by obtain ⟨_, _, _, _, _, _, _, _, _, _, _, _, rfl, _⟩ := mt_sumAt h; rfl
  | .rev a, q => all_of (sound_rev (allE a q).e) fun e h _ => by obtain ⟨_, _, _, _, _, _, rfl, _⟩ := mt_rev h; rfl
  | .strMul w a, q => all_of (sound_strMul (allE a q).e) fun e h _ => by obtain ⟨_, _, _, _, rfl, _⟩ := mt_strMul h; rfl
  | .cat a b, q => all_of (sound_cat (allE a (q1 q)).e (allE b (q2 q)).e) fun e h _ => by obtain ⟨_, _, _, rfl, _⟩ := mt_cat h; rfl
  | .slen a, q => all_of (sound_slen F TK (allE a q).e) fun e h _ => by obtain ⟨_, _, _, _, rfl, _⟩ := mt_slen h; rfl
  | .sidx a i, q => all_of (sound_sidx (allE a (q1 q)).e (allE i (q2 q)).e) fun e h _ => by obtain ⟨_, _, _, rfl, _⟩ := mt_sidx h; rfl
  | .sTo a k, q => all_of (sound_sTo (allE a (q1 q)).e (allE k (q2 q)).e) fun e h _ => by obtain ⟨_, _, _, _, rfl, _⟩ := mt_sTo h; rfl
  | .sFrom a k, q => all_of (sound_sFrom (allE a (q1 q)).e (allE k (q2 q)).e) fun e h _ => by obtain ⟨_, _, _, _, rfl, _⟩ := mt_sFrom h; rfl
  | .split own a, q => all_of (sound_split (allE a q).e) fun e h _ => by obtain ⟨_, _, _, _, _, _, rfl, _⟩ := mt_split h; rfl
  | .join a, q => all_of (sound_join (allE a q).e) fun e h _ => by obtain ⟨_, _, _, _, _, _, rfl, _⟩ := mt_join h; rfl
  | .upper a, q => all_of (sound_upper (allE a q).e) fun e h _ => by obtain ⟨_, _, _, _, rfl, _⟩ := mt_upper h; rfl
  | .giveRepl i, q => all_of (sound_giveRepl F) fun e h _ => by obtain ⟨_, _, _, _, _, _, _, _, _, _, _, _, _, _, _, _, _, _, _, rfl, _⟩ := mt_giveRepl h; rfl
  | .strOf a, q => all_of (sound_strOf F TK (allE a q).e) fun e h _ => by obtain ⟨_, _, _, _, rfl, _⟩ := mt_strOf h; rfl
  | .intOf a, q => all_of (sound_intOf F TK (allE a q).e) fun e h _ => by obtain ⟨_, _, _, _, rfl, _⟩ := mt_intOf h; rfl
  | .notIn a b, q => ⟨sound_notIn (allE a (q1 q)).e (allE b (q2 q)).e, test_notIn (allE a (q1 q)).e (allE b (q2 q)).e⟩
  | .inT ws a, q => ⟨sound_inT soundEs_strs (allE a q).e, test_inT soundEs_strs (allE a q).e⟩
  | .notInL ws a, q => ⟨sound_notInL soundEs_strs (allE a q).e, test_notInL soundEs_strs (allE a q).e⟩
  | .minL a, q => all_of (sound_minL F TK (q0 q) (allE a (fun z => by rw [q0 q] at z; cases z)).e) fun e h _ => by obtain ⟨_, _, _, _, rfl, _⟩ := mt_minL h; rfl
  | .shownL i, q => all_of (sound_shownL F TK (q0 q)) fun e h _ => by obtain ⟨_, _, _, _, _, _, _, _, _, _, _, _, _, _, _, rfl, _⟩ := mt_shownL h; rfl
theorem allEs : ∀ mes : List ME, QEs x P mes → Alls c x Φ mes
  | [], _ => ⟨sound_nil, sound_and_nil, sound_or_nil, testA_nil, testO_nil⟩
  | me :: mes, q => ⟨sound_cons (allE me (q1 q)).e (allEs mes (q2 q)).es, sound_and_cons (allE me (q1 q)).e (allEs mes (q2 q)).a, sound_or_cons (allE me (q1 q)).e (allEs mes (q2 q)).o, testA_cons (allE me (q1 q)).t (allEs mes (q2 q)).ta, testO_cons (allE me (q1 q)).t (allEs mes (q2 q)).to⟩
end
end
end Mine
set_option maxRecDepth 100000
set_option linter.unusedVariables false
set_option linter.unusedSectionVars false
namespace Mine
open PySem PySem.W PyProof.Rows PySem.Calls

inductive FlRel (c : Cx) (x : Fx) (imm : Led) (ι : List Addr) (m : Str → Option Value) : Fl → Flow → Prop where
  | next {ρ : Loc} : LocRel c.B imm ι x.S ρ m → FlRel c x imm ι m (.next ρ) .next
  | brk {ρ : Loc} : LocRel c.B imm ι x.S ρ m → FlRel c x imm ι m (.brk ρ) .brk
  | cont {ρ : Loc} : LocRel c.B imm ι x.S ρ m → FlRel c x imm ι m (.cont ρ) .cont
  | ret {v : V} {y : Value} : Rep c.B imm ι v y → FlRel c x imm ι m (.ret v) (.ret y)

/-- the same within a statement: the locals too; b: it was made in this frame -/
noncomputable def ThrownS (c : Cx) (x : Fx) (imm : Led) (ι : List Addr) (b : Bool) (k : Nat) (ρ : Loc) (σ' : Store) (s s' : Shared) (e : Addr) : Prop :=
  match b with
  | false => ∃ m imm₁ ι₁ h₁ tk₁, Ext imm imm₁ ι ι₁ ∧ LocRel c.B imm₁ ι₁ x.S ρ m ∧ Thrown c x m imm₁ ι₁ k σ' { s with heap := h₁, toks := tk₁ } s' e
  | true => ∃ m imm' own' ι' h₁ vs C h tk, Ext imm imm' ι ι' ∧ c.B.xs[k]? = some C ∧ St c.Z c.B (Gnd x) x.L x.fz h₁ m imm' own' ι' σ' ∧ Heap.MadeExcOf h₁ h e (.ref C) vs ∧ s' = { s with heap := h, toks := tk }
theorem ThrownS.back {c : Cx} {x : Fx} {imm imm₁ : Led} {ι ι₁ : List Addr} {b : Bool} {k : Nat} {ρ : Loc} {σ' : Store} {s s' : Shared} {e : Addr} {h₁ : Heap} {tk₁ : Nat} (T : ThrownS c x imm₁ ι₁ b k ρ σ' { s with heap := h₁, toks := tk₁ } s' e) (hx : Ext imm imm₁ ι ι₁) :
    ThrownS c x imm ι b k ρ σ' s s' e := by
  cases b with
  | false =>
    obtain ⟨m, i, j, h, t, q, r⟩ := T
    exact ⟨m, i, j, h, t, hx.trans q, r⟩
  | true =>
    obtain ⟨m, i, o, j, h, vs, C, h', tk, q, r⟩ := T
    exact ⟨m, i, o, j, h, vs, C, h', tk, hx.trans q, r⟩
noncomputable def PostS (c : Cx) (x : Fx) (imm : Led) (ι : List Addr) (r : SR) (Q : Flow → Shared → Prop) (E : Value → Shared → Prop) (s : Shared) : Prop :=
  match r with
  | .ok fl σ' => ∀ fy h' tk m' imm' own' ι', Ext imm imm' ι ι' → St c.Z c.B (Gnd x) x.L x.fz h' m' imm' own' ι' σ' → FlRel c x imm' ι' m' fl fy → Q fy { s with heap := h', toks := tk }
  | .exn b k ρ σ' => ∀ e s', ThrownS c x imm ι b k ρ σ' s s' e → E (.ref e) s'
  | .stuck => False

noncomputable def SoundS (c : Cx) (x : Fx) (Φ : Fns) (st : MS) : Prop := ∀ (t : Stmt), ms c.T x.G x.S c.M st t = true → ∀ (fz : Led) (s : Shared) (imm own : Led) (ι : List Addr) (σ : Store) (ρ : Loc) (m : Str → Option Value) (Q : Flow → Shared → Prop) (E : Value → Shared → Prop), PassesOwn (model c.prog c.w) x.A x.env E →
  St c.Z c.B (Gnd x) x.L fz s.heap m imm own ι σ → LocRel c.B imm ι x.S ρ m → PostS c { x with fz := fz } imm ι (execS Φ st ρ σ) Q E s → wpAny (model c.prog c.w) x.A (exec t x.env) Q E s
noncomputable def SoundB (c : Cx) (x : Fx) (Φ : Fns) (b : List MS) : Prop := ∀ (ts : List Stmt), mss c.T x.G x.S c.M b ts = true → ∀ (fz : Led) (s : Shared) (imm own : Led) (ι : List Addr) (σ : Store) (ρ : Loc) (m : Str → Option Value) (Q : Flow → Shared → Prop) (E : Value → Shared → Prop), PassesOwn (model c.prog c.w) x.A x.env E →
  St c.Z c.B (Gnd x) x.L fz s.heap m imm own ι σ → LocRel c.B imm ι x.S ρ m → PostS c { x with fz := fz } imm ι (execB Φ b ρ σ) Q E s → wpAny (model c.prog c.w) x.A (execs ts x.env) Q E s

section
variable {c : Cx} {x : Fx} {d : Nat} {Φ : Fns} {P : Prog}

theorem PostS.lift {imm imm' : Led} {ι ι' : List Addr} {r : SR} {Q : Flow → Shared → Prop} {E : Value → Shared → Prop} {s : Shared} {h' : Heap} {tk : Nat} (hx : Ext imm imm' ι ι') (h : PostS c x imm ι r Q E s) : PostS c x imm' ι' r Q E { s with heap := h', toks := tk } := by
  cases r with
  | ok v' σ₂ => exact fun y' h'' tk' m'' imm'' own'' ι'' hx' hs' hr' => h y' h'' tk' m'' imm'' own'' ι'' (hx.trans hx') hs' hr'
  | exn _ _ _ _ => exact fun e s' T => h e s' (T.back hx)
  | stuck => exact h
theorem PostS.on {α β : Type} {m : Str → Option Value} {imm : Led} {ι : List Addr} {rel : Led → List Addr → α → β → Prop} {r : R α} {ρ : Loc} {f : α → Store → SR} {Q' : β → Shared → Prop} {s : Shared} {Q : Flow → Shared → Prop} {E : Value → Shared → Prop}
    (hl : LocRel c.B imm ι x.S ρ m) (h : PostS c x imm ι (r.on ρ f) Q E s)
    (k : ∀ v σ₁ y h' tk imm' own' ι', Ext imm imm' ι ι' → St c.Z c.B (Gnd x) x.L x.fz h' m imm' own' ι' σ₁ → rel imm' ι' v y → PostS c x imm' ι' (f v σ₁) Q E { s with heap := h', toks := tk } → Q' y { s with heap := h', toks := tk }) :
    Post c x m imm ι rel r Q' E s := by
  cases r with
  | ok v σ₁ =>
    intro y h' tk imm' own' ι' hx hs hr
    exact k v σ₁ y h' tk imm' own' ι' hx hs hr (PostS.lift hx h)
  | exn k σ' => exact fun e s' T => h e s' ⟨m, imm, ι, s.heap, s.toks, Ext.refl, hl, T⟩
  | stuck => exact h
theorem PostS.ok {imm own : Led} {ι : List Addr} {fl : Fl} {fy : Flow} {σ : Store} {m : Str → Option Value} {Q : Flow → Shared → Prop} {E : Value → Shared → Prop} {s : Shared} {tk : Nat} (h : PostS c x imm ι (.ok fl σ) Q E s)
    (X : St c.Z c.B (Gnd x) x.L x.fz s.heap m imm own ι σ) (hr : FlRel c x imm ι m fl fy) : Q fy { s with toks := tk } := h fy s.heap tk m imm own ι Ext.refl X hr

/-- the frame with other iterators around -/
theorem Frm.fz {fz : Led} (F : Frm c x d) : Frm c { x with fz := fz } d := ⟨F.kinB, F.topB, F.atB, F.imp, F.frames, F.calm, F.kind, F.loc, F.nd, F.depth, F.units, F.tree, F.gen, F.coro⟩

theorem St.setName {Z : Nms} {B : Bas} {h₀ : Heap → Prop} {L : Addr} {fz : Led} {h h' : Heap} {m m' : Str → Option Value} {imm own : Led} {ι : List Addr} {σ : Store} (X : St Z B h₀ L fz h m imm own ι σ) (F : Fr X.g L h' m') (N : News X.g L h' (own ++ (imm ++ fz))) : St Z B h₀ L fz h' m' imm own ι σ :=
  ⟨X.g, X.gd, F, N, X.nd, X.owned, X.base⟩

theorem upd_mid {a : Addr} {o o' : Obj} : ∀ {pre post : Led}, ((pre ++ (a, o) :: post).map (·.1)).Nodup → Upd a o o' (pre ++ (a, o) :: post) (pre ++ (a, o') :: post)
  | [], post, h => by
    refine .head fun p hp e => ?_
    simp only [List.nil_append, List.map_cons, List.nodup_cons] at h
    exact h.1 (e ▸ List.mem_map_of_mem hp)
  | p :: pre, post, h => by
    simp only [List.cons_append, List.map_cons, List.nodup_cons] at h
    refine .tail (fun e => h.1 ?_) (upd_mid h.2)
    rw [e]
    exact List.mem_map_of_mem (f := (·.1)) (a := (a, o)) (by simp)
theorem quiet_frame (F : Frm c x d) : interactive x.env = false := by
  show (x.scope.kind == .module && _) = false
  rw [F.kind]; rfl
theorem s_expr (F : Frm c x (d + 1)) (TK : TopOk c P) (FO : FnsOK c P d Φ) {e : ME} (hq : QE x P e) : SoundS c x Φ (.expr e) := by
  intro t hm fz s imm own ι σ ρ m Q E hE X hl h
  obtain ⟨y, p, rfl, hk⟩ := ms_expr hm
  simp only [xs_expr, xs_append, xs_assign, xs_unpack, xs_setattr, xs_setitem, xs_unpackSub, xs_unpackL, xs_ite, xs_forIn, xs_forRange, xs_forTup, xs_forStr, xs_asgMap, xs_while, xs_ret, xs_retNone, xs_brk, xs_cont, xs_pass, xs_raise, xs_try, xs_hand] at h
  refine wpAny_Expr_any ?_ (quiet_frame F) (swaps_no hk)
  refine (allE (x := { x with fz := fz }) F.fz TK FO e hq).e y hk s imm own ι σ ρ m _ E X hl (PostS.on hl h fun v σ₁ z h' tk imm' own' ι' hx X' hr h₁ => ?_)
  exact PostS.ok (tk := tk) h₁ X' (.next (hl.mono hx))

theorem s_assign (F : Frm c x (d + 1)) (TK : TopOk c P) (FO : FnsOK c P d Φ) {i : Nat} {e : ME} (hq : QE x P e) : SoundS c x Φ (.assign i e) := by
  intro t hm fz s imm own ι σ ρ m Q E hE X hl h
  obtain ⟨z, p1, y, p, rfl, hk⟩ := ms_assign hm
  simp only [Bool.and_eq_true, beq_iff_eq] at hk
  simp only [xs_expr, xs_append, xs_assign, xs_unpack, xs_setattr, xs_setitem, xs_unpackSub, xs_unpackL, xs_ite, xs_forIn, xs_forRange, xs_forTup, xs_forStr, xs_asgMap, xs_while, xs_ret, xs_retNone, xs_brk, xs_cont, xs_pass, xs_raise, xs_try, xs_hand] at h
  refine wpAny_Assign_Name ?_ (swaps_no hk.2)
  refine (allE (x := { x with fz := fz }) F.fz TK FO e hq).e y hk.2 s imm own ι σ ρ m _ E X hl (PostS.on hl h fun v σ₁ w h' tk imm' own' ι' hx X' hr h₁ => ?_)
  refine stN X'.fr X'.news (fun h'' F' N' => ?_) F.kind (F.loc z (List.mem_of_getElem? hk.1))
  exact h₁ _ h'' (tk + 1) _ imm' own' ι' Ext.refl (X'.setName F' N') (.next ((hl.mono hx).set F.nd hk.1 hr))

theorem s_append (F : Frm c x (d + 1)) (TK : TopOk c P) (FO : FnsOK c P d Φ) {o e : ME} (hq' : QE x P o) (hq : QE x P e) : SoundS c x Φ (.append o e) := by
  intro t hm fz s imm own ι σ ρ m Q E hE X hl h
  obtain ⟨l, y, pa, z, pc, p1, rfl, hk⟩ := ms_append hm
  simp only [Bool.and_eq_true, beq_iff_eq] at hk
  obtain ⟨⟨⟨rfl, ho⟩, he⟩, hln⟩ := hk
  simp only [xs_expr, xs_append, xs_assign, xs_unpack, xs_setattr, xs_setitem, xs_unpackSub, xs_unpackL, xs_ite, xs_forIn, xs_forRange, xs_forTup, xs_forStr, xs_asgMap, xs_while, xs_ret, xs_retNone, xs_brk, xs_cont, xs_pass, xs_raise, xs_try, xs_hand] at h
  refine wpAny_Expr_any ?_ (quiet_frame F) (by rfl)
  have he' : mts c.T x.G x.S c.M [e] [z] = true := by simp [mts, he]
  refine MCall (fun w => base_plain ho) (form_ok he' (by simp)) hln ?_
  refine (allE (x := { x with fz := fz }) F.fz TK FO o hq').e l ho s imm own ι σ ρ m _ E X hl (PostS.on hl h fun v σ₁ w h' tk imm' own' ι' hx X' hr h₁ => ?_)
  cases v with
  | loc i =>
    dsimp only at h₁
    cases hv : evalE Φ ρ e σ₁ with
    | exn _ _ => rw [hv] at h₁; exact h₁.elim
    | stuck => rw [hv] at h₁; exact h₁.elim
    | ok v σ₂ =>
      rw [hv] at h₁
      simp only [R.son] at h₁
      split at h₁
      · rename_i vs vs' hs2 hs1
        split at h₁
        · rename_i hlen
          obtain ⟨a, xs, n, pre, post, q1, q2, q3, q4⟩ := X'.owned.listAt hs1
          have ew : w = .ref a := by
            cases hr with
            | loc hi => rw [Option.some.inj (q1.symm.trans hi)]
          subst ew
          refine Calls.getMethod_list_append (o := lstObj xs n) ?_ rfl rfl ?_
          · exact (X'.news (a, lstObj xs n) (List.mem_append_left _ (by rw [q2]; simp))).1
          · refine callWith_method1 ?_ (star_cons he) rfl
            refine args_cons ?_ (star_cons he)
            refine (allE (x := { x with fz := fz }) F.fz TK FO e hq).e z he _ imm' own' ι' σ₁ ρ m _ E X' (hl.mono hx) ?_
            rw [hv]
            intro y h'' tk' imm'' own'' ι'' hx' X'' hry
            refine args_nil ?_
            obtain ⟨a', xs', n', pre', post', q1', q2', q3', q4'⟩ := X''.owned.listAt hs2
            have ea : a' = a := by
              have := hx'.2 i a q1
              rw [q1'] at this
              exact Option.some.inj this
            subst ea
            have nd := X''.nd
            have U : Upd a' (lstObj xs' n') (lstObj (xs' ++ [y]) (n' + 1)) (own'' ++ (imm'' ++ fz)) ((pre' ++ (a', lstObj (xs' ++ [y]) (n' + 1)) :: post') ++ (imm'' ++ fz)) := by
              rw [q2'] at nd ⊢
              have := upd_mid (o := lstObj xs' n') (o' := lstObj (xs' ++ [y]) (n' + 1)) (pre := pre') (post := post' ++ (imm'' ++ fz)) (by simpa using nd)
              simpa using this
            have eo : PySem.W.listOf xs'.toArray n' = lstObj xs' n' := rfl
            have eo' : PySem.W.listOf (xs'.toArray.push y) (n' + 1) = lstObj (xs' ++ [y]) (n' + 1) := by simp [PySem.W.listOf]
            refine append_K (its := xs'.toArray) (n := n') (news' := (pre' ++ (a', lstObj (xs' ++ [y]) (n' + 1)) :: post') ++ (imm'' ++ fz)) X''.fr X''.news (by rw [eo']; exact U) (fun h₃ F₃ N₃ => ?_) (by simp only [List.size_toArray]; rw [q3'.length, sizeLine_eq]; omega)
            refine h₁ _ h₃ tk' m imm'' _ ι'' hx' ⟨X''.g, X''.gd, F₃, N₃, ?_, q4' Ext.refl (q3'.append (.cons hry .nil)), X''.base⟩ (.next (hl.mono (hx.trans hx')))
            have e2 : ((pre' ++ (a', lstObj (xs' ++ [y]) (n' + 1)) :: post') ++ (imm'' ++ fz)).map (·.1) = (own'' ++ (imm'' ++ fz)).map (·.1) := by rw [q2']; simp
            rw [e2]; exact nd
        · exact h₁.elim
      · exact h₁.elim
  | _ => exact h₁.elim

theorem s_setattr (F : Frm c x (d + 1)) (TK : TopOk c P) (FO : FnsOK c P d Φ) {o : ME} {k : Nat} {e : ME} (hq' : QE x P o) (hq : QE x P e) : SoundS c x Φ (.setattr o k e) := by
  intro t hm fz s imm own ι σ ρ m Q E hE X hl h
  obtain ⟨l, y, p1, r, p2, rfl, hk⟩ := ms_setattr hm
  simp only [Bool.and_eq_true, beq_iff_eq] at hk
  obtain ⟨⟨hy, ho⟩, he⟩ := hk
  simp only [xs_expr, xs_append, xs_assign, xs_unpack, xs_setattr, xs_setitem, xs_unpackSub, xs_unpackL, xs_ite, xs_forIn, xs_forRange, xs_forTup, xs_forStr, xs_asgMap, xs_while, xs_ret, xs_retNone, xs_brk, xs_cont, xs_pass, xs_raise, xs_try, xs_hand] at h
  refine plainObj_wpAny_Assign_Attribute ?_ (swaps_no he)
  refine (allE (x := { x with fz := fz }) F.fz TK FO e hq).e r he s imm own ι σ ρ m _ E X hl (PostS.on hl h fun v σ₁ w h' tk imm' own' ι' hx X' hr h₁ => ?_)
  refine (allE (x := { x with fz := fz }) F.fz TK FO o hq').e l ho _ imm' own' ι' σ₁ ρ m _ E X' (hl.mono hx) (PostS.on (hl.mono hx) h₁ fun v' σ₂ w' h'' tk' imm'' own'' ι'' hx' X'' hr' h₂ => ?_)
  cases v' with
  | loc i =>
    dsimp only at h₂
    split at h₂
    · rename_i cl fs hs
      split at h₂
      · rename_i hc
        obtain ⟨a, dx, C, f, es, n, pre, post, q1, q2, q3, q4, q5⟩ := X''.owned.instAt hs
        have ew : w' = .ref a := by
          cases hr' with
          | loc hi => rw [Option.some.inj (q1.symm.trans hi)]
        subst ew
        obtain ⟨C', g, y', at', r1, r2, r3, r4, r5, r6, r7, r8, r9⟩ := FO.attr cl k hc.1
        rw [q3] at r1; cases r1
        have r2' := r2
        rw [TK.attrs, hy] at r2'; cases r2'
        have hI : PySem.W.InstAt h'' a (instObj C dx) C (some (dictOf es n)) := PySem.W.InstAt.of_news (L := x.L) X''.news (List.mem_append_left _ (by rw [q2]; simp)) (List.mem_append_left _ (by rw [q2]; simp))
        have nd := X''.nd
        have U : Upd dx (dictOf es n) (dictOf (putL y (PyData.keyHash c.w.params y) (.str y (tk' + 1)) w es) (putN y es n)) (own'' ++ (imm'' ++ fz)) ((pre ++ (a, instObj C dx) :: (dx, dictOf (putL y (PyData.keyHash c.w.params y) (.str y (tk' + 1)) w es) (putN y es n)) :: post) ++ (imm'' ++ fz)) := by
          rw [q2] at nd ⊢
          have := upd_mid (o := dictOf es n) (o' := dictOf (putL y (PyData.keyHash c.w.params y) (.str y (tk' + 1)) w es) (putN y es n)) (a := dx) (pre := pre ++ [(a, instObj C dx)]) (post := post ++ (imm'' ++ fz)) (by simpa using nd)
          simpa using this
        have hput : FRep c.Z c.B imm'' ι'' (putField k v fs) (putL y (PyData.keyHash c.w.params y) (.str y (tk' + 1)) w es) := q4.put r2 (hr.mono hx')
        refine set_dict X''.fr (F.kin X''.gd) X''.news hI rfl r7 r8 r9 r4 q4.getSome rfl U ?_ fun h₃ F₃ N₃ => ?_
        · rw [hput.length]
          have := putField_len k v fs
          omega
        · refine h₂ _ h₃ (tk' + 2) m imm'' _ ι'' Ext.refl ⟨X''.g, X''.gd, F₃, N₃, ?_, q5 Ext.refl hput, X''.base⟩ (.next (hl.mono (hx.trans hx')))
          have e2 : ((pre ++ (a, instObj C dx) :: (dx, dictOf (putL y (PyData.keyHash c.w.params y) (.str y (tk' + 1)) w es) (putN y es n)) :: post) ++ (imm'' ++ fz)).map (·.1) = (own'' ++ (imm'' ++ fz)).map (·.1) := by rw [q2]; simp
          rw [e2]; exact nd
      · exact h₂.elim
    · exact h₂.elim
  | _ => exact h₂.elim

theorem s_ite (F : Frm c x (d + 1)) (TK : TopOk c P) (FO : FnsOK c P d Φ) {e : ME} {a b : List MS} (hq : QE x P e) (ha : SoundB c x Φ a) (hb : SoundB c x Φ b) : SoundS c x Φ (.ite e a b) := by
  intro t hm fz s imm own ι σ ρ m Q E hE X hl h
  obtain ⟨u, xs, ys, p, rfl, hk⟩ := ms_ite hm
  simp only [Bool.and_eq_true] at hk
  obtain ⟨⟨h1, h2⟩, h3⟩ := hk
  simp only [xs_expr, xs_append, xs_assign, xs_unpack, xs_setattr, xs_setitem, xs_unpackSub, xs_unpackL, xs_ite, xs_forIn, xs_forRange, xs_forTup, xs_forStr, xs_asgMap, xs_while, xs_ret, xs_retNone, xs_brk, xs_cont, xs_pass, xs_raise, xs_try, xs_hand] at h
  refine wpAny_If ?_
  refine (allE (x := { x with fz := fz }) F.fz TK FO e hq).t u h1 s imm own ι σ ρ m _ E X hl ?_
  revert h
  cases evalE Φ ρ e σ with
  | exn _ _ => exact fun h e s' T => h e s' ⟨m, imm, ι, s.heap, s.toks, Ext.refl, hl, T⟩
  | stuck => exact fun h => h
  | ok v σ₁ =>
    simp only [R.on, R.bind]
    cases ht : truth v with
    | none => exact fun h => h
    | some t =>
      intro h y h' tk imm' own' ι' hx X' ey
      subst ey
      cases t with
      | true => rw [if_pos rfl]; exact ha xs h2 fz _ imm' own' ι' σ₁ ρ m Q E hE X' (hl.mono hx) (PostS.lift hx h)
      | false => rw [if_neg (by simp)]; exact hb ys h3 fz _ imm' own' ι' σ₁ ρ m Q E hE X' (hl.mono hx) (PostS.lift hx h)

theorem s_ret (F : Frm c x (d + 1)) (TK : TopOk c P) (FO : FnsOK c P d Φ) {e : ME} (hq : QE x P e) : SoundS c x Φ (.ret e) := by
  intro t hm fz s imm own ι σ ρ m Q E hE X hl h
  obtain ⟨y, p, rfl, hk⟩ := ms_ret hm
  simp only [xs_expr, xs_append, xs_assign, xs_unpack, xs_setattr, xs_setitem, xs_unpackSub, xs_unpackL, xs_ite, xs_forIn, xs_forRange, xs_forTup, xs_forStr, xs_asgMap, xs_while, xs_ret, xs_retNone, xs_brk, xs_cont, xs_pass, xs_raise, xs_try, xs_hand] at h
  refine wpAny_Return_some ?_
  refine (allE (x := { x with fz := fz }) F.fz TK FO e hq).e y hk s imm own ι σ ρ m _ E X hl (PostS.on hl h fun v σ₁ w h' tk imm' own' ι' hx X' hr h₁ => ?_)
  exact PostS.ok (tk := tk) h₁ X' (.ret hr)
theorem s_retNone : SoundS c x Φ .retNone := by
  intro t hm fz s imm own ι σ ρ m Q E hE X hl h
  obtain ⟨p, rfl, hk⟩ := ms_retNone hm
  simp only [xs_expr, xs_append, xs_assign, xs_unpack, xs_setattr, xs_setitem, xs_unpackSub, xs_unpackL, xs_ite, xs_forIn, xs_forRange, xs_forTup, xs_forStr, xs_asgMap, xs_while, xs_ret, xs_retNone, xs_brk, xs_cont, xs_pass, xs_raise, xs_try, xs_hand] at h
  exact wpAny_Return_none (PostS.ok (tk := s.toks) h X (.ret .none))
theorem s_brk : SoundS c x Φ .brk := by
  intro t hm fz s imm own ι σ ρ m Q E hE X hl h
  obtain ⟨p, rfl, hk⟩ := ms_brk hm
  simp only [xs_expr, xs_append, xs_assign, xs_unpack, xs_setattr, xs_setitem, xs_unpackSub, xs_unpackL, xs_ite, xs_forIn, xs_forRange, xs_forTup, xs_forStr, xs_asgMap, xs_while, xs_ret, xs_retNone, xs_brk, xs_cont, xs_pass, xs_raise, xs_try, xs_hand] at h
  exact wpAny_Break (PostS.ok (tk := s.toks) h X (.brk hl))
theorem s_cont : SoundS c x Φ .cont := by
  intro t hm fz s imm own ι σ ρ m Q E hE X hl h
  obtain ⟨p, rfl, hk⟩ := ms_cont hm
  simp only [xs_expr, xs_append, xs_assign, xs_unpack, xs_setattr, xs_setitem, xs_unpackSub, xs_unpackL, xs_ite, xs_forIn, xs_forRange, xs_forTup, xs_forStr, xs_asgMap, xs_while, xs_ret, xs_retNone, xs_brk, xs_cont, xs_pass, xs_raise, xs_try, xs_hand] at h
  exact wpAny_Continue (PostS.ok (tk := s.toks) h X (.cont hl))
theorem s_pass : SoundS c x Φ .pass := by
  intro t hm fz s imm own ι σ ρ m Q E hE X hl h
  obtain ⟨p, rfl, hk⟩ := ms_pass hm
  simp only [xs_expr, xs_append, xs_assign, xs_unpack, xs_setattr, xs_setitem, xs_unpackSub, xs_unpackL, xs_ite, xs_forIn, xs_forRange, xs_forTup, xs_forStr, xs_asgMap, xs_while, xs_ret, xs_retNone, xs_brk, xs_cont, xs_pass, xs_raise, xs_try, xs_hand] at h
  exact wpAny_Pass (PostS.ok (tk := s.toks) h X (.next hl))
theorem each_names {is : List Nat} {ts : List Expr} {env : Env} : ∀ {is : List Nat} {ts : List Expr}, targets x.S is ts = true → (assignEach ts env).length = is.length ∧ (assignEach ts env).findIdx? (·.1) = none
  | [], [], _ => ⟨rfl, rfl⟩
  | [], _ :: _, h => by first | cases targets_n h | cases h
  | _ :: _, [], h => by first | cases targets_n h | cases h
  | i :: is, e :: ts, h => by
    obtain ⟨_, _, _, e, h1, h2⟩ := targets_c h
    cases e
    obtain ⟨q1, q2⟩ := each_names (is := is) (ts := ts) h2
    refine ⟨?_, ?_⟩
    · show (assignEach ts env).length + 1 = is.length + 1
      rw [q1]
    · simp only [assignEach, List.findIdx?_cons, q2, Option.map_none]
      rfl
theorem set_len : ∀ {is : List Nat} {vs : List V} {ρ ρ' : Loc}, setAll is vs ρ = some ρ' → vs.length = is.length
  | [], [], _, _, _ => rfl
  | [], _ :: _, _, _, h => by simp [sa_0, sa_1, sa_8, sa_9] at h
  | _ :: _, [], _, _, h => by simp [sa_0, sa_1, sa_8, sa_9] at h
  | i :: is, v :: vs, ρ, ρ', h => by
    simp only [sa_0, sa_1, sa_8, sa_9] at h
    simp [set_len h]
theorem assign_names (F : Frm c x d) {fz imm own : Led} {ι : List Addr} {σ : Store} {Q : Unit → Shared → Prop} {E : Value → Shared → Prop} : ∀ {is : List Nat} {ts : List Expr} {vs : List V} {xs : List Value} {ρ ρ' : Loc} {m : Str → Option Value} {s : Shared},
    targets x.S is ts = true → setAll is vs ρ = some ρ' → Reps c.B imm ι vs xs → St c.Z c.B (Gnd x) x.L fz s.heap m imm own ι σ → LocRel c.B imm ι x.S ρ m →
    (∀ h' tk m', St c.Z c.B (Gnd x) x.L fz h' m' imm own ι σ → LocRel c.B imm ι x.S ρ' m' → Q () { s with heap := h', toks := tk }) → wpAny (model c.prog c.w) x.A (assignInOrder ((assignEach ts x.env).map (·.2)) xs) Q E s
  | [], [], [], _, ρ, ρ', m, s, _, hs, .nil, X, hl, k => by
    simp only [sa_0, sa_1, sa_8, sa_9] at hs
    cases hs
    exact wpAny_pure (k s.heap s.toks m X hl)
  | [], [], _ :: _, _, _, _, _, _, _, hs, _, _, _, _ => by simp [sa_0, sa_1, sa_8, sa_9] at hs
  | [], _ :: _, _, _, _, _, _, _, h, _, _, _, _, _ => by first | cases targets_n h | cases h
  | _ :: _, [], _, _, _, _, _, _, h, _, _, _, _, _ => by first | cases targets_n h | cases h
  | _ :: _, _ :: _, [], _, _, _, _, _, _, hs, _, _, _, _ => by simp [sa_0, sa_1, sa_8, sa_9] at hs
  | i :: is, e :: ts, v :: vs, _, ρ, ρ', m, s, h, hs, .cons (x := y) (xs := ys) hv hr, X, hl, k => by
    obtain ⟨z, p, _, e, h1, h2⟩ := targets_c h
    cases e
    simp only [beq_iff_eq] at h1
    simp only [sa_0, sa_1, sa_8, sa_9] at hs
    show wpAny (model c.prog c.w) x.A (do holding ys (assign (.Name z p) x.env y); assignInOrder ((assignEach ts x.env).map (·.2)) ys) Q E s
    refine wpAny_bind (wpAny_holding (assign_Name (stN X.fr X.news (fun h' F' N' => ?_) F.kind (F.loc z (List.mem_of_getElem? h1)))))
    exact assign_names F h2 hs hr (X.setName F' N') (hl.set F.nd h1 hv) fun h'' tk m' X' hl' => k h'' tk m' X' hl'
noncomputable def nmF (env : Env) (l : Nat) (e : Expr) : Option Str := match e with | .Name id pos => if env.kindOf id == some .local && pos.line == l then some id else none | _ => none
theorem swaps_names {ts vs : List Expr} {p1 p2 q1 q2} {env : Env} (hk : env.blockKind = .function) (hn : (ts.length == 2 || ts.length == 3) = true) (hl : (vs.length == ts.length) = true) (hs : vs.any isStar = false) (hf : vs.all (foldedForSure 8) = false) (hc : vs.all (constantsAlone 8) = false) {ns : List Str}
    (hns : ts.filterMap (nmF env ((ts.head?.map (·.pos.line)).getD 0)) = ns) (h1 : ns.length = ts.length) (h2 : ns.eraseDups.length = ns.length) : swappedStores [.Tuple ts p1 p2] (.Tuple vs q1 q2) env = pure (some ns) := by
  subst hns
  unfold swappedStores
  show (if (!(ts.length == 2 || ts.length == 3) || !(vs.length == ts.length) || env.blockKind != .function) = true then pure none else if vs.any isStar = true then pure none else
    if ((ts.filterMap (nmF env ((ts.head?.map (·.pos.line)).getD 0))).length != ts.length || (ts.filterMap (nmF env ((ts.head?.map (·.pos.line)).getD 0))).eraseDups.length != (ts.filterMap (nmF env ((ts.head?.map (·.pos.line)).getD 0))).length) = true then pure none else
    if vs.all (foldedForSure 8) = true then pure none else if vs.all (constantsAlone 8) = true then unsupported "assign.tuple-of-constant-expressions:order-of-the-stores" else pure (some (ts.filterMap (nmF env ((ts.head?.map (·.pos.line)).getD 0))))) = _
  rw [hn, hl, hk, hs, hf, hc, h1, h2, h1]
  simp
theorem names_at {env : Env} {l : Nat} {S : List Str} (hk : ∀ z ∈ S, env.kindOf z = some .local) : ∀ {is : List Nat} {ts : List Expr}, targets S is ts = true → ts.all (onLine l) = true →
    is.map (S[·]?) = (ts.filterMap nm0).map some ∧ ts.filterMap (nmF env l) = ts.filterMap nm0 ∧ ts.length = is.length ∧ (ts.filterMap nm0).length = is.length
  | [], [], _, _ => ⟨rfl, rfl, rfl, rfl⟩
  | [], _ :: _, h, _ => by first | cases targets_n h | cases h
  | _ :: _, [], h, _ => by first | cases targets_n h | cases h
  | i :: is, e :: ts, h, hl => by
    obtain ⟨z, p, _, e, h1, h2⟩ := targets_c h
    cases e
    rw [List.all_cons, Bool.and_eq_true] at hl
    obtain ⟨a1, a2, a3, a4⟩ := names_at hk h2 hl.2
    have e1 := beq_iff_eq.mp h1
    have l1 : (p.line == l) = true := hl.1
    have n0 : nm0 (.Name z p) = some z := rfl
    have n1 : nmF env l (.Name z p) = some z := by
      show (if (env.kindOf z == some .local && p.line == l) = true then some z else none) = some z
      rw [hk z (List.mem_of_getElem? e1), l1]; rfl
    simp only [List.filterMap_cons, n0, n1, List.map_cons, List.length_cons, a1, a2, a3, a4, e1, and_self]
theorem bind_names (F : Frm c x d) {fz imm own : Led} {ι : List Addr} {σ : Store} {Q : Unit → Shared → Prop} {E : Value → Shared → Prop} : ∀ {is : List Nat} {ns : List Str} {vs : List V} {xs : List Value} {ρ ρ' : Loc} {m : Str → Option Value} {s : Shared},
    is.map (x.S[·]?) = ns.map some → setAll is vs ρ = some ρ' → Reps c.B imm ι vs xs → St c.Z c.B (Gnd x) x.L fz s.heap m imm own ι σ → LocRel c.B imm ι x.S ρ m →
    (∀ h' tk m', St c.Z c.B (Gnd x) x.L fz h' m' imm own ι σ → LocRel c.B imm ι x.S ρ' m' → Q () { s with heap := h', toks := tk }) → wpAny (model c.prog c.w) x.A (assignInOrder (ns.map fun n => bindName x.env n) xs) Q E s
  | [], [], [], _, ρ, ρ', m, s, _, hs, .nil, X, hl, k => by
    simp only [sa_0, sa_1, sa_8, sa_9] at hs
    cases hs
    exact wpAny_pure (k s.heap s.toks m X hl)
  | [], [], _ :: _, _, _, _, _, _, _, hs, _, _, _, _ => by simp [sa_0, sa_1, sa_8, sa_9] at hs
  | [], _ :: _, _, _, _, _, _, _, h, _, _, _, _, _ => by cases h
  | _ :: _, [], _, _, _, _, _, _, h, _, _, _, _, _ => by cases h
  | _ :: _, _ :: _, [], _, _, _, _, _, _, hs, _, _, _, _ => by simp [sa_0, sa_1, sa_8, sa_9] at hs
  | i :: is, z :: ns, v :: vs, _, ρ, ρ', m, s, h, hs, .cons (x := y) (xs := ys) hv hr, X, hl, k => by
    rw [List.map_cons, List.map_cons, List.cons.injEq] at h
    simp only [sa_0, sa_1, sa_8, sa_9] at hs
    show wpAny (model c.prog c.w) x.A (do holding ys (bindName x.env z y); assignInOrder (ns.map fun n => bindName x.env n) ys) Q E s
    refine wpAny_bind (wpAny_holding (wpAny_bindName (stN X.fr X.news (fun h' F' N' => ?_) F.kind (F.loc z (List.mem_of_getElem? h.1)))))
    exact bind_names F h.2 hs hr (X.setName F' N') (hl.set F.nd h.1 hv) fun h'' tk m' X' hl' => k h'' tk m' X' hl'
theorem Reps.rev {B : Bas} {imm : Led} {ι : List Addr} : ∀ {vs : List V} {xs : List Value}, Reps B imm ι vs xs → Reps B imm ι vs.reverse xs.reverse
  | _, _, .nil => .nil
  | _, _, .cons h r => by rw [List.reverse_cons, List.reverse_cons]; exact r.rev.append (.cons h .nil)
theorem set_rev {is : List Nat} {vs : List V} {ρ ρ' : Loc} (hn : is.Nodup) (h2 : is.length = 2 ∨ is.length = 3) (h : setAll is vs ρ = some ρ') : setAll is.reverse vs.reverse ρ = some ρ' := by
  have hl := set_len h
  match is, vs, hn, h2, hl, h with
  | [i, j], [a, b], hn, _, _, h =>
    have e : i ≠ j := by simp at hn; exact hn
    simp only [sa_0, sa_1, sa_8, sa_9, Option.some.injEq] at h
    subst h
    simp only [List.reverse_cons, List.reverse_nil, List.nil_append, List.cons_append, sa_0, sa_1, sa_8, sa_9]
    rw [List.set_comm _ _ e]
  | [i, j, k], [a, b, c], hn, _, _, h =>
    have e : (i ≠ j ∧ i ≠ k) ∧ j ≠ k := by simp at hn; exact hn
    simp only [sa_0, sa_1, sa_8, sa_9, Option.some.injEq] at h
    subst h
    simp only [List.reverse_cons, List.reverse_nil, List.nil_append, List.cons_append, sa_0, sa_1, sa_8, sa_9]
    rw [List.set_comm _ _ e.1.1, List.set_comm _ _ e.1.2, List.set_comm (l := ρ) _ _ e.2]
theorem s_unpack (F : Frm c x (d + 1)) (TK : TopOk c P) (FO : FnsOK c P d Φ) {is : List Nat} {e : ME} (hq : QE x P e) (hc : x.quiet = false) : SoundS c x Φ (.unpack is e) := by
  intro t hm fz s imm own ι σ ρ m Q E hE X hl h
  obtain ⟨ts, p1, p2, y, p3, rfl, hk⟩ := ms_unpack hm
  simp only [Bool.and_eq_true] at hk
  obtain ⟨⟨ht, he⟩, hn⟩ := hk
  simp only [xs_expr, xs_append, xs_assign, xs_unpack, xs_setattr, xs_setitem, xs_unpackSub, xs_unpackL, xs_ite, xs_forIn, xs_forRange, xs_forTup, xs_forStr, xs_asgMap, xs_while, xs_ret, xs_retNone, xs_brk, xs_cont, xs_pass, xs_raise, xs_try, xs_hand] at h
  cases hy : vTuple y with
  | none =>
    refine Assign_Tuple ?_ (by unfold swapsWithSole; exact swaps_no he) (by cases y <;> first | rfl | cases hy)
    refine (allE (x := { x with fz := fz }) F.fz TK FO e hq).e y he s imm own ι σ ρ m _ E X hl (PostS.on hl h fun v σ₁ w h' tk imm' own' ι' hx X' hr h₁ => ?_)
    cases v with
    | tup vs =>
      dsimp only at h₁
      split at h₁
      · rename_i ρ' hρ
        obtain ⟨b, xs, rfl, hT, rs⟩ := X'.isTup hr
        obtain ⟨q1, q2⟩ := each_names (env := x.env) (is := is) (ts := ts) ht
        refine unpackN_ X'.fr X'.news hT (F.calm hc) (by rw [q1, List.size_toArray, rs.length, set_len hρ]) q2 fun h'' F' N' => ?_
        exact assign_names F ht hρ rs (X'.keep F' N') (hl.mono hx) fun h₃ tk₃ m₃ X₃ hl₃ => h₁ _ h₃ tk₃ m₃ imm' own' ι' Ext.refl X₃ (.next hl₃)
      · exact h₁.elim
    | _ => exact h₁.elim
  | some z =>
    unfold tupOk at hn
    rw [hy] at hn
    simp only [Option.all_some, Bool.and_eq_true, decide_eq_true_eq, Bool.not_eq_true'] at hn
    obtain ⟨n1, n2, n3, n4, n5, n6, n7, n8⟩ := hn
    obtain ⟨vs', a1, a2⟩ := z
    cases vTuple_inv hy
    have nk : x.env.blockKind = .function := by
      show (if x.scope.kind.isAnnotationScope = true then ScopeKind.function else x.scope.kind) = _
      rw [F.kind]; rfl
    obtain ⟨b1, b2, b3, b4⟩ := names_at (env := x.env) (fun z hz => F.loc z hz) ht n4
    refine Assign_Tuple_swapped (names := ts.filterMap nm0) ?_ (by unfold swapsWithSole; exact swaps_no he) (swaps_names nk n1 n2 n6 n7 n8 b2 (b4.trans b3.symm) n5)
    refine (allE (x := { x with fz := fz }) F.fz TK FO e hq).e _ he s imm own ι σ ρ m _ E X hl (PostS.on hl h fun v σ₁ w h' tk imm' own' ι' hx X' hr h₁ => ?_)
    cases v with
    | tup vs =>
      dsimp only at h₁
      split at h₁
      · rename_i ρ' hρ
        obtain ⟨b, xs, rfl, hT, rs⟩ := X'.isTup hr
        refine unpackItemsN_ X'.fr X'.news hT (F.calm hc) (by rw [b4, List.size_toArray, rs.length, set_len hρ]) fun h'' F' N' => ?_
        have l23 : is.length = 2 ∨ is.length = 3 := by
          rw [b3] at n1; simpa using n1
        refine bind_names F (is := is.reverse) (vs := vs.reverse) (by rw [List.map_reverse, List.map_reverse, b1]) (set_rev n3 l23 hρ) rs.rev (X'.keep F' N') (hl.mono hx) fun h₃ tk₃ m₃ X₃ hl₃ => h₁ _ h₃ tk₃ m₃ imm' own' ι' Ext.refl X₃ (.next hl₃)
      · exact h₁.elim
    | _ => exact h₁.elim
theorem far2' {n : Int} {l : Nat} (h : n.toNat < l) (h' : l ≤ 1000000) : n < 2 ^ 63 := by omega
theorem in_size {n : Int} {l : Nat} (h0 : 0 ≤ n) (h : n.toNat < l) : n < (l : Int) := by omega
theorem Reps.set {B : Bas} {imm : Led} {ι : List Addr} {v : V} {y : Value} (hv : Rep B imm ι v y) {vs : List V} {xs : List Value} (h : Reps B imm ι vs xs) (n : Nat) : Reps B imm ι (vs.set n v) (xs.set n y) :=
  h.ind (p := fun vs xs => ∀ n, Reps B imm ι (vs.set n v) (xs.set n y)) (fun _ => .nil) (fun u x vs xs hu hr k n => by
    cases n with
    | zero => exact .cons hv hr
    | succ n => exact .cons hu (k n)) n
theorem ownL_inv {σ : Store} {w : V} {q : Nat × List V} (h : ownL σ w = some q) : w = .loc q.1 ∧ σ[q.1]? = some (.list q.2) := by
  cases w with
  | loc i =>
    have h : (match σ[i]? with | some (.list vs) => some (i, vs) | _ => Option.none) = some q := h
    split at h
    · cases h; exact ⟨rfl, ‹_›⟩
    · cases h
  | _ => cases h
theorem pairOf_inv {v : V} {q : V × V} (h : pairOf v = some q) : v = .tup [q.1, q.2] := by
  unfold pairOf at h
  split at h
  · split at h
    · cases h; rfl
    · cases h
  · cases h
/-- an item is put -/
theorem store_at {A : Around} {fz : Led} {s : Shared} {imm own : Led} {ι : List Addr} {σ σ' : Store} {m : Str → Option Value} {u j v : V} {y₁ y₂ y₃ : Value} {Q : Unit → Shared → Prop} {E : Value → Shared → Prop} (X : St c.Z c.B (Gnd x) x.L fz s.heap m imm own ι σ) (hu : Rep c.B imm ι u y₁) (hj : Rep c.B imm ι j y₂) (hv : Rep c.B imm ι v y₃)
    (hp : putAt σ u j v = some σ') (k : ∀ h' own', St c.Z c.B (Gnd x) x.L fz h' m imm own' ι σ' → Q () { s with heap := h' }) : wpAny (model c.prog c.w) A (setItem y₁ y₂ y₃) Q E s := by
  obtain ⟨⟨i, vs⟩, h1, hp2⟩ := Option.bind_eq_some_iff.mp hp
  obtain ⟨n, h2, hp3⟩ := Option.bind_eq_some_iff.mp hp2
  obtain ⟨rfl, hs⟩ := ownL_inv h1
  obtain rfl := asInt_inv h2
  clear hp hp2 h1 h2
  split at hp3
  · rename_i hc
    cases hp3
    obtain ⟨a, xs, nn, pre, post, q1, q2, q3, q4⟩ := X.owned.listAt hs
    obtain ⟨t, rfl⟩ := inv_int hj
    cases hu with
    | loc hi =>
    cases Option.some.inj (q1.symm.trans hi)
    have z := X.news (a, lstObj xs nn) (List.mem_append_left _ (by rw [q2]; simp))
    have hlen := q3.length
    have nd := X.nd
    have N : News X.g x.L s.heap ((pre ++ (a, lstObj xs nn) :: post) ++ (imm ++ fz)) := fun p hp => X.news p (by rw [q2]; exact hp)
    rw [q2] at nd
    have nd2 : ((pre ++ (a, lstObj xs nn) :: (post ++ (imm ++ fz))).map (·.1)).Nodup := by simpa using nd
    have hne : (∀ p ∈ pre, p.1 ≠ a) ∧ ∀ p ∈ post ++ (imm ++ fz), p.1 ≠ a := by
      rw [List.map_append, List.map_cons, List.nodup_append] at nd2
      obtain ⟨_, n2, n3⟩ := nd2
      rw [List.nodup_cons] at n2
      exact ⟨fun p hp e => n3 p.1 (List.mem_map_of_mem hp) a (.head _) e, fun p hp e => n2.1 (List.mem_map.mpr ⟨p, hp, e⟩)⟩
    refine ki_setAt (n := nn) (items := xs.toArray) z.1 hc.1 (far2' hc.2.1 hc.2.2) (by simp only [List.size_toArray]; rw [hlen]; exact in_size hc.1 hc.2.1) ?_
    refine k _ (pre ++ (a, lstObj (xs.set n.toNat y₃) nn) :: post) ⟨X.g, X.gd, X.fr.change (Heap.SameBut.update ..) z.2.1 z.2.2, ?_, ?_, q4 Ext.refl (q3.set hv _), X.base⟩
    · have := ki_turn (its' := (xs.set n.toNat y₃).toArray) (n' := nn) (·.setIfInBounds n.toNat y₃) (pre := pre) (post := post ++ (imm ++ fz)) (D := a) (its := xs.toArray) (n := nn) (by simpa using N) hne.1 hne.2 (by simp) (by simp)
      simpa using this
    · simpa using nd
  · cases hp3
theorem s_setitem (F : Frm c x (d + 1)) (TK : TopOk c P) (FO : FnsOK c P d Φ) {o k e : ME} (hq1 : QE x P o) (hq2 : QE x P k) (hq : QE x P e) : SoundS c x Φ (.setitem o k e) := by
  intro t hm fz s imm own ι σ ρ m Q E hE X hl h
  obtain ⟨l, r, p1, y, p2, rfl, hk⟩ := ms_setitem hm
  simp only [Bool.and_eq_true] at hk
  obtain ⟨⟨ho, hkk⟩, he⟩ := hk
  simp only [xs_expr, xs_append, xs_assign, xs_unpack, xs_setattr, xs_setitem, xs_unpackSub, xs_unpackL, xs_ite, xs_forIn, xs_forRange, xs_forTup, xs_forStr, xs_asgMap, xs_while, xs_ret, xs_retNone, xs_brk, xs_cont, xs_pass, xs_raise, xs_try, xs_hand] at h
  refine wpAny_Assign_Subscript ?_ (swaps_no he)
  refine (allE (x := { x with fz := fz }) F.fz TK FO e hq).e y he s imm own ι σ ρ m _ E X hl (PostS.on hl h fun v σ₁ w h' tk imm' own' ι' hx X' hr h₁ => ?_)
  refine (allE (x := { x with fz := fz }) F.fz TK FO o hq1).e l ho _ imm' own' ι' σ₁ ρ m _ E X' (hl.mono hx) (PostS.on (hl.mono hx) h₁ fun u σ₂ w₂ h₂' tk₂ imm₂ own₂ ι₂ hx₂ X₂ hr₂ h₂ => ?_)
  refine (allE (x := { x with fz := fz }) F.fz TK FO k hq2).e r hkk _ imm₂ own₂ ι₂ σ₂ ρ m _ E X₂ (hl.mono (hx.trans hx₂)) (PostS.on (hl.mono (hx.trans hx₂)) h₂ fun j σ₃ w₃ h₃' tk₃ imm₃ own₃ ι₃ hx₃ X₃ hr₃ h₃ => ?_)
  cases hp : putAt σ₃ u j v with
  | none => rw [hp] at h₃; exact h₃.elim
  | some σ₄ =>
    rw [hp] at h₃
    exact store_at X₃ (hr₂.mono hx₃) hr₃ (hr.mono (hx₂.trans hx₃)) hp fun h₄ own₄ X₄ => h₃ _ h₄ tk₃ m imm₃ own₄ ι₃ Ext.refl X₄ (.next (hl.mono (hx.trans (hx₂.trans hx₃))))
theorem s_unpackSub (F : Frm c x (d + 1)) (TK : TopOk c P) (FO : FnsOK c P d Φ) {i : Nat} {o k e : ME} (hq1 : QE x P o) (hq2 : QE x P k) (hq : QE x P e) (hc : x.quiet = false) : SoundS c x Φ (.unpackSub i o k e) := by
  intro t hm fz s imm own ι σ ρ m Q E hE X hl h
  obtain ⟨z, p1, l, r, p2, p3, p4, y, p5, rfl, hk⟩ := ms_unpackSub hm
  simp only [Bool.and_eq_true, beq_iff_eq] at hk
  obtain ⟨⟨⟨⟨hz, ho⟩, hkk⟩, he⟩, hn⟩ := hk
  simp only [xs_expr, xs_append, xs_assign, xs_unpack, xs_setattr, xs_setitem, xs_unpackSub, xs_unpackL, xs_ite, xs_forIn, xs_forRange, xs_forTup, xs_forStr, xs_asgMap, xs_while, xs_ret, xs_retNone, xs_brk, xs_cont, xs_pass, xs_raise, xs_try, xs_hand] at h
  refine Assign_Tuple ?_ (by unfold swapsWithSole; exact swaps_no he) (by cases y <;> first | rfl | cases hn)
  refine (allE (x := { x with fz := fz }) F.fz TK FO e hq).e y he s imm own ι σ ρ m _ E X hl (PostS.on hl h fun v σ₁ w h' tk imm' own' ι' hx X' hr h₁ => ?_)
  cases hv : pairOf v with
  | none => rw [hv] at h₁; exact h₁.elim
  | some q =>
    rw [hv] at h₁
    obtain rfl := pairOf_inv hv
    obtain ⟨b, xs, rfl, hT, rs⟩ := X'.isTup hr
    cases rs with
    | @cons _ y1 _ _ r1 rs =>
    cases rs with
    | @cons _ y2 _ _ r2 rs =>
    cases rs
    refine unpackN_ X'.fr X'.news hT (F.calm hc) rfl rfl fun h'' F' N' => ?_
    show wpAny (model c.prog c.w) x.A (do holding [y2] (assign (.Name z p1) x.env y1); assignInOrder ((assignEach [.Subscript l r p2] x.env).map (·.2)) [y2]) _ E _
    have X₁ := X'.keep F' N'
    refine wpAny_bind (wpAny_holding (assign_Name (stN X₁.fr X₁.news (fun h₁' F₁ N₁ => ?_) F.kind (F.loc z (List.mem_of_getElem? hz)))))
    have X₂ := X₁.setName F₁ N₁
    have hl₂ := (hl.mono hx).set F.nd hz r1
    show wpAny (model c.prog c.w) x.A (do holding [] (assign (.Subscript l r p2) x.env y2); pure ()) _ E _
    refine wpAny_bind (wpAny_holding ?_)
    rw [assign_Subscript]
    refine wpAny_bind (wpAny_holding ?_)
    refine (allE (x := { x with fz := fz }) F.fz TK FO o hq1).e l ho _ imm' own' ι' σ₁ _ _ _ E X₂ hl₂ (PostS.on hl₂ h₁ fun u σ₂ w₂ h₂' tk₂ imm₂ own₂ ι₂ hx₂ X₂ hr₂ h₂ => ?_)
    refine wpAny_bind (wpAny_holding ?_)
    refine (allE (x := { x with fz := fz }) F.fz TK FO k hq2).e r hkk _ imm₂ own₂ ι₂ σ₂ _ _ _ E X₂ (hl₂.mono hx₂) (PostS.on (hl₂.mono hx₂) h₂ fun j σ₃ w₃ h₃' tk₃ imm₃ own₃ ι₃ hx₃ X₃ hr₃ h₃ => ?_)
    refine wpAny_bind (wpAny_standAt (wpAny_bind (wpAny_holding ?_)))
    cases hp : putAt σ₃ u j q.2 with
    | none => rw [hp] at h₃; exact h₃.elim
    | some σ₄ =>
      rw [hp] at h₃
      exact store_at X₃ (hr₂.mono hx₃) hr₃ (r2.mono (hx₂.trans hx₃)) hp fun h₄ own₄ X₄ => wpAny_release (wpAny_pure (h₃ _ h₄ tk₃ _ imm₃ own₄ ι₃ Ext.refl X₄ (.next (hl₂.mono (hx₂.trans hx₃)))))
section
variable {prog : Program} {w : World} {A : Around} {E : Value → Shared → Prop}
theorem draw_list {it t : Addr} {items : Array Value} (hne : t ≠ it) (n : Nat) : ∀ (i : Nat) (s : Shared) (Q : List Value → Shared → Prop), Heap.IsListIter s.heap it t i → s.heap.IsList t items → i + n ≤ items.size →
    (∀ h', Heap.IsListIter h' it t (i + n) → Heap.SameBut it s.heap h' → Q ((items.toList.drop i).take n) { s with heap := h' }) → wpAny (model prog w) A (draw (.ref it) n) Q E s := by
  induction n with
  | zero =>
    intro i s Q hit _ _ k
    refine wpAny_pure ?_
    have := k s.heap hit (Heap.SameBut.refl ..)
    rwa [List.take_zero] at this
  | succ n ih =>
    intro i s Q hit hl hle k
    have hi : i < items.size := Nat.lt_of_lt_of_le (Nat.lt_add_of_pos_right (Nat.succ_pos n)) hle
    refine wpAny_bind (wpAny_pyNext_list_item hit hl (Array.getElem?_eq_getElem hi) fun h₁ hit₁ hs₁ => ?_)
    refine wpAny_bind (wpAny_holding (ih (i + 1) _ _ hit₁ (hl.extBut hs₁.extBut hne) (by omega) fun h₂ hit₂ hs₂ => wpAny_pure ?_))
    have := k h₂ (by rw [show i + (n + 1) = i + 1 + n by omega]; exact hit₂) (hs₁.trans hs₂)
    rw [List.drop_eq_getElem_cons (by simpa using hi), List.take_succ_cons] at this
    exact this
theorem unpack_list {t : Addr} {items : Array Value} {env : Env} {elts : List Expr} {x1} {pos : Pos} {s : Shared} {Q : Unit → Shared → Prop} (hh : A.handled = none) (hl : s.heap.IsList t items) (hn : (assignEach elts env).length = items.size) (hstar : (assignEach elts env).findIdx? (·.1) = none)
    (k : ∀ h', Heap.ExtBut s.heap.objs.size s.heap h' → wpAny (model prog w) A (assignInOrder ((assignEach elts env).map (·.2)) items.toList) Q E { s with heap := h' }) :
    wpAny (model prog w) A (assign (.Tuple elts x1 pos) env (.ref t)) Q E s := by
  have hlt : t ≠ s.heap.objs.size := by obtain ⟨o, ho, _⟩ := hl; exact Nat.ne_of_lt (Heap.lt_size ho)
  rw [assign_Tuple]
  refine wpAny_bind (wpAny_standAt ?_)
  unfold unpack
  rw [hn, hstar]
  refine wpAny_bind (wpAny_holding ?_)
  unfold unpackItems
  refine wpAny_bind ?_
  unfold notIterableAtAll
  refine wpAny_bind (wpAny_specialOf hl.typeIs slot_list_iter.lookup (wpAny_pure ?_))
  simp only [Bool.false_eq_true, if_false]
  refine wpAny_bind (wpAny_holding (wpAny_pyIter_list hl ?_))
  refine wpAny_bind (wpAny_holding (draw_list hlt items.size 0 _ _ ⟨_, Heap.get?_push_size _ rfl, rfl, rfl⟩ (hl.push _) (by omega) fun h₁ hit₁ hs₁ => ?_))
  have hall : List.take items.size (List.drop 0 items.toList) = items.toList := List.take_of_length_le (by simp)
  rw [hall, if_neg (by simp)]
  have hl₁ : h₁.IsList t items := (hl.push _).extBut hs₁.extBut hlt
  refine wpAny_bind (wpAny_holding (wpAny_pyNext_list_end hh hit₁ hl₁ (by simp) fun h₂ he₂ => ?_))
  simp only [Option.isSome_none, Bool.false_eq_true, if_false]
  exact wpAny_pure (k h₂ fun b o hb e => he₂ b o hb (hs₁.extBut b o hb (Heap.get?_push_of_some _ e)))
end
theorem lstOf_inv {v : V} {vs : List V} (h : lstOf v = some vs) : v = .lst vs := by
  cases v with
  | lst us => exact congrArg V.lst (Option.some.inj h)
  | _ => cases h
theorem s_unpackL (F : Frm c x (d + 1)) (TK : TopOk c P) (FO : FnsOK c P d Φ) {is : List Nat} {e : ME} (hq : QE x P e) (hc : x.quiet = false) : SoundS c x Φ (.unpackL is e) := by
  intro t hm fz s imm own ι σ ρ m Q E hE X hl h
  obtain ⟨ts, p1, p2, y, p3, rfl, hk⟩ := ms_unpackL hm
  simp only [Bool.and_eq_true] at hk
  obtain ⟨⟨ht, he⟩, hn⟩ := hk
  simp only [xs_expr, xs_append, xs_assign, xs_unpack, xs_setattr, xs_setitem, xs_unpackSub, xs_unpackL, xs_ite, xs_forIn, xs_forRange, xs_forTup, xs_forStr, xs_asgMap, xs_while, xs_ret, xs_retNone, xs_brk, xs_cont, xs_pass, xs_raise, xs_try, xs_hand] at h
  refine Assign_Tuple ?_ (by unfold swapsWithSole; exact swaps_no he) (by cases y <;> first | rfl | cases hn)
  refine (allE (x := { x with fz := fz }) F.fz TK FO e hq).e y he s imm own ι σ ρ m _ E X hl (PostS.on hl h fun v σ₁ w h' tk imm' own' ι' hx X' hr h₁ => ?_)
  cases hv : (lstOf v).bind fun vs => setAll is vs ρ with
  | none => rw [hv] at h₁; exact h₁.elim
  | some ρ' =>
    rw [hv] at h₁
    obtain ⟨vs, hv1, hρ⟩ := Option.bind_eq_some_iff.mp hv
    obtain rfl := lstOf_inv hv1
    obtain ⟨b, xs, rfl, hL, rs⟩ := X'.isList hr rfl
    obtain ⟨q1, q2⟩ := each_names (env := x.env) (is := is) (ts := ts) ht
    refine unpack_list (F.calm hc) hL (by rw [q1, List.size_toArray, rs.length, set_len hρ]) q2 fun h'' he'' => ?_
    exact assign_names F ht hρ rs (X'.keep (X'.fr.extBut he'' (Nat.le_refl _)) (X'.news.extBut he'' (Nat.le_refl _))) (hl.mono hx) fun h₃ tk₃ m₃ X₃ hl₃ => h₁ _ h₃ tk₃ m₃ imm' own' ι' Ext.refl X₃ (.next hl₃)
theorem b_nil : SoundB c x Φ [] := by
  intro ts hm fz s imm own ι σ ρ m Q E hE X hl h
  cases ts with
  | cons _ _ => (first | cases mss_n hm | cases hm)
  | nil =>
    simp only [xb_0, xb_1] at h
    exact wpAny_execs_nil (PostS.ok (tk := s.toks) h X (.next hl))
theorem b_cons {st : MS} {r : List MS} (h1 : SoundS c x Φ st) (h2 : SoundB c x Φ r) : SoundB c x Φ (st :: r) := by
  intro ts hm fz s imm own ι σ ρ m Q E hE X hl h
  cases ts with
  | nil => (first | cases mss_n hm | cases hm)
  | cons t ts =>
    simp only [mss, List.head?_cons, Option.any_some, List.tail_cons, Bool.and_eq_true] at hm
    simp only [xb_0, xb_1] at h
    refine wpAny_execs_cons (h1 t hm.1 fz s imm own ι σ ρ m _ E hE X hl ?_)
    revert h
    cases execS Φ st ρ σ with
    | exn _ _ _ _ => exact fun h => h
    | stuck => exact fun h => h
    | ok fl σ₁ =>
      intro h fy h' tk m' imm' own' ι' hx X' hf
      cases hf with
      | next hl' =>
        exact h2 ts hm.2 fz _ imm' own' ι' σ₁ _ m' Q E hE X' hl' (PostS.lift hx h)
      | brk hl' => exact h _ h' tk m' imm' own' ι' hx X' (.brk hl')
      | cont hl' => exact h _ h' tk m' imm' own' ι' hx X' (.cont hl')
      | ret hr => exact h _ h' tk m' imm' own' ι' hx X' (.ret hr)
end
end Mine
set_option maxRecDepth 100000
set_option linter.unusedVariables false
set_option linter.unusedSectionVars false
namespace Mine
open PySem PySem.W PyProof.Rows PySem.Calls

section
variable {Z : Nms} {B : Bas} {h₀ : Heap → Prop} {L : Addr} {fz : Led} {h : Heap} {m : Str → Option Value} {imm own : Led} {ι : List Addr} {σ : Store}
/-- an iterator is made -/
theorem St.addFz {o : Obj} (X : St Z B h₀ L fz h m imm own ι σ) (ho : o.isFreed = false) : St Z B h₀ L ((h.objs.size, o) :: fz) (h.push o) m imm own ι σ := by
  have hp : (own ++ (imm ++ (h.objs.size, o) :: fz)).Perm ((h.objs.size, o) :: (own ++ (imm ++ fz))) := by
    rw [← List.append_assoc, ← List.append_assoc]; exact List.perm_middle
  exact ⟨X.g, X.gd, X.fr.push o, News.sub (News.push X.fr X.news o ho) fun p q => hp.mem_iff.mp q, nodup_new hp X.nd X.lt, X.owned, X.base⟩
/-- it goes on -/
theorem St.setFz {I : Addr} {o o' : Obj} {h' : Heap} (X : St Z B h₀ L ((I, o) :: fz) h m imm own ι σ) (hs : Heap.SameBut I h h') (ho : h'.get? I = some o') : St Z B h₀ L ((I, o') :: fz) h' m imm own ι σ := by
  have hI := X.news (I, o) (List.mem_append_right _ (List.mem_append_right _ (.head _)))
  have nd := X.nd
  have hp : (own ++ (imm ++ (I, o) :: fz)).Perm ((I, o) :: (own ++ (imm ++ fz))) := by
    rw [← List.append_assoc, ← List.append_assoc]; exact List.perm_middle
  have nd' := ((hp.map (·.1)).nodup_iff).mp nd
  rw [List.map_cons, List.nodup_cons] at nd'
  have hp' : (own ++ (imm ++ (I, o') :: fz)).Perm ((I, o') :: (own ++ (imm ++ fz))) := by
    rw [← List.append_assoc, ← List.append_assoc]; exact List.perm_middle
  refine ⟨X.g, X.gd, ?_, fun p q => ?_, ?_, X.owned, X.base⟩
  · obtain ⟨oL, es, ep, hL, r⟩ := X.fr.ns
    refine ⟨⟨oL, es, ep, (hs.2 L (Ne.symm hI.2.1)).trans hL, r⟩, fun b ob e => ?_, X.fr.above⟩
    have hb : b ≠ I := by rintro rfl; rw [hI.2.2] at e; cases e
    exact (hs.2 b hb).trans (X.fr.keep b ob e)
  · rcases List.mem_cons.mp (hp'.mem_iff.mp q) with rfl | q
    · exact ⟨ho, hI.2⟩
    · have hq := X.news p (hp.mem_iff.mpr (.tail _ q))
      have hne : p.1 ≠ I := fun e => nd'.1 (List.mem_map.mpr ⟨p, q, e⟩)
      exact ⟨(hs.2 _ hne).trans hq.1, hq.2⟩
  · refine ((hp'.map (·.1)).nodup_iff).mpr ?_
    rw [List.map_cons]
    exact List.nodup_cons.mpr nd'
/-- it is done with -/
theorem St.dropFz {I : Addr} {o : Obj} {h' : Heap} (X : St Z B h₀ L ((I, o) :: fz) h m imm own ι σ) (he : Heap.ExtBut I h h') : St Z B h₀ L fz h' m imm own ι σ := by
  have hI := X.news (I, o) (List.mem_append_right _ (List.mem_append_right _ (.head _)))
  have nd := X.nd
  have hp : (own ++ (imm ++ (I, o) :: fz)).Perm ((I, o) :: (own ++ (imm ++ fz))) := by
    rw [← List.append_assoc, ← List.append_assoc]; exact List.perm_middle
  have nd' := ((hp.map (·.1)).nodup_iff).mp nd
  rw [List.map_cons, List.nodup_cons] at nd'
  refine ⟨X.g, X.gd, ?_, fun p q => ?_, nd'.2, X.owned, X.base⟩
  · obtain ⟨oL, es, ep, hL, r⟩ := X.fr.ns
    refine ⟨⟨oL, es, ep, he L oL (Ne.symm hI.2.1) hL, r⟩, fun b ob e => ?_, X.fr.above⟩
    have hb : b ≠ I := by rintro rfl; rw [hI.2.2] at e; cases e
    exact he b ob hb (X.fr.keep b ob e)
  · have hq := X.news p (hp.mem_iff.mpr (.tail _ q))
    have hne : p.1 ≠ I := fun e => nd'.1 (List.mem_map.mpr ⟨p, q, e⟩)
    exact ⟨he _ _ hne hq.1, hq.2⟩
theorem St.getFz {p : Addr × Obj} (X : St Z B h₀ L fz h m imm own ι σ) (hp : p ∈ fz) : h.get? p.1 = some p.2 := (X.news p (List.mem_append_right _ (List.mem_append_right _ hp))).1
end

section
variable {c : Cx} {x : Fx} {d : Nat} {Φ : Fns} {P : Prog}

theorem RaisedS.less {base G h : Heap} {l : List Env} {e t : Addr} {cls : Value} {vs : List Value} {news news' : Led} (R : RaisedS base G l e cls t vs news h) (hs : ∀ p ∈ news', p ∈ news) : RaisedS base G l e cls t vs news' h := by
  obtain ⟨⟨B, b1, b2, b3, b4⟩, r⟩ := R
  exact ⟨⟨B, b1, b2, fun q hq => b3 q (hs q hq), b4⟩, r⟩
/-- the iterators of the loops left behind -/
theorem Thrown.drop {p : Addr × Obj} {fz : Led} {m : Str → Option Value} {imm : Led} {ι : List Addr} {k : Nat} {σ' : Store} {s s' : Shared} {e : Addr} (T : Thrown c { x with fz := p :: fz } m imm ι k σ' s s' e) : Thrown c { x with fz := fz } m imm ι k σ' s s' e := by
  obtain ⟨h0, C, g, imm', own', ι', q, G, hx, nd, ow, G', t, vs, r1, r2, r3⟩ := T
  have sb : (own' ++ (imm' ++ fz)).Sublist (own' ++ (imm' ++ p :: fz)) := List.Sublist.append (List.Sublist.refl _) (List.Sublist.append (List.Sublist.refl _) (List.sublist_cons_self _ _))
  exact ⟨h0, C, g, imm', own', ι', q, G, hx, (sb.map _).nodup nd, ow, G', t, vs, r1, RaisedS.less r2 fun q hq => sb.subset hq, r3⟩
theorem ThrownS.drop {p : Addr × Obj} {fz : Led} {imm : Led} {ι : List Addr} {b : Bool} {k : Nat} {ρ : Loc} {σ' : Store} {s s' : Shared} {e : Addr} (T : ThrownS c { x with fz := p :: fz } imm ι b k ρ σ' s s' e) : ThrownS c { x with fz := fz } imm ι b k ρ σ' s s' e := by
  cases b with
  | false =>
    obtain ⟨m, i, j, h, t, q, r, w⟩ := T
    exact ⟨m, i, j, h, t, q, r, Thrown.drop w⟩
  | true =>
    obtain ⟨m, i, o, j, h, vs, C, h', tk, q, r, X, w⟩ := T
    exact ⟨m, i, o, j, h, vs, C, h', tk, q, r, X.dropFz (I := p.1) (o := p.2) fun _ _ _ e => e, w⟩

/-- a loop whatever its target -/
theorem loop_any {prog : Program} {w : World} {A : Around} {s : Shared} {R : Result → Shared → Prop} {target : Expr} {it : Value} {body orelse : List Stmt} {env : Env} (I : Nat → Shared → Prop)
    (turn : ∀ n s, I n s → wpAny (model prog w) A (pyNext it) (fun r s₁ => match r with
      | none => wpAny (model prog w) A (execs orelse env) (fun f s₃ => R (.ok f) s₃) (notedBy (model prog w) A env fun e s' => R (.error e) s') s₁
      | some v => wpAny (model prog w) A (letOwnedTupleGo target it v) (fun _ s₀ => wpAny (model prog w) A (assign target env v) (fun _ s₂ => wpAny (model prog w) A (execs body env) (fun f s₃ => match f with
          | .next | .cont => ∃ m, m < n ∧ I m s₃
          | .brk => R (.ok .next) s₃
          | .ret v => R (.ok (.ret v)) s₃) (notedBy (model prog w) A env fun e s' => R (.error e) s') s₂) (notedBy (model prog w) A env fun e s' => R (.error e) s') s₀) (notedBy (model prog w) A env fun e s' => R (.error e) s') s₁) (notedBy (model prog w) A env fun e s' => R (.error e) s') s)
    (n : Nat) (h : I n s) : codeAny (model prog w) A (.forLoop target it body orelse env) R s := by
  refine codeAny_loop' rfl I (fun n s hI => ?_) n h
  show wpAny _ _ ((forTurn target it body orelse env).onRaise (fun x => do noteFrame x env; theTreesLotGoes x)) _ _ s
  refine wpAny_noted ?_
  simp only [forTurn]
  refine wpAny_bind (wpAny_standAt (wpAny_bind (wpAny_onRaise (wpAny_mono (turn n s hI) (fun r s₁ h₁ => ?_) fun _ _ h' => wpAny_standAt h'))))
  cases r with
  | none => exact wpAny_pure (.inr ⟨rfl, codeAny_block h₁⟩)
  | some v =>
    refine wpAny_bind (wpAny_mono h₁ (fun _ s₀ h₀ => wpAny_bind (wpAny_mono h₀ (fun _ s₂ h₂ => wpAny_bind (wpAny_mono h₂ (fun f s₃ h₃ => ?_) fun _ _ h' => h')) fun _ _ h' => h')) fun _ _ h' => h')
    cases f with
    | next => exact wpAny_pure (.inl ⟨rfl, h₃⟩)
    | cont => exact wpAny_pure (.inl ⟨rfl, h₃⟩)
    | brk => exact wpAny_pure h₃
    | ret v => exact wpAny_pure h₃
/-- what a loop's target does -/
noncomputable def Target (c : Cx) (x : Fx) (tg : Expr) (bnd : V → Loc → Option Loc) : Prop :=
  ∀ (I l : Addr) (j : Nat) (v : V) (u : Value) (fz : Led) (s : Shared) (imm own : Led) (ι : List Addr) (σ : Store) (ρ ρ₁ : Loc) (m : Str → Option Value) (Q : Unit → Shared → Prop) (E : Value → Shared → Prop), bnd v ρ = some ρ₁ → Rep c.B imm ι v u → Heap.IsListIter s.heap I l j →
    St c.Z c.B (Gnd x) x.L fz s.heap m imm own ι σ → LocRel c.B imm ι x.S ρ m → (∀ h' tk m', St c.Z c.B (Gnd x) x.L fz h' m' imm own ι σ → LocRel c.B imm ι x.S ρ₁ m' → Q () { s with heap := h', toks := tk }) →
    wpAny (model c.prog c.w) x.A (letOwnedTupleGo tg (.ref I) u) (fun _ s₀ => wpAny (model c.prog c.w) x.A (assign tg x.env u) Q E s₀) E s
theorem t_lt {n j : Nat} (h : j < n) : n + 1 - (j + 1) < n + 1 - j := by omega
theorem t_end {n j : Nat} (h : j ≤ n) (h' : ¬ j < n) : j = n := by omega
/-- how a loop stands ahead of a turn: j turns are done -/
inductive Turn (c : Cx) (x y : Fx) (s : Shared) (imm₁ : Led) (ι₁ : List Addr) (Q : Flow → Shared → Prop) (E : Value → Shared → Prop) (n : Nat) (fz : Nat → Led → Prop) (run : Nat → Loc → Store → SR) (ok : Store → Prop) : Nat → Shared → Prop
  | mk (j : Nat) (f : Led) (h : Heap) (tk : Nat) (m : Str → Option Value) (imm own : Led) (ι : List Addr) (σ : Store) (ρ : Loc) : j ≤ n → fz j f → Ext imm₁ imm ι₁ ι → St c.Z c.B (Gnd x) x.L f h m imm own ι σ → LocRel c.B imm ι x.S ρ m → ok σ →
    PostS c y imm ι (run j ρ σ) Q E { s with heap := h, toks := tk } → Turn c x y s imm₁ ι₁ Q E n fz run ok (n + 1 - j) { s with heap := h, toks := tk }
theorem for_list (F : Frm c x (d + 1)) (hc : x.quiet = false) {body : List MS} {b : List Stmt} {tg : Expr} {bnd : V → Loc → Option Loc} (TG : Target c x tg bnd) (hb : SoundB c x Φ body) (hbb : mss c.T x.G x.S c.M body b = true) {fz : Led} {s : Shared} {imm₁ own₁ : Led} {ι₁ : List Addr} {σ₁ : Store} {ρ : Loc} {m : Str → Option Value} {Q : Flow → Shared → Prop} {E : Value → Shared → Prop} {src : V} {all : List V} {w : Value} {h' : Heap} {tk : Nat}
    (hE : PassesOwn (model c.prog c.w) x.A x.env E) (X₁ : St c.Z c.B (Gnd x) x.L fz h' m imm₁ own₁ ι₁ σ₁) (hl : LocRel c.B imm₁ ι₁ x.S ρ m) (hr₁ : Rep c.B imm₁ ι₁ src w) (hall : listOf σ₁ src = some all)
    (h₁ : PostS c { x with fz := fz } imm₁ ι₁ (forG src all (execB Φ body) bnd all ρ σ₁) Q E { s with heap := h', toks := tk }) :
    wpAny (model c.prog c.w) x.A (pyIter w) (fun it s₂ => codeAny (model c.prog c.w) x.A (.forLoop tg it b [] x.env) (fun r s' => match r with | .ok f => Q f s' | .error e => cameBackBy (model c.prog c.w) x.A x.env E e s') s₂) E { s with heap := h', toks := tk } := by
  obtain ⟨l, xs, rfl, hL, rs⟩ := X₁.isList hr₁ hall
  refine wpAny_pyIter_list hL ?_
  have X₂ := X₁.addFz (o := { cls := .type "list_iterator", data := .fields #[.ref l, .int 0 0] }) rfl
  refine loop_any (Turn c x { x with fz := fz } s imm₁ ι₁ Q E all.length (fun j f => ∃ o : Obj, f = (h'.objs.size, o) :: fz ∧ o.cls = .type "list_iterator" ∧ o.data = .fields #[.ref l, .int j 0]) (fun j ρ σ => forG src all (execB Φ body) bnd (all.drop j) ρ σ) (fun σ => listOf σ src = some all)) ?_ (all.length + 1)
    (.mk 0 _ _ tk m imm₁ own₁ ι₁ σ₁ ρ (Nat.zero_le _) ⟨_, rfl, rfl, rfl⟩ Ext.refl X₂ hl hall (by rw [List.drop_zero]; exact PostS.lift Ext.refl h₁))
  rintro k s' ⟨j, f, h'', tk'', m'', imm'', own'', ι'', σ'', ρ'', hj, ⟨o, rfl, ho1, ho2⟩, hx'', X'', hl'', hall'', hP⟩
  have hit : Heap.IsListIter h'' h'.objs.size l j := ⟨o, X''.getFz (p := (h'.objs.size, o)) (.head _), ho1, ho2⟩
  obtain ⟨l', xs', el, hL', rs'⟩ := X''.isList (hr₁.mono hx'') hall''
  cases el
  by_cases hlt : j < all.length
  · obtain ⟨u, hu, ru⟩ := rs'.get (List.getElem?_eq_getElem hlt)
    refine wpAny_pyNext_list_item hit hL' (by simpa using hu) fun h₃ hit₃ hs₃ => ?_
    obtain ⟨o₃, ho₃, hc₃, hd₃⟩ := hit₃
    have X₃ := X''.setFz hs₃ ho₃
    rw [List.drop_eq_getElem_cons hlt] at hP
    simp only [fg_0, fg_1] at hP
    cases hbnd : bnd all[j] ρ'' with
    | none => rw [hbnd] at hP; exact hP.elim
    | some ρ₄ =>
    rw [hbnd] at hP
    refine TG _ l (j + 1) _ u ((h'.objs.size, o₃) :: fz) _ imm'' own'' ι'' σ'' ρ'' ρ₄ _ _ _ hbnd ru ⟨o₃, ho₃, hc₃, hd₃⟩ X₃ hl'' fun h₄ tk₄ m₄ X₄ hl₄ => ?_
    refine wpAny_passesOwn hE (hb b hbb ((h'.objs.size, o₃) :: fz) _ imm'' own'' ι'' σ'' ρ₄ _ _ E hE X₄ hl₄ ?_)
    revert hP
    dsimp only
    cases execB Φ body ρ₄ σ'' with
    | exn _ _ _ _ => exact fun h e s' T => h e s' (ThrownS.drop T)
    | stuck => exact fun h => h
    | ok fl σ₅ =>
      intro hP fy h₅ tk₅ m₅ imm₅ own₅ ι₅ hx₅ X₅ hf
      cases hf with
      | next hl₅ =>
        dsimp only at hP
        split at hP
        · rename_i hall₅
          exact ⟨_, t_lt hlt, .mk (j + 1) _ h₅ tk₅ m₅ imm₅ own₅ ι₅ σ₅ _ hlt ⟨o₃, rfl, hc₃, hd₃⟩ (hx''.trans hx₅) X₅ hl₅ hall₅ (PostS.lift hx₅ hP)⟩
        · exact hP.elim
      | cont hl₅ =>
        dsimp only at hP
        split at hP
        · rename_i hall₅
          exact ⟨_, t_lt hlt, .mk (j + 1) _ h₅ tk₅ m₅ imm₅ own₅ ι₅ σ₅ _ hlt ⟨o₃, rfl, hc₃, hd₃⟩ (hx''.trans hx₅) X₅ hl₅ hall₅ (PostS.lift hx₅ hP)⟩
        · exact hP.elim
      | brk hl₅ => exact hP _ h₅ tk₅ m₅ imm₅ own₅ ι₅ hx₅ (X₅.dropFz fun _ _ _ e => e) (.next hl₅)
      | ret hr₅ => exact hP _ h₅ tk₅ m₅ imm₅ own₅ ι₅ hx₅ (X₅.dropFz fun _ _ _ e => e) (.ret hr₅)
  · have hj' : j = all.length := t_end hj hlt
    subst hj'
    refine wpAny_pyNext_list_end (F.calm hc) hit hL' (by simp [rs'.length]) fun h₃ he₃ => ?_
    simp only [List.drop_length, fg_0, fg_1] at hP
    exact wpAny_execs_nil (hP _ h₃ tk'' m'' imm'' own'' ι'' Ext.refl (X''.dropFz he₃) (.next hl''))

theorem s_forIn (F : Frm c x (d + 1)) (TK : TopOk c P) (FO : FnsOK c P d Φ) {i : Nat} {it : ME} {body : List MS} (hq : QE x P it) (hc : x.quiet = false) (hb : SoundB c x Φ body) : SoundS c x Φ (.forIn i it body) := by
  intro t hm fz s imm own ι σ ρ m Q E hE X hl h
  obtain ⟨z, p1, y, b, p, rfl, hk⟩ := ms_forIn hm
  simp only [Bool.and_eq_true, beq_iff_eq] at hk
  obtain ⟨⟨hz, hy⟩, hbb⟩ := hk
  simp only [xs_expr, xs_append, xs_assign, xs_unpack, xs_setattr, xs_setitem, xs_unpackSub, xs_unpackL, xs_ite, xs_forIn, xs_forRange, xs_forTup, xs_forStr, xs_asgMap, xs_while, xs_ret, xs_retNone, xs_brk, xs_cont, xs_pass, xs_raise, xs_try, xs_hand] at h
  refine wpAny_For ?_ (fold_no hy)
  refine (allE (x := { x with fz := fz }) F.fz TK FO it hq).e y hy s imm own ι σ ρ m _ _ X hl (PostS.on hl h fun src σ₁ w h' tk imm₁ own₁ ι₁ hx₁ X₁ hr₁ h₁ => ?_)
  split at h₁
  · rename_i all hall
    rw [forL_eq] at h₁
    refine for_list F hc (fun I l j v u fz s imm own ι σ ρ ρ₁ m Q E e ru _ X hl k => ?_) hb hbb hE X₁ (hl.mono hx₁) hr₁ hall h₁
    cases e
    refine wpAny_pure ?_
    exact PyProof.Rows.assign_Name (stN X.fr X.news (fun h₄ F₄ N₄ => k h₄ _ _ (X.setName F₄ N₄) (hl.set F.nd hz ru)) F.kind (F.loc z (List.mem_of_getElem? hz)))
  · exact h₁.elim
theorem s_forTup (F : Frm c x (d + 1)) (TK : TopOk c P) (FO : FnsOK c P d Φ) {is : List Nat} {it : ME} {body : List MS} (hq : QE x P it) (hc : x.quiet = false) (hb : SoundB c x Φ body) : SoundS c x Φ (.forTup is it body) := by
  intro t hm fz s imm own ι σ ρ m Q E hE X hl h
  obtain ⟨ts, p1, p2, y, b, p, rfl, hk⟩ := ms_forTup hm
  simp only [Bool.and_eq_true] at hk
  obtain ⟨⟨hz, hy⟩, hbb⟩ := hk
  simp only [xs_expr, xs_append, xs_assign, xs_unpack, xs_setattr, xs_setitem, xs_unpackSub, xs_unpackL, xs_ite, xs_forIn, xs_forRange, xs_forTup, xs_forStr, xs_asgMap, xs_while, xs_ret, xs_retNone, xs_brk, xs_cont, xs_pass, xs_raise, xs_try, xs_hand] at h
  refine wpAny_For ?_ (fold_no hy)
  refine (allE (x := { x with fz := fz }) F.fz TK FO it hq).e y hy s imm own ι σ ρ m _ _ X hl (PostS.on hl h fun src σ₁ w h' tk imm₁ own₁ ι₁ hx₁ X₁ hr₁ h₁ => ?_)
  split at h₁
  · rename_i all hall
    refine for_list F hc (fun I l j v u fz s imm own ι σ ρ ρ₁ m Q E e ru hit X hl k => ?_) hb hbb hE X₁ (hl.mono hx₁) hr₁ hall h₁
    cases v with
    | tup vs =>
      obtain ⟨T, xs, rfl, hT, rs⟩ := X.isTup ru
      obtain ⟨q1, q2⟩ := each_names (env := x.env) (is := is) (ts := ts) hz
      refine wpAny_letOwnedTupleGo_listiter hit ?_
      refine unpackN_ X.fr X.news hT (F.calm hc) (by rw [q1, List.size_toArray, rs.length, set_len e]) q2 fun h'' F' N' => ?_
      exact assign_names F hz e rs (X.keep F' N') hl fun h₃ tk₃ m₃ X₃ hl₃ => k h₃ tk₃ m₃ X₃ hl₃
    | _ => cases e
  · exact h₁.elim

theorem t_q {n j : Nat} (h : j < n) : n - j = (n - (j + 1)) + 1 := by omega
theorem t_j (lo : Int) (j : Nat) : lo + (j : Int) + 1 = lo + ((j + 1 : Nat) : Int) := by omega
theorem t_n (n j : Nat) : (n : Int) - (j : Int) - 1 = (n : Int) - ((j + 1 : Nat) : Int) := by omega
theorem t_pos {n j : Nat} (h : j < n) : 0 < (n : Int) - (j : Int) := by omega
theorem t_no {n : Nat} : (n : Int) - (n : Int) ≤ 0 := by omega
theorem far1 {a : Int} (h : -1000000 < a) : -(2 ^ 62) ≤ a := by omega
theorem far2 {a : Int} (h : a < 1000000) : a < 2 ^ 62 := by omega
theorem s_forRange (F : Frm c x (d + 1)) (TK : TopOk c P) (FO : FnsOK c P d Φ) {i : Nat} {args : List ME} {body : List MS} (hq : QEs x P args) (hc : x.quiet = false) (hb : SoundB c x Φ body) : SoundS c x Φ (.forRange i args body) := by
  intro t hm fz s imm own ι σ ρ m Q E hE X hl h
  obtain ⟨z, p1, y, p2, es, p3, b, p, rfl, hk⟩ := ms_forRange hm
  simp only [Bool.and_eq_true, beq_iff_eq] at hk
  obtain ⟨⟨⟨⟨⟨hz, rfl⟩, hg⟩, hs⟩, hne⟩, hbb⟩ := hk
  simp only [xs_expr, xs_append, xs_assign, xs_unpack, xs_setattr, xs_setitem, xs_unpackSub, xs_unpackL, xs_ite, xs_forIn, xs_forRange, xs_forTup, xs_forStr, xs_asgMap, xs_while, xs_ret, xs_retNone, xs_brk, xs_cont, xs_pass, xs_raise, xs_try, xs_hand] at h
  refine wpAny_For ?_ (by intro _; rfl)
  refine Call_ (name_B X.fr (F.kin X.gd) (topRead_of (F.top X.gd)) (TK.boot _ (by decide)) boot_range (by decide) ?_ F.kind (Fx.glob hg) (by decide))
  cases args with
  | nil => simp at hne
  | cons a args =>
  cases es with
  | nil => (first | cases mts_n hs | cases mts_n hs.2 | (exact Bool.noConfusion (show false = true from hs)) | exact Bool.noConfusion (show false = true from hs.2))
  | cons e es =>
  have hs' := hs
  simp only [mts, List.head?_cons, Option.any_some, List.tail_cons, Bool.and_eq_true] at hs
  refine Pv.callWith_type1 ?_ (star_cons hs.1) (star_none hs.2)
  refine (allEs (x := { x with fz := fz }) F.fz TK FO (a :: args) hq).es (e :: es) p3 hs' s imm own ι σ ρ m _ _ X hl (PostS.on hl h fun vs σ₁ ys h' tk imm₁ own₁ ι₁ hx₁ X₁ hr₁ h₁ => ?_)
  split at h₁
  · rename_i lo n hrange
    · -- the loop over the range object at r
      have go : ∀ (r : Addr) (h₂ : Heap) (tk₂ : Nat) (hi : Int) (t u v : Tok), IsRange h₂ r lo hi 1 t u v → (∀ b o, h'.get? b = some o → h₂.get? b = some o) → n = (hi - lo).toNat → -(2 ^ 62) ≤ hi → hi < 2 ^ 62 → -(2 ^ 62) ≤ lo → lo < 2 ^ 62 →
          wpAny (model c.prog c.w) x.A (pyIter (.ref r)) (fun it s₂ => codeAny (model c.prog c.w) x.A (.forLoop (.Name z p1) it b [] x.env) (fun r s' => match r with | .ok f => Q f s' | .error e => cameBackBy (model c.prog c.w) x.A x.env E e s') s₂) E { s with heap := h₂, toks := tk₂ } := by
        intro r h₂ tk₂ hi t u v hR hkeep hn hlo hhi hlo' hhi'
        have X₂ := X₁.keeps hkeep
        refine wpAny_pyIter_range hR (small_one hlo' hhi' hlo hhi) ?_
        have X₃ := X₂.addFz (o := { cls := .type "range_iterator", data := .fields #[rawInt lo, rawInt (Builtin.Range.rangeSize lo hi 1), rawInt 1] }) rfl
        have hsz : Builtin.Range.rangeSize lo hi 1 = (n : Int) := by rw [hn]; exact rangeSize_nat lo hi
        refine codeAny_forLoop (Turn c x { x with fz := fz } s imm₁ ι₁ Q E n (fun j f => f = (h₂.objs.size, { cls := .type "range_iterator", data := .fields #[rawInt (lo + (j : Int)), rawInt ((n : Int) - (j : Int)), rawInt 1] }) :: fz) (fun j ρ σ => forR (execB Φ body) i (n - j) (lo + (j : Int)) ρ σ) (fun _ => True)) ?_ (n + 1)
          (.mk 0 _ _ tk₂ m imm₁ own₁ ι₁ σ₁ ρ (Nat.zero_le _) rfl Ext.refl (by have X₃ : St c.Z c.B (Gnd x) x.L _ _ m imm₁ own₁ ι₁ σ₁ := X₃; simpa [hsz] using X₃) (hl.mono hx₁) trivial (by simpa using PostS.lift Ext.refl h₁))
        rintro k s' ⟨j, f, h'', tk'', m'', imm'', own'', ι'', σ'', ρ'', hj, rfl, hx'', X'', hl'', -, hP⟩
        have hit : IsRangeIter h'' h₂.objs.size (lo + (j : Int)) ((n : Int) - (j : Int)) 1 := X''.getFz (p := (h₂.objs.size, _)) (.head _)
        by_cases hlt : j < n
        · refine wpAny_pyNext_range_item hit (t_pos hlt) fun h₄ hit₄ hs₄ => ?_
          have X₄ := X''.setFz hs₄ hit₄
          refine PyProof.Rows.assign_Name (stN X₄.fr X₄.news (fun h₅ F₅ N₅ => ?_) F.kind (F.loc z (List.mem_of_getElem? hz)))
          have X₅ := X₄.setName F₅ N₅
          refine wpAny_passesOwn hE (hb b hbb _ _ imm'' own'' ι'' σ'' (ρ''.set i (some (.int (lo + (j : Int))))) _ _ E hE X₅ (hl''.set F.nd hz (.int _ _)) ?_)
          rw [t_q hlt] at hP
          simp only [fr_0, fr_1] at hP
          rw [t_j] at hP
          rw [t_j, t_n]
          revert hP
          cases execB Φ body (ρ''.set i (some (.int (lo + (j : Int))))) σ'' with
          | exn _ _ _ _ => exact fun h e s' T => h e s' (ThrownS.drop T)
          | stuck => exact fun h => h
          | ok fl σ₆ =>
            intro hP fy h₆ tk₆ m₆ imm₆ own₆ ι₆ hx₆ X₆ hf
            cases hf with
            | next hl₆ => exact ⟨_, t_lt hlt, .mk (j + 1) _ h₆ tk₆ m₆ imm₆ own₆ ι₆ σ₆ _ hlt rfl (hx''.trans hx₆) X₆ hl₆ trivial (PostS.lift hx₆ hP)⟩
            | cont hl₆ => exact ⟨_, t_lt hlt, .mk (j + 1) _ h₆ tk₆ m₆ imm₆ own₆ ι₆ σ₆ _ hlt rfl (hx''.trans hx₆) X₆ hl₆ trivial (PostS.lift hx₆ hP)⟩
            | brk hl₆ => exact hP _ h₆ tk₆ m₆ imm₆ own₆ ι₆ hx₆ (X₆.dropFz fun _ _ _ e => e) (.next hl₆)
            | ret hr₆ => exact hP _ h₆ tk₆ m₆ imm₆ own₆ ι₆ hx₆ (X₆.dropFz fun _ _ _ e => e) (.ret hr₆)
        · have hj' : j = n := t_end hj hlt
          subst hj'
          refine wpAny_pyNext_range_end (F.calm hc) hit t_no fun h₄ he₄ => ?_
          simp only [Nat.sub_self, fr_0, fr_1] at hP
          exact wpAny_execs_nil (hP _ h₄ tk'' m'' imm'' own'' ι'' Ext.refl (X''.dropFz he₄) (.next hl''))
      cases hr₁ with
      | nil => cases hrange
      | cons h1 hr₁ =>
      cases hr₁ with
      | nil =>
        obtain ⟨q, e1, hrange2⟩ := Option.bind_eq_some_iff.mp hrange
        clear hrange
        have hrange := hrange2
        clear hrange2
        obtain rfl := asInt_inv e1
        obtain ⟨t1, rfl⟩ := inv_int h1
        split at hrange
        · rename_i hc1
          cases hrange
          exact call_range_1 (go _ _ _ _ _ _ _ (IsRange.new h' _ _ _ _ _ _) (fun b o e => Heap.get?_push_of_some _ e) (by simp) (far1 hc1.1) (far2 hc1.2) (by decide) (by decide))
        · cases hrange
      | cons h2 hr₁ =>
      cases hr₁ with
      | nil =>
        obtain ⟨q, e1, hrange2⟩ := Option.bind_eq_some_iff.mp hrange
        clear hrange
        obtain ⟨q', e2, hrange⟩ := Option.bind_eq_some_iff.mp hrange2
        clear hrange2
        obtain rfl := asInt_inv e1
        obtain rfl := asInt_inv e2
        obtain ⟨t1, rfl⟩ := inv_int h1
        obtain ⟨t2, rfl⟩ := inv_int h2
        split at hrange
        · rename_i hc1
          cases hrange
          exact call_range_2 (go _ _ _ _ _ _ _ (IsRange.new h' _ _ _ _ _ _) (fun b o e => Heap.get?_push_of_some _ e) rfl (far1 hc1.2.1) (far2 hc1.2.2) (far1 hc1.1.1) (far2 hc1.1.2))
        · cases hrange
      | cons _ _ => cases hrange
  · exact h₁.elim

theorem s_while (F : Frm c x (d + 1)) (TK : TopOk c P) (FO : FnsOK c P d Φ) {fuel : Nat} {e : ME} {body : List MS} (hq : QE x P e) (hb : SoundB c x Φ body) : SoundS c x Φ (.while fuel e body) := by
  intro t hm fz s imm own ι σ ρ m Q E hE X hl h
  obtain ⟨u, b, p, rfl, hk⟩ := ms_while hm
  simp only [Bool.and_eq_true] at hk
  simp only [xs_expr, xs_append, xs_assign, xs_unpack, xs_setattr, xs_setitem, xs_unpackSub, xs_unpackL, xs_ite, xs_forIn, xs_forRange, xs_forTup, xs_forStr, xs_asgMap, xs_while, xs_ret, xs_retNone, xs_brk, xs_cont, xs_pass, xs_raise, xs_try, xs_hand] at h
  refine wpAny_While ?_
  refine codeAny_whileLoop (fun k s' => ∃ h'' tk'' m'' imm'' own'' ι'' σ'' ρ'', s' = { s with heap := h'', toks := tk'' } ∧ Ext imm imm'' ι ι'' ∧ St c.Z c.B (Gnd x) x.L fz h'' m'' imm'' own'' ι'' σ'' ∧ LocRel c.B imm'' ι'' x.S ρ'' m'' ∧
    PostS c { x with fz := fz } imm'' ι'' (whileL (fun ρ σ => evalE Φ ρ e σ) (execB Φ body) k ρ'' σ'') Q E s') ?_ fuel ⟨_, s.toks, m, imm, own, ι, σ, ρ, rfl, Ext.refl, X, hl, h⟩
  rintro k s' ⟨h'', tk'', m'', imm'', own'', ι'', σ'', ρ'', rfl, hx'', X'', hl'', hP⟩
  cases k with
  | zero => exact hP.elim
  | succ k =>
    simp only [wl_0, wl_1] at hP
    refine wpAny_passesOwn hE ((allE (x := { x with fz := fz }) F.fz TK FO e hq).t u hk.1 _ imm'' own'' ι'' σ'' ρ'' m'' _ E X'' hl'' ?_)
    revert hP
    cases evalE Φ ρ'' e σ'' with
    | exn _ _ => exact fun h e s' T => h e s' ⟨m'', imm'', ι'', h'', tk'', Ext.refl, hl'', T⟩
    | stuck => exact fun h => h
    | ok v σ₁ =>
      simp only [R.on, R.bind]
      cases ht : truth v with
      | none => exact fun h => h
      | some t =>
        intro hP y h₁ tk₁ imm₁ own₁ ι₁ hx₁ X₁ ey
        subst ey
        cases t with
        | false =>
          simp only [Bool.false_eq_true, if_false] at hP ⊢
          exact wpAny_execs_nil (hP _ h₁ tk₁ m'' imm₁ own₁ ι₁ hx₁ X₁ (.next (hl''.mono hx₁)))
        | true =>
          simp only [if_true] at hP ⊢
          refine wpAny_passesOwn hE (hb b hk.2 fz _ imm₁ own₁ ι₁ σ₁ ρ'' m'' _ E hE X₁ (hl''.mono hx₁) ?_)
          revert hP
          cases execB Φ body ρ'' σ₁ with
          | exn _ _ _ _ => exact fun h e s' T => h e s' (T.back hx₁)
          | stuck => exact fun h => h
          | ok fl σ₂ =>
            intro hP fy h₂ tk₂ m₂ imm₂ own₂ ι₂ hx₂ X₂ hf
            cases hf with
            | next hl₂ => exact ⟨k, Nat.lt_succ_self _, h₂, tk₂, m₂, imm₂, own₂, ι₂, σ₂, _, rfl, hx''.trans (hx₁.trans hx₂), X₂, hl₂, PostS.lift (hx₁.trans hx₂) hP⟩
            | cont hl₂ => exact ⟨k, Nat.lt_succ_self _, h₂, tk₂, m₂, imm₂, own₂, ι₂, σ₂, _, rfl, hx''.trans (hx₁.trans hx₂), X₂, hl₂, PostS.lift (hx₁.trans hx₂) hP⟩
            | brk hl₂ => exact hP _ h₂ tk₂ m₂ imm₂ own₂ ι₂ (hx₁.trans hx₂) X₂ (.next hl₂)
            | ret hr₂ => exact hP _ h₂ tk₂ m₂ imm₂ own₂ ι₂ (hx₁.trans hx₂) X₂ (.ret hr₂)

end
end Mine
set_option maxRecDepth 100000
set_option linter.unusedVariables false
set_option linter.unusedSectionVars false
namespace Mine
open PySem PySem.W PyProof.Rows PySem.Calls PyProof.Rows.LCg
section
variable {Z : Nms} {B : Bas} {h₀ : Heap → Prop} {L : Addr} {fz fz' : Led} {h : Heap} {m : Str → Option Value} {imm own : Led} {ι : List Addr} {σ : Store}
theorem St.perm (hp : fz.Perm fz') (X : St Z B h₀ L fz h m imm own ι σ) : St Z B h₀ L fz' h m imm own ι σ := by
  have q : (own ++ (imm ++ fz)).Perm (own ++ (imm ++ fz')) := (hp.append_left _).append_left _
  exact ⟨X.g, X.gd, X.fr, News.sub X.news fun p hq => q.mem_iff.mpr hq, ((q.map (·.1)).nodup_iff).mp X.nd, X.owned, X.base⟩
theorem St.toImm {a : Addr} {o : Obj} (X : St Z B h₀ L ((a, o) :: fz) h m imm own ι σ) : St Z B h₀ L fz h m ((a, o) :: imm) own ι σ := by
  have q : (own ++ (imm ++ (a, o) :: fz)).Perm (own ++ (((a, o) :: imm) ++ fz)) := List.Perm.append_left _ List.perm_middle
  exact ⟨X.g, X.gd, X.fr, News.sub X.news fun p hq => q.mem_iff.mpr hq, ((q.map (·.1)).nodup_iff).mp X.nd, X.owned.mono (Ext.imm _), X.base⟩
end
section
variable {c : Cx} {x : Fx} {d : Nat} {Φ : Fns} {P : Prog}
theorem s_forStr (F : Frm c x (d + 1)) (TK : TopOk c P) (FO : FnsOK c P d Φ) {i : Nat} {it : ME} {body : List MS} (hq : QE x P it) (hc : x.quiet = false) (hb : SoundB c x Φ body) : SoundS c x Φ (.forStr i it body) := by
  intro t hm fz s imm own ι σ ρ m Q E hE X hl h
  obtain ⟨z, p1, y, b, p, rfl, hk⟩ := ms_forStr hm
  simp only [Bool.and_eq_true, beq_iff_eq] at hk
  obtain ⟨⟨hz, hy⟩, hbb⟩ := hk
  simp only [xs_expr, xs_append, xs_assign, xs_unpack, xs_setattr, xs_setitem, xs_unpackSub, xs_unpackL, xs_ite, xs_forIn, xs_forRange, xs_forTup, xs_forStr, xs_asgMap, xs_while, xs_ret, xs_retNone, xs_brk, xs_cont, xs_pass, xs_raise, xs_try, xs_hand] at h
  refine wpAny_For ?_ (fold_no hy)
  refine (allE (x := { x with fz := fz }) F.fz TK FO it hq).e y hy s imm own ι σ ρ m _ _ X hl (PostS.on hl h fun src σ₁ w h' tk imm₁ own₁ ι₁ hx₁ X₁ hr₁ h₁ => ?_)
  cases src with
  | str str =>
    dsimp only at h₁
    split at h₁
    · rename_i hlen
      obtain ⟨t0, rfl⟩ := inv_str hr₁
      have hsz : str.cps.toList.length = str.cps.size := Array.length_toList
      refine wpAny_pyIter_strU ?_
      have X₂ := X₁.addFz (o := { cls := .type (strIterType str), data := .fields #[.str str t0, .int 0 0] }) rfl
      refine loop_any (Turn c x { x with fz := fz } s imm₁ ι₁ Q E str.cps.size (fun j f => ∃ o : Obj, f = (h'.objs.size, o) :: fz ∧ o.cls = .type (strIterType str) ∧ o.data = .fields #[.str str t0, .int j 0]) (fun j ρ σ => forC (execB Φ body) i (str.cps.toList.drop j) ρ σ) (fun _ => True)) ?_ (str.cps.size + 1)
        (.mk 0 _ _ tk m imm₁ own₁ ι₁ σ₁ ρ (Nat.zero_le _) ⟨_, rfl, rfl, rfl⟩ Ext.refl X₂ (hl.mono hx₁) trivial (by rw [List.drop_zero]; exact PostS.lift Ext.refl h₁))
      rintro k s' ⟨j, f, h'', tk'', m'', imm'', own'', ι'', σ'', ρ'', hj, ⟨o, rfl, ho1, ho2⟩, hx'', X'', hl'', _, hP⟩
      have hit : Heap.IsStrIter h'' h'.objs.size (strIterType str) str t0 j := ⟨o, X''.getFz (p := (h'.objs.size, o)) (.head _), ho1, ho2⟩
      have item : ∀ {Q : Option Value → Shared → Prop} {E : Value → Shared → Prop} (hlt : j < str.cps.size), (∀ h₃, h₃.IsStrIter h'.objs.size (strIterType str) str t0 (j + 1) → Heap.SameBut h'.objs.size h'' h₃ → Q (some (.str ⟨#[str.cps[j]]⟩ tk'')) { s with heap := h₃, toks := tk'' + 1 }) →
          wpAny (model c.prog c.w) x.A (pyNext (.ref h'.objs.size)) Q E { s with heap := h'', toks := tk'' } := by
        intro Q E hlt k
        by_cases ha : str.cps.all (· < 128) = true
        · have e : strIterType str = "str_ascii_iterator" := if_pos ha
          rw [e] at hit k
          exact wpAny_pyNext_ascii_item hit (Array.getElem?_eq_getElem hlt) k
        · have e : strIterType str = "str_iterator" := if_neg ha
          rw [e] at hit k
          exact wpAny_pyNext_wide_item hit (Array.getElem?_eq_getElem hlt) k
      have done : ∀ {Q : Option Value → Shared → Prop} {E : Value → Shared → Prop}, j = str.cps.size → (∀ h₃, Heap.ExtBut h'.objs.size h'' h₃ → Q none { s with heap := h₃, toks := tk'' }) → wpAny (model c.prog c.w) x.A (pyNext (.ref h'.objs.size)) Q E { s with heap := h'', toks := tk'' } := by
        intro Q E hj k
        unfold strIterType at hit
        have e0 : str.cps[j]? = none := by rw [hj]; simp
        split at hit
        · exact wpAny_pyNext_ascii_end (F.calm hc) hit e0 k
        · exact wpAny_pyNext_wide_end (F.calm hc) hit e0 k
      by_cases hlt : j < str.cps.size
      · refine item hlt fun h₃ hit₃ hs₃ => ?_
        obtain ⟨o₃, ho₃, hc₃, hd₃⟩ := hit₃
        have X₃ := X''.setFz hs₃ ho₃
        rw [List.drop_eq_getElem_cons (by rw [hsz]; exact hlt)] at hP
        simp only [forC] at hP
        have e1 : str.cps.toList[j]'(by rw [hsz]; exact hlt) = str.cps[j] := by simp
        rw [e1] at hP
        refine wpAny_pure ?_
        refine PyProof.Rows.assign_Name (stN X₃.fr X₃.news (fun h₄ F₄ N₄ => ?_) F.kind (F.loc z (List.mem_of_getElem? hz)))
        have X₄ := X₃.setName F₄ N₄
        have hl₄ := hl''.set F.nd hz (Rep.str (B := c.B) (imm := imm'') (ι := ι'') ⟨#[str.cps[j]]⟩ tk'')
        refine wpAny_passesOwn hE (hb b hbb ((h'.objs.size, o₃) :: fz) _ imm'' own'' ι'' σ'' _ _ _ E hE X₄ hl₄ ?_)
        revert hP
        cases execB Φ body (ρ''.set i (some (.str ⟨#[str.cps[j]]⟩))) σ'' with
        | exn _ _ _ _ => exact fun h e s' T => h e s' (ThrownS.drop T)
        | stuck => exact fun h => h
        | ok fl σ₅ =>
          intro hP fy h₅ tk₅ m₅ imm₅ own₅ ι₅ hx₅ X₅ hf
          cases hf with
          | next hl₅ => exact ⟨_, t_lt hlt, .mk (j + 1) _ h₅ tk₅ m₅ imm₅ own₅ ι₅ σ₅ _ hlt ⟨o₃, rfl, hc₃, hd₃⟩ (hx''.trans hx₅) X₅ hl₅ trivial (PostS.lift hx₅ hP)⟩
          | cont hl₅ => exact ⟨_, t_lt hlt, .mk (j + 1) _ h₅ tk₅ m₅ imm₅ own₅ ι₅ σ₅ _ hlt ⟨o₃, rfl, hc₃, hd₃⟩ (hx''.trans hx₅) X₅ hl₅ trivial (PostS.lift hx₅ hP)⟩
          | brk hl₅ => exact hP _ h₅ tk₅ m₅ imm₅ own₅ ι₅ hx₅ (X₅.dropFz fun _ _ _ e => e) (.next hl₅)
          | ret hr₅ => exact hP _ h₅ tk₅ m₅ imm₅ own₅ ι₅ hx₅ (X₅.dropFz fun _ _ _ e => e) (.ret hr₅)
      · have hj' : j = str.cps.size := t_end hj hlt
        refine done hj' fun h₃ he₃ => ?_
        rw [List.drop_of_length_le (by rw [hsz, hj']; exact Nat.le_refl _)] at hP
        exact wpAny_execs_nil (hP _ h₃ tk'' m'' imm'' own'' ι'' Ext.refl (X''.dropFz he₃) (.next hl''))
    · exact h₁.elim
  | _ => exact h₁.elim
theorem relabel_id {sc : Scope} {env : Env} (h : ∀ p ∈ sc.names, p.2 ≠ .free) : relabel sc env = sc := by
  obtain ⟨k, ns, a, b, m⟩ := sc
  unfold relabel
  dsimp only at h ⊢
  congr 1
  have : ∀ l : List (Str × NameKind), (∀ p ∈ l, p.2 ≠ .free) → (l.map fun (n, k) => if (k == NameKind.free && env.scope.kind == .function && env.kindOf n == some .cell) then (n, NameKind.cell) else (n, k)) = l := by
    intro l
    induction l with
    | nil => intro _; rfl
    | cons p l ih =>
      intro hl
      obtain ⟨n, k⟩ := p
      have e : (k == NameKind.free) = false := by simpa using hl (n, k) (List.mem_cons_self ..)
      rw [List.map_cons, ih fun q hq => hl q (List.mem_cons_of_mem _ hq)]
      simp only [e, Bool.false_and, Bool.false_eq_true, if_false]
  exact this ns h
theorem mapR_cons {g : List V → Store → R V} {v : V} {r : List V} {σ : Store} : mapR g (v :: r) σ = (g [v] σ).got fun y σ => (mapR g r σ).bind fun ys σ => .ok (y :: ys) σ := rfl
theorem s_asgMap (F : Frm c x (d + 1)) (TK : TopOk c P) (FO : FnsOK c P d Φ) {i f j : Nat} (hc : x.quiet = false) : SoundS c x Φ (.asgMap i f j) := by
  intro t hm fz s imm own ι σ ρ m Q E hE X hl h
  obtain ⟨tx, pt, y, p2, z, p3, p4, gs, sc, pl, p6, rfl, hk⟩ := ms_asgMap hm
  obtain ⟨hk, hgs⟩ := and_inv hk
  obtain ⟨hk, hsc⟩ := and_inv hk
  obtain ⟨hk, hz⟩ := and_inv hk
  obtain ⟨hk, hd⟩ := and_inv hk
  obtain ⟨hk, hf⟩ := and_inv hk
  obtain ⟨hk, htx⟩ := and_inv hk
  obtain ⟨hpl, hnm⟩ := and_inv hk
  have htx' := beq_iff_eq.mp htx
  have hf' := beq_iff_eq.mp hf
  have hz' : (z == ("__debug__" : Str)) = false := by simpa using hz
  have hd' : (y == ("__debug__" : Str)) = false := by simpa using hd
  have G := scOkG_inv hsc
  obtain ⟨g, hg1, hg2⟩ := any_inv hgs
  obtain rfl := one_inv hg1
  obtain ⟨hgo, hit⟩ := and_inv hg2
  obtain ⟨pz, ez⟩ := gOk_inv hgo
  obtain ⟨n, q1, q2, q3, q4, q5, eit, hn, hnd⟩ := tailOk_inv hit
  rw [ez]
  obtain ⟨D, hD, hns, hkeep⟩ := TK.fns y f hf'
  simp only [xs_expr, xs_append, xs_assign, xs_unpack, xs_setattr, xs_setitem, xs_unpackSub, xs_unpackL, xs_ite, xs_forIn, xs_forRange, xs_forTup, xs_forStr, xs_asgMap, xs_while, xs_ret, xs_retNone, xs_brk, xs_cont, xs_pass, xs_raise, xs_try, xs_hand] at h
  split at h
  · rename_i v hv
    split at h
    · rename_i ws0 hws
      split at h
      · rename_i hlen
        have F' : Frm c { x with fz := fz } (d + 1) := F.fz
        have hbk : x.env.blockKind = .function := by
          show (if x.scope.kind.isAnnotationScope = true then ScopeKind.function else x.scope.kind) = _
          rw [F.kind]; rfl
        have hloc : x.env.kindOf tx = some .local := F.loc tx (List.mem_of_getElem? htx')
        have hsw : swapsWith (.ListComp (.Call (.Name y p2) [.Name z p3] [] p4) [⟨.Name z pz, g.iter, [], 0⟩] sc pl) (some (.Name tx pt)) p6.line x.env = pure true := by
          show (pure (x.env.blockKind == .function && x.env.kindOf tx == some .local && pt.line == pl.line && !(sc.names.any fun (n, k) => n == tx && (k == .local || k == .cell))) : Sem Bool) = pure true
          rw [hbk, hloc, hpl]
          have e : (sc.names.any fun (n, k) => n == tx && (k == .local || k == .cell)) = false := by
            have := hnm
            rw [Bool.not_eq_true'] at this
            rw [← this]
            congr 1
          rw [e]; rfl
        have hclos : closureFor sc x.env = pure [] := closureFor_none G.free
        rw [exec_Assign_Name_used _ _ _ _ hsw]
        refine wpAny_bind (wpAny_standAt (wpAny_bind ?_))
        show wpAny _ x.A (do let _ ← comprehension (.ListComp (.Call (.Name y p2) [.Name z p3] [] p4) [⟨.Name z pz, g.iter, [], 0⟩] sc pl) sc x.env _ (newList []) false (eval g.iter x.env) (some (assign (.Name tx pt) x.env))) _ _ s
        refine wpAny_bind (wpAny_mono (wpAny_comprehension_free (use := some (assign (.Name tx pt) x.env)) (Q := fun _ s' => Q .next s') rfl (by rw [eit]; intro _; rfl) hclos G.kind G.names ?_) (fun _ s' hq => wpAny_pure (wpAny_pure hq)) fun _ _ e => e)
        have hmt2 : mt c.T x.G x.S c.M (.sliceFrom false (.var j) (.cint 1)) g.iter = true := by
          rw [eit]
          show ((x.S[j]? == some n && n != ("__debug__" : Str)) && true) = true
          rw [hn, hnd]; simp
        refine sound_sliceFrom (Φ := Φ) (x := { x with fz := fz }) (sound_var F') sound_cint _ hmt2 s imm own ι σ ρ m _ E X hl ?_
        rw [show evalE Φ ρ (.sliceFrom false (.var j) (.cint 1)) σ = .ok (.lst ws0.tail) σ by
          simp only [ee_var, ee_cint, ee_cstr, ee_cnone, ee_cbool, ee_gint, ee_gstr, ee_bin, ee_neg, ee_not, ee_and, ee_or, ee_cmp, ee_cmp2, ee_call, ee_bi, ee_copy, ee_isi, ee_make, ee_meth, ee_attr, ee_idx, ee_sliceTo, ee_sliceFrom, ee_tup, ee_lst, ee_sumAt, ee_rev, ee_strMul, ee_cat, ee_slen, ee_sidx, ee_sTo, ee_sFrom, ee_split, ee_join, ee_upper, ee_giveRepl, ee_strOf, ee_intOf, ee_notIn, ee_inT, ee_notInL, ee_minL, ee_shownL, hv, R.bind, cutV, hws]
          rw [if_pos (by decide), if_pos (by omega)]
          rw [show (1 : Int).toNat = 1 from rfl, List.drop_one]
          rfl]
        intro w h₁ tk₁ imm₁ own₁ ι₁ hx₁ X₁ hr₁
        obtain ⟨vs, hvs⟩ : ∃ vs, vs = ws0.tail := ⟨_, rfl⟩
        rw [← hvs] at h hr₁
        have hvl : vs.length ≤ 1000 := by rw [hvs, List.length_tail]; omega
        obtain ⟨ax, xs, rfl, hL, rs⟩ := X₁.isList hr₁ rfl
        refine wpAny_pyIter_list hL ?_
        have X₂ := X₁.addFz (o := { cls := .type "list_iterator", data := .fields #[.ref ax, .int 0 0] }) rfl
        obtain ⟨I, hI⟩ : ∃ I, I = h₁.objs.size := ⟨_, rfl⟩
        rw [← hI] at X₂ ⊢
        refine wpAny_newObj_type ?_
        have X₃ := X₂.addFz (o := { cls := .type "list", data := .seq ([] : List Value).toArray }) rfl
        obtain ⟨h₂, hh₂⟩ : ∃ h₂, h₂ = h₁.push { cls := .type "list_iterator", data := .fields #[.ref ax, .int 0 0] } := ⟨_, rfl⟩
        rw [← hh₂] at X₃ ⊢
        obtain ⟨Dl, hDl⟩ : ∃ Dl, Dl = h₂.objs.size := ⟨_, rfl⟩
        dsimp only
        rw [← hDl] at X₃ ⊢
        obtain ⟨h₃, hh₃⟩ : ∃ h₃, h₃ = h₂.push { cls := .type "list", data := .seq ([] : List Value).toArray } := ⟨_, rfl⟩
        rw [← hh₃] at X₃ ⊢
        refine wpAny_newFunctionEnv G.cell (by intro y hy; simp at hy) (fun h₄ hns₄ hsb₄ => ?_) G.kind
        dsimp only at hns₄ hsb₄ ⊢
        have X₄ := X₃.addFz (o := { cls := .type "dict", data := .dict #[] }) rfl
        obtain ⟨C, hC⟩ : ∃ C, C = h₃.objs.size := ⟨_, rfl⟩
        rw [← hC] at X₄ hns₄ hsb₄ ⊢
        obtain ⟨oC, heC, hoC⟩ := ns_obj hns₄
        have X₅ := X₄.setFz hsb₄ heC
        have hrel : relabel sc x.env = sc := relabel_id G.free
        have loop : ∀ s₃ : Shared, s₃ = { s with heap := h₄, toks := tk₁ + ([] : List (Str × Value)).length } →
            codeAny (model c.prog c.w) x.A (.compLoop (.ListComp (.Call (.Name y p2) [.Name z p3] [] p4) [⟨.Name z pz, g.iter, [], 0⟩] sc pl) 0 (.ref I) (.ref Dl) (compEnvC sc [] C x.env))
              (compPost (model c.prog c.w) x.A E (some (assign (.Name tx pt) x.env)) (fun _ s' => Q .next s') (.ref Dl) C) s₃ := by
          rintro s₃ rfl
          refine codeAny_compLoop_tests
            (fun k s' => ∃ (j : Nat) (h : Heap) (tk : Nat) (imm own : Led) (ι : List Addr) (σ : Store) (oI oC : Obj) (m' : Str → Option Value) (ys : List Value) (us : List V), s' = { s with heap := h, toks := tk } ∧ j ≤ vs.length ∧ k = vs.length + 1 - j ∧ Ext imm₁ imm ι₁ ι ∧
              St c.Z c.B (Gnd x) x.L ((C, oC) :: (Dl, lst ys) :: (I, oI) :: fz) h m imm own ι σ ∧ oI.cls = .type "list_iterator" ∧ oI.data = .fields #[.ref ax, .int j 0] ∧ NsObj oC m' ∧ Reps c.B imm ι us ys ∧ ys.length = j ∧
              PostS c { x with fz := fz } imm ι ((mapR (Φ.fn f) (vs.drop j) σ).on ρ fun ts σ => .ok (.next (ρ.set i (some (.lst (us ++ ts))))) σ) Q E { s with heap := h, toks := tk }) ?_ (vs.length + 1)
            ⟨0, h₄, _, imm₁, own₁, ι₁, σ, _, oC, _, [], [], rfl, Nat.zero_le _, rfl, Ext.refl, X₅, rfl, rfl, hoC, .nil, rfl, by rw [List.drop_zero]; exact PostS.lift hx₁ h⟩
          rintro k s' ⟨j, h₅, tk₅, imm₅, own₅, ι₅, σ₅, oI, oC, m', ys, us, rfl, hj, rfl, hx₅, X₅, hoI1, hoI2, hoC, hus, hyl, hP⟩
          have hitI : Heap.IsListIter h₅ I ax j := ⟨oI, X₅.getFz (p := (I, oI)) (.tail _ (.tail _ (.head _))), hoI1, hoI2⟩
          obtain ⟨ax', xs', el, hL', rs'⟩ := X₅.isList (hr₁.mono hx₅) rfl
          cases el
          by_cases hlt : j < vs.length
          · obtain ⟨u, hu, ru⟩ := rs'.get (List.getElem?_eq_getElem hlt)
            refine wpAny_pyNext_list_item hitI hL' (by simpa using hu) fun h₆ hit₆ hs₆ => ?_
            obtain ⟨oI₆, ho₆, hc₆, hd₆⟩ := hit₆
            have p1 : ((C, oC) :: (Dl, lst ys) :: (I, oI) :: fz).Perm ((I, oI) :: (C, oC) :: (Dl, lst ys) :: fz) := (List.Perm.cons _ (List.Perm.swap ..)).trans (List.Perm.swap ..)
            have p2 : ((I, oI₆) :: (C, oC) :: (Dl, lst ys) :: fz).Perm ((C, oC) :: (Dl, lst ys) :: (I, oI₆) :: fz) := (List.Perm.swap ..).trans (List.Perm.cons _ (List.Perm.swap ..))
            have X₆ := ((X₅.perm p1).setFz hs₆ ho₆).perm p2
            refine wpAny_assign_Name (wpAny_storeName_local (lookup_relabel_local G.loc) (hoC.ns (X₆.getFz (p := (C, oC)) (.head _))) (fun h₇ hn₇ hs₇ => ?_) (by simp [compEnvC, relabel, G.kind]))
            obtain ⟨oC₇, heC₇, hoC₇⟩ := ns_obj hn₇
            have X₇ := X₆.setFz hs₇ heC₇
            refine wpAny_tests_nil ?_
            simp only [if_true]
            have kg : (compEnvC sc [] C x.env).kindOf y = some .globalImplicit := by
              show (relabel sc x.env).names.lookup y = _
              rw [hrel]; exact G.glob
            have kk : (compEnvC sc [] C x.env).scope.kind = .function := by
              show (relabel sc x.env).kind = _
              rw [hrel]; exact G.kind
            have kl : (compEnvC sc [] C x.env).kindOf z = some .local := by
              show (relabel sc x.env).names.lookup z = _
              rw [hrel]; exact G.loc
            have TR := topRead_of (F.top X₇.gd)
            refine Call_ (Calls.Name_function_global kk kg (Calls.loadGlobal_global (env := compEnvC sc [] C x.env) (TR.g.keeps X₇.fr.keep) (mg_of (F.kin X₇.gd) TR.g hns) ?_) hd')
            refine callWith_K (F.kin X₇.gd) hkeep ?_ rfl rfl
            refine args_cons (wpAny_Name (wpAny_loadName_local kk kl hn₇ (v := u) (by simp) ?_) hz') rfl
            refine args_nil ⟨(F.kin X₇.gd).keeps X₇.fr.keep, ?_⟩
            rw [List.drop_eq_getElem_cons hlt, mapR_cons] at hP
            cases hcall : Φ.fn f [vs[j]] σ₅ with
            | exn _ _ => rw [hcall] at hP; exact hP.elim
            | stuck => rw [hcall] at hP; exact hP.elim
            | ok yv σ₈ =>
              rw [hcall] at hP
              refine sound_fncall (x := { x with fz := (C, oC₇) :: (Dl, lst ys) :: (I, oI₆) :: fz }) F.fz FO hD (fun q => by rw [hc] at q; cases q) X₇ (.cons ru .nil) ?_
              rw [hcall]
              intro yy h₈ tk₈ imm₈ own₈ ι₈ hx₈ X₈ hr₈
              have zD := X₈.getFz (p := (Dl, lst ys)) (.tail _ (.head _))
              refine append_at (hsz := by show ys.toArray.size ≤ sizeLine; rw [List.size_toArray, hyl, sizeLine_eq]; omega) zD fun h₉ hs₉ hD₉ => ?_
              have q1 : ((C, oC₇) :: (Dl, lst ys) :: (I, oI₆) :: fz).Perm ((Dl, lst ys) :: (C, oC₇) :: (I, oI₆) :: fz) := List.Perm.swap ..
              have q2 : ((Dl, lst (ys ++ [yy])) :: (C, oC₇) :: (I, oI₆) :: fz).Perm ((C, oC₇) :: (Dl, lst (ys ++ [yy])) :: (I, oI₆) :: fz) := List.Perm.swap ..
              have X₉ := ((X₈.perm q1).setFz hs₉ (hD₉.trans (congrArg some (lst_snoc ys yy)))).perm q2
              refine ⟨_, t_lt hlt, j + 1, h₉, tk₈, imm₈, own₈, ι₈, σ₈, oI₆, oC₇, _, ys ++ [yy], us ++ [yv], rfl, hlt, rfl, hx₅.trans hx₈, X₉, hc₆, hd₆, hoC₇, (hus.mono hx₈).append (.cons hr₈ .nil), by rw [List.length_append, List.length_singleton, hyl], ?_⟩
              have e9 : (mapR (Φ.fn f) (vs.drop (j + 1)) σ₈).on ρ (fun ts σ => SR.ok (.next (ρ.set i (some (.lst (us ++ [yv] ++ ts))))) σ) = (((R.ok yv σ₈).got fun y σ => (mapR (Φ.fn f) (vs.drop (j + 1)) σ).bind fun ys σ => .ok (y :: ys) σ).on ρ fun ts σ => SR.ok (.next (ρ.set i (some (.lst (us ++ ts))))) σ) := by
                simp only [R.got]
                cases mapR (Φ.fn f) (vs.drop (j + 1)) σ₈ with
                | ok ts σ => simp only [R.bind, R.on, List.append_assoc, List.singleton_append]
                | exn _ _ => rfl
                | stuck => rfl
              rw [e9]
              exact PostS.lift hx₈ hP
          · have hj' : j = vs.length := t_end hj hlt
            refine wpAny_pyNext_list_end (F.calm hc) hitI hL' (by rw [hj']; simp [rs'.length]) fun h₆ he₆ => ?_
            have p1 : ((C, oC) :: (Dl, lst ys) :: (I, oI) :: fz).Perm ((I, oI) :: (C, oC) :: (Dl, lst ys) :: fz) := (List.Perm.cons _ (List.Perm.swap ..)).trans (List.Perm.swap ..)
            have X₆ := (X₅.perm p1).dropFz he₆
            show wpAny (model c.prog c.w) x.A (assign (.Name tx pt) x.env (.ref Dl)) (fun _ s'' => ∃ m, s''.heap.Ns C m ∧ ∀ h', Heap.SameBut C s''.heap h' → Q .next { s'' with heap := h' }) E _
            refine PyProof.Rows.assign_Name (stN X₆.fr X₆.news (fun h₇ F₇ N₇ => ?_) F.kind hloc)
            have X₇ := X₆.setName F₇ N₇
            refine ⟨m', hoC.ns (X₇.getFz (p := (C, oC)) (.head _)), fun h₈ hs₈ => ?_⟩
            have X₈ := (X₇.dropFz hs₈.extBut).toImm
            rw [List.drop_of_length_le (by omega)] at hP
            have hl' := ((hl.mono hx₁).mono hx₅).mono (Ext.imm (Dl, lst ys))
            refine hP _ h₈ _ _ _ own₅ ι₅ (Ext.imm _) X₈ (.next (hl'.set F.nd htx' ?_))
            rw [List.append_nil]
            exact .lst (.head _) (hus.mono (Ext.imm _))
        exact codeAny_compStart_list (loop _ rfl) (wpAny_pyIter_listiter ⟨_, X₅.getFz (p := (I, _)) (.tail _ (.tail _ (.head _))), rfl, rfl⟩ (loop _ rfl))
      · exact h.elim
    · exact h.elim
  · exact h.elim
end
end Mine
set_option maxRecDepth 100000
set_option linter.unusedVariables false
set_option linter.unusedSectionVars false
namespace Mine
open PySem PySem.W PyProof.Rows PySem.Calls

mutual
noncomputable def quietS (P : Prog) : MS → Bool
  | .expr e => quietE P e
  | .append o e => quietE P o && quietE P e
  | .assign _ e => quietE P e
  | .setattr o _ e => quietE P o && quietE P e
  | .ite e a b => quietE P e && (quietB P a && quietB P b)
  | .ret e => quietE P e
  | .retNone => true
  | .brk => true
  | .cont => true
  | .pass => true
  | .unpack _ _ => false
  | .setitem _ _ _ => false
  | .unpackSub _ _ _ _ => false
  | .unpackL _ _ => false
  | .forIn _ _ _ => false
  | .forRange _ _ _ => false
  | .forTup _ _ _ => false
  | .forStr _ _ _ => false
  | .asgMap _ _ _ => false
  | .while _ _ _ => false
  | .raise _ _ _ => false
  | .try _ _ => false
  | .hand _ _ _ => false
noncomputable def quietB (P : Prog) : List MS → Bool
  | [] => true
  | s :: r => quietS P s && quietB P r
end
mutual
/-- the suites of all clauses are quiet -/
noncomputable def tameS (P : Prog) : MS → Bool
  | .expr _ => true
  | .append _ _ => true
  | .assign _ _ => true
  | .setattr _ _ _ => true
  | .ite _ a b => tameB P a && tameB P b
  | .ret _ => true
  | .retNone => true
  | .brk => true
  | .cont => true
  | .pass => true
  | .unpack _ _ => true
  | .setitem _ _ _ => true
  | .forStr _ _ b => tameB P b
  | .asgMap _ _ _ => true
  | .unpackL _ _ => false
  | .unpackSub _ _ _ _ => false
  | .forIn _ _ b => tameB P b
  | .forRange _ _ b => tameB P b
  | .forTup _ _ b => tameB P b
  | .while _ _ b => tameB P b
  | .raise _ _ _ => true
  | .try b hs => tameB P b && tameB P hs
  | .hand _ _ suite => quietB P suite && tameB P suite
noncomputable def tameB (P : Prog) : List MS → Bool
  | [] => true
  | s :: r => tameS P s && tameB P r
end
noncomputable def QS (x : Fx) (P : Prog) (st : MS) : Prop := x.quiet = true → quietS P st = true
noncomputable def QB (x : Fx) (P : Prog) (b : List MS) : Prop := x.quiet = true → quietB P b = true
/-- the frame as a def's own -/
noncomputable def Deep (x : Fx) : Prop := x.quiet = false → x.A = x.A₀.deeper x.env

section
variable {c : Cx} {x : Fx} {d : Nat} {Φ : Fns} {P : Prog}
theorem TopOk.at (TK : TopOk c P) {k : Nat} {y : Str} {C : Addr} (h : c.T.xs[k]? = some (y, C)) : c.B.xs[k]? = some C := by
  rw [TK.xs, List.getElem?_map, h]; rfl

theorem s_raise (F : Frm c x (d + 1)) (TK : TopOk c P) {y z : Str} {k : Nat} (hc : x.quiet = false) : SoundS c x Φ (.raise y k z) := by
  intro t hm fz s imm own ι σ ρ m Q E hE X hl h
  obtain ⟨u, p1, p2, p3, p4, p5, rfl, hk⟩ := ms_raise hm
  simp only [Bool.and_eq_true, beq_iff_eq, bne_iff_ne, ne_eq] at hk
  obtain ⟨⟨⟨rfl, hg⟩, hd⟩, hn⟩ := hk
  obtain ⟨C, hC⟩ := nmX_inv hn
  have EX := TK.exc k _ C hC
  simp only [xs_expr, xs_append, xs_assign, xs_unpack, xs_setattr, xs_setitem, xs_unpackSub, xs_unpackL, xs_ite, xs_forIn, xs_forRange, xs_forTup, xs_forStr, xs_asgMap, xs_while, xs_ret, xs_retNone, xs_brk, xs_cont, xs_pass, xs_raise, xs_try, xs_hand] at h
  refine Raise_own X.fr (TopRead.g (topRead_of (F.top X.gd))) (own_of_in (F.kin X.gd) (topRead_of (F.top X.gd)) EX.ns EX.exc) PySem.F.excBase_ValueError (F.calm hc) ?_ rfl rfl F.kind (Fx.glob hg) (by simpa using hd)
  refine args_cons (Calls.Constant_str (args_nil ⟨by rw [sizeLine_eq]; simp, X.fr.keep, fun h' e hx => ?_⟩)) rfl
  exact h e _ ⟨m, imm, own, ι, s.heap, _, C, h', _, Ext.refl, TK.at hC, X, hx, rfl⟩
/-- the frame while an exception is in hand -/
noncomputable abbrev Fx.held (x : Fx) (e : Addr) : Fx := { x with A := x.A.mark (some (.ref e)), quiet := true }
theorem Frm.held (F : Frm c x d) (e : Addr) : Frm c (x.held e) d :=
  ⟨F.kinB, F.topB, F.atB, F.imp, F.frames, (fun q => Bool.noConfusion q), F.kind, F.loc, F.nd, F.depth, F.units, F.tree, F.gen, F.coro⟩

theorem LocRel.clr {B : Bas} {imm : Led} {ι : List Addr} {S : List Str} {ρ : Loc} {m : Str → Option Value} {i : Nat} {n : Str} {v : Option Value} (h : LocRel B imm ι S ρ m) (hn : S.Nodup) (hi : S[i]? = some n) : LocRel B imm ι S (ρ.set i Option.none) (fun y => if y = n then v else m y) := by
  intro j z w hz hw
  by_cases e : j = i
  · subst e
    rw [List.getElem?_set] at hw
    split at hw
    · split at hw <;> cases hw
    · exact absurd rfl ‹_›
  · have hne : z ≠ n := fun q => e (nodup_at hn (q ▸ hz) hi)
    rw [List.getElem?_set_ne (Ne.symm e)] at hw
    obtain ⟨y', h1, h2⟩ := h j z w hz hw
    exact ⟨y', by simp [hne, h1], h2⟩

theorem msh_hand {T : Tops} {G : Str → Bool} {S : List Str} {M : Nat → Option Str} {st : MS} {hs : List MS} {l : List ExceptHandler} (h : msh T G S M (st :: hs) l = true) : ∃ j as suite, st = .hand j as suite := by
  cases st <;> first | exact ⟨_, _, _, rfl⟩ | exact Bool.noConfusion (show false = true from h)
/-- the clauses -/
theorem h_all (F : Frm c x (d + 1)) (TK : TopOk c P) (hA : x.A = x.A₀.deeper x.env) {fz : Led} {imm imm' own' : Led} {ι ι' : List Addr} {k : Nat} {ρ : Loc} {σ : Store} {m : Str → Option Value} {Q : Flow → Shared → Prop} {E : Value → Shared → Prop} {s : Shared} {e t C : Addr} {g G' : Heap} {vs : List Value}
    (hC : c.B.xs[k]? = some C) (G : Gnd x g) (hx : Ext imm imm' ι ι') (nd : ((own' ++ (imm' ++ fz)).map (·.1)).Nodup) (ow : Own c.Z c.B imm' ι' ι' own' σ) (hl : LocRel c.B imm' ι' x.S ρ m) (F' : Fr g x.L G' m) (hs : List MS) :
    ∀ (l : List ExceptHandler), msh c.T x.G x.S c.M hs l = true → (∀ j as suite, .hand j as suite ∈ hs → SoundB c (x.held e) Φ suite) → ∀ (h₁ : Heap) (tk : Nat), RaisedS x.base G' (x.env :: x.outer) e (.ref C) t vs (own' ++ (imm' ++ fz)) h₁ → G'.UpToSlots h₁ →
      PostS c { x with fz := fz } imm ι (execH Φ hs k ρ σ) Q E s → wpAny (model c.prog c.w) x.A (handleBy (.ref e) x.env l) Q E { s with heap := h₁, toks := tk } := by
  induction hs with
  | nil =>
    intro l hm hS h₁ tk R U h
    simp only [xh_0, xh_9] at h
    exact h.elim
  | cons st hs ih =>
    intro l hm hS h₁ tk R U h
    obtain ⟨j, as, suite, rfl⟩ := msh_hand hm
    obtain ⟨y, p, n, b, pos, r, rfl, hg, hd, hn, has, hne, hb, hr⟩ := msh_c hm
    obtain ⟨D, hD⟩ := nmX_inv hn
    obtain ⟨y₁, hC₁⟩ : ∃ y₁, c.T.xs[k]? = some (y₁, C) := by
      rw [TK.xs, List.getElem?_map, Option.map_eq_some_iff] at hC
      obtain ⟨q, h1, h2⟩ := hC
      exact ⟨q.1, by rw [h1, ← h2]⟩
    have hsub := ((TK.exc k _ C hC₁).sub j _ D hD).1
    have tst : ∀ v, subX k j = v → KtsTest c.prog c.w c.K c.p c.loose c.mg c.mb x.qual x.scope x.L x.f x.cd (.ref C) (.Name y p) v := fun v e => test_name (.inl (TK.exc j _ D hD).ns) (e ▸ hsub) F.kind (Fx.glob hg) (by simpa using hd)
    simp only [xh_0, xh_9] at h
    cases hv : subX k j with
    | false =>
      rw [hv] at h
      simp only [Bool.false_eq_true, if_false] at h
      rw [hA]
      refine pass_S (s' := { s with heap := h₁, toks := tk }) R F' G.2.1 U F.kinB F.topB G.2.2 (tst false hv) fun h' R' U' => ?_
      have := ih r hr (fun j as suite hm => hS j as suite (.tail _ hm)) h' tk R' U' h
      rw [hA] at this
      exact this
    | true =>
      rw [hv] at h
      simp only [if_true] at h
      refine wpAny_noRaise ?_
      cases b with
      | nil =>
        cases suite with
        | nil => cases hne
        | cons st r => obtain ⟨_, _, e, _⟩ := mss_c hb; cases e
      | cons b₀ b =>
      have hSu := hS j as suite (.head _)
      have stay : ∀ {g' : Heap}, Below x.A₀ x.base x.outer g' → c.B.h.StaysIn g' := fun B => by rw [F.atB]; exact B.stays
      cases as with
      | none =>
        have hn : n = none := non_inv has
        subst hn
        rw [hA]
        refine hit_S0 (s' := { s with heap := h₁, toks := tk }) R F' G.2.1 U F.kinB F.topB G.2.2 G.1 (tst true hv) (fun h' g' news₂ T₁ F₁ N₁ got N₂ B₁ K₁ P₁ D₁ => ?_) PassesOwnAt.never
        have X₁ : St c.Z c.B (Gnd x) x.L fz h' m imm' own' ι' σ := ⟨g', ⟨T₁, B₁, D₁⟩, F₁, N₂, nd, ow, stay B₁⟩
        rw [← hA]
        refine hSu (b₀ :: b) hb fz _ imm' own' ι' σ ρ m _ _ PassesOwn.never X₁ hl ?_
        revert h
        simp only [putX]
        cases execB Φ suite ρ σ with
        | exn _ _ _ _ => exact fun h => h.elim
        | stuck => exact fun h => h
        | ok fl σ₁ =>
          intro h fy h₂ tk₂ m₂ imm₂ own₂ ι₂ hx₂ X₂ hf
          refine h fy h₂ tk₂ m₂ imm₂ own₂ ι₂ (hx.trans hx₂) X₂ ?_
          cases hf with
          | next q => exact .next q
          | brk q => exact .brk q
          | cont q => exact .cont q
          | ret q => exact .ret q
      | some i =>
        obtain ⟨nn, rfl, hi⟩ := any_inv has
        have hi : x.S[i]? = some nn := beq_iff_eq.mp hi
        have hlo := F.loc nn (List.mem_of_getElem? hi)
        rw [hA]
        refine hit_SB (s' := { s with heap := h₁, toks := tk }) R F' G.2.1 U F.kinB F.topB G.2.2 G.1 (tst true hv) (fun h' g' news₂ tk' T₁ F₁ N₁ got N₂ B₁ K₁ P₁ D₁ => ?_) F.kind hlo
        refine wpAny_noRaise ?_
        obtain ⟨oe, ot, ws, nt, g1, g2, g3, g4, g5, g6, g7⟩ := got
        have hnew : ∀ q ∈ own' ++ (imm' ++ fz), q.1 ≠ e := by
          intro q hq z
          obtain ⟨⟨B, b1, b2, b3, b4, b5⟩, _⟩ := R
          have := (b3 q hq).1
          rw [z, b4.2.1] at this
          cases this
        have hp : (own' ++ (((e, oe) :: imm') ++ fz)).Perm ((e, oe) :: (own' ++ (imm' ++ fz))) := List.perm_middle
        have X₁ : St c.Z c.B (Gnd x) x.L fz h' (fun y => if y = nn then some (.ref e) else m y) ((e, oe) :: imm') own' ι' σ := by
          refine ⟨g', ⟨T₁, B₁, D₁⟩, F₁, fun q hq => ?_, ?_, ow.mono (Ext.imm _), stay B₁⟩
          · rcases List.mem_cons.mp (hp.mem_iff.mp hq) with rfl | hq
            · exact N₁ _ g1
            · exact N₂ q hq
          · refine ((hp.map (·.1)).nodup_iff).mpr ?_
            rw [List.map_cons]
            refine List.nodup_cons.mpr ⟨fun hm => ?_, nd⟩
            obtain ⟨q, hq, z⟩ := List.mem_map.mp hm
            exact hnew q hq z
        have hl₁ : LocRel c.B ((e, oe) :: imm') ι' x.S (ρ.set i (some (.exc k))) (fun y => if y = nn then some (.ref e) else m y) := (hl.mono (Ext.imm _)).set F.nd hi (.exc (.head _) hC g3)
        rw [← hA]
        refine hSu (b₀ :: b) hb fz _ _ own' ι' σ (ρ.set i (some (.exc k))) _ _ _ PassesOwn.never X₁ hl₁ ?_
        revert h
        simp only [putX]
        cases execB Φ suite (ρ.set i (some (.exc k))) σ with
        | exn _ _ _ _ => exact fun h => h.elim
        | stuck => exact fun h => h
        | ok fl σ₁ =>
          intro h fy h₂ tk₂ m₂ imm₂ own₂ ι₂ hx₂ X₂ hf
          refine name_goes_keeps X₂.fr X₂.news (fun h₃ v F₃ N₃ => ?_) F.kind hlo
          refine h fy h₃ _ _ imm₂ own₂ ι₂ (hx.trans ((Ext.imm _).trans hx₂)) (X₂.setName F₃ N₃) ?_
          cases hf with
          | next q => exact .next (q.clr F.nd hi)
          | brk q => exact .brk (q.clr F.nd hi)
          | cont q => exact .cont (q.clr F.nd hi)
          | ret q => exact .ret q

theorem s_try (F : Frm c x (d + 1)) (TK : TopOk c P) (hc : x.quiet = false) (hA : x.A = x.A₀.deeper x.env) {body hs : List MS} (hb : SoundB c x Φ body) (hS : ∀ e j as suite, .hand j as suite ∈ hs → SoundB c (x.held e) Φ suite) : SoundS c x Φ (.try body hs) := by
  intro t hm fz s imm own ι σ ρ m Q E hE X hl h
  obtain ⟨b, l, p1, rfl, hk⟩ := ms_try hm
  simp only [Bool.and_eq_true] at hk
  obtain ⟨⟨hb1, hh⟩, hne⟩ := hk
  simp only [xs_expr, xs_append, xs_assign, xs_unpack, xs_setattr, xs_setitem, xs_unpackSub, xs_unpackL, xs_ite, xs_forIn, xs_forRange, xs_forTup, xs_forStr, xs_asgMap, xs_while, xs_ret, xs_retNone, xs_brk, xs_cont, xs_pass, xs_raise, xs_try, xs_hand] at h
  cases l with
  | nil =>
    cases hs with
    | nil => cases hne
    | cons st r =>
      obtain ⟨j, as, suite, rfl⟩ := msh_hand hh
      obtain ⟨_, _, _, _, _, _, e, _⟩ := msh_c hh
      cases e
  | cons h₀ l =>
  refine wpAny_Try_except ?_
  refine hb b hb1 fz s imm own ι σ ρ m _ _ PassesOwn.looking X hl ?_
  revert h
  cases execB Φ body ρ σ with
  | stuck => exact fun h => h
  | ok fl σ₁ =>
    intro h fy h' tk m' imm' own' ι' hx X' hf
    have := h fy h' tk m' imm' own' ι' hx X' hf
    cases hf with
    | next q => exact wpAny_execs_nil this
    | brk q => exact this
    | cont q => exact this
    | ret q => exact this
  | exn b k ρ₁ σ₁ =>
    cases b with
    | true => exact fun h => h.elim
    | false =>
      intro h e s' T
      obtain ⟨m₁, imm₁, ι₁, h₁, tk₁, hx₁, hl₁, ⟨h₂, tk₂, rfl⟩, C, g, imm', own', ι', hC, G, hx₂, nd, ow, G', t, vs, F', R, U⟩ := T
      have key : ∀ h₃, RaisedS x.base G' (x.env :: x.outer) e (.ref C) t vs (own' ++ (imm' ++ fz)) h₃ → G'.UpToSlots h₃ → wpAny (model c.prog c.w) x.A (handleBy (.ref e) x.env (h₀ :: l)) Q E { s with heap := h₃, toks := tk₂ } := fun h₃ R₃ U₃ =>
        h_all F TK hA hC G (hx₁.trans hx₂) nd ow (hl₁.mono hx₂) F' hs (h₀ :: l) hh (hS e) h₃ tk₂ R₃ U₃ h
      rw [hA] at key ⊢
      exact kts_lookS (s' := { s with heap := h₂, toks := tk₂ }) R F' G.2.1 U G.2.2 fun h₃ R₃ U₃ => key h₃ R₃ U₃
/-- a clause's suite -/
noncomputable def SoundH (c : Cx) (x : Fx) (Φ : Fns) (st : MS) : Prop := ∀ j as suite, st = .hand j as suite → ∀ e, SoundB c (x.held e) Φ suite
theorem not_q {p : Prop} (h : x.quiet = true → false = true) : x.quiet = true → p := fun z => Bool.noConfusion (h z)
theorem qs1 {st : MS} {r : List MS} (h : QB x P (st :: r)) : QS x P st := q1 h
theorem qs2 {st : MS} {r : List MS} (h : QB x P (st :: r)) : QB x P r := q2 h

variable (TK : TopOk c P) (FO : FnsOK c P d Φ)
include TK FO
mutual
theorem allS : ∀ (st : MS) (x : Fx), Frm c x (d + 1) → QS x P st → tameS P st = true → Deep x → SoundS c x Φ st ∧ SoundH c x Φ st
  | .expr e, x, F, q, _, _ => ⟨s_expr F TK FO q, fun _ _ _ e => nomatch e⟩
  | .append o e, x, F, q, _, _ => ⟨s_append F TK FO (q1 q) (q2 q), fun _ _ _ e => nomatch e⟩
  | .assign i e, x, F, q, _, _ => ⟨s_assign F TK FO q, fun _ _ _ e => nomatch e⟩
  | .unpack is e, x, F, q, _, _ => ⟨s_unpack F TK FO (not_q q) (q0 q), fun _ _ _ e => nomatch e⟩
  | .unpackL _ _, x, F, q, t, _ => Bool.noConfusion (show false = true from t)
  | .unpackSub _ _ _ _, x, F, q, t, _ => Bool.noConfusion (show false = true from t)
  | .forStr i it body, x, F, q, t, dp => ⟨s_forStr F TK FO (not_q q) (q0 q) (allB body x F (not_q q) t dp).1, fun _ _ _ e => nomatch e⟩
  | .asgMap i f j, x, F, q, _, _ => ⟨s_asgMap F TK FO (q0 q), fun _ _ _ e => nomatch e⟩
  | .setitem o k e, x, F, q, _, _ => ⟨s_setitem F TK FO (not_q q) (not_q q) (not_q q), fun _ _ _ e => nomatch e⟩
  | .setattr o k e, x, F, q, _, _ => ⟨s_setattr F TK FO (q1 q) (q2 q), fun _ _ _ e => nomatch e⟩
  | .ite e a b, x, F, q, t, dp => ⟨s_ite F TK FO (q1 q) (allB a x F (q1 (q2 q)) (and_inv t).1 dp).1 (allB b x F (q2 (q2 q)) (and_inv t).2 dp).1, fun _ _ _ e => nomatch e⟩
  | .forIn i it body, x, F, q, t, dp => ⟨s_forIn F TK FO (not_q q) (q0 q) (allB body x F (not_q q) t dp).1, fun _ _ _ e => nomatch e⟩
  | .forTup i it body, x, F, q, t, dp => ⟨s_forTup F TK FO (not_q q) (q0 q) (allB body x F (not_q q) t dp).1, fun _ _ _ e => nomatch e⟩
  | .forRange i args body, x, F, q, t, dp => ⟨s_forRange F TK FO (not_q q) (q0 q) (allB body x F (not_q q) t dp).1, fun _ _ _ e => nomatch e⟩
  | .while fuel e body, x, F, q, t, dp => ⟨s_while F TK FO (not_q q) (allB body x F (not_q q) t dp).1, fun _ _ _ e => nomatch e⟩
  | .ret e, x, F, q, _, _ => ⟨s_ret F TK FO q, fun _ _ _ e => nomatch e⟩
  | .retNone, x, F, q, _, _ => ⟨s_retNone, fun _ _ _ e => nomatch e⟩
  | .brk, x, F, q, _, _ => ⟨s_brk, fun _ _ _ e => nomatch e⟩
  | .cont, x, F, q, _, _ => ⟨s_cont, fun _ _ _ e => nomatch e⟩
  | .pass, x, F, q, _, _ => ⟨s_pass, fun _ _ _ e => nomatch e⟩
  | .raise y k z, x, F, q, _, _ => ⟨s_raise F TK (q0 q), fun _ _ _ e => nomatch e⟩
  | .try body hs, x, F, q, t, dp => ⟨s_try F TK (q0 q) (dp (q0 q)) (allB body x F (not_q q) (and_inv t).1 dp).1 fun e j as suite hm => (allB hs x F (not_q q) (and_inv t).2 dp).2 _ hm j as suite rfl e, fun _ _ _ e => nomatch e⟩
  | .hand j as suite, x, F, q, t, dp => ⟨fun _ hm => Bool.noConfusion (show false = true from hm), fun _ _ _ z e => by
      cases z
      exact (allB suite (x.held e) (F.held e) (fun _ => (and_inv t).1) (and_inv t).2 (fun z => Bool.noConfusion z)).1⟩
theorem allB : ∀ (b : List MS) (x : Fx), Frm c x (d + 1) → QB x P b → tameB P b = true → Deep x → SoundB c x Φ b ∧ ∀ st ∈ b, SoundH c x Φ st
  | [], x, F, q, t, dp => ⟨b_nil, fun _ h => nomatch h⟩
  | st :: r, x, F, q, t, dp =>
    have a := allS st x F (qs1 q) (and_inv t).1 dp
    have b := allB r x F (qs2 q) (and_inv t).2 dp
    ⟨b_cons a.1 b.1, fun s h => (List.mem_cons.mp h).elim (fun e => e ▸ a.2) (b.2 s)⟩
end
end
end Mine
set_option maxRecDepth 100000
set_option linter.unusedVariables false
set_option linter.unusedSectionVars false
namespace Mine
open PySem PySem.W PyProof.Rows PySem.Calls

/-- what the written part says of a def -/
inductive FnAt (c : Cx) (P : Prog) (D : Fn) : Prop
  | mk (tame : tameB P D.body = true) (quiet : D.quiet = true → quietB P D.body = true) (oc : Value) (od : Option Addr) (name qual : Str) (params : Arguments) (body : List Stmt) (scope : Scope) (dV kV doc pm : Value) (an : Option Addr) (cdv ct : Value) (osl : Array (Option Value))
    (hK : c.K.lookup D.addr = some ⟨oc, od, .func (fnOf name qual params body scope dV kV doc pm an cdv ct), osl⟩) (hcd : codeIn c.K cdv qual = true)
    (hb : ∀ (s : Shared) (ys : List Value), ys.length = D.nargs → BindsTo s (fnOf name qual params body scope dV kV doc pm an cdv ct) ⟨ys, []⟩ ((D.slots.take D.nargs).zip ys))
    (h7 : ∀ y ∈ D.slots, scope.names.lookup y = some .local) (h8 : D.slots.Nodup) (h9 : D.nargs ≤ D.slots.length) (h10 : scope.isCoroutine = false) (h11 : scope.isGenerator = false) (h12 : scope.kind = .function) (h13 : ∀ q ∈ scope.names, q.2 ≠ .cell)
    (h14 : mss c.T (fun y => scope.names.lookup y == some .globalImplicit) D.slots c.M D.body body = true) : FnAt c P D

theorem zip_sub : ∀ (xs : List Str) (ys : List Value), ((xs.zip ys).map (·.1)).Sublist xs
  | [], _ => by simp
  | _ :: _, [] => by simp
  | x :: xs, y :: ys => by simpa using zip_sub xs ys
theorem zip_lookup : ∀ {xs : List Str} {ys : List Value} {i : Nat} {x : Str} {y : Value}, xs.Nodup → xs[i]? = some x → ys[i]? = some y → (xs.zip ys).reverse.lookup x = some y := by
  have key : ∀ (l : List (Str × Value)) (x : Str) (y : Value), (l.map (·.1)).Nodup → (x, y) ∈ l → l.lookup x = some y := by
    intro l
    induction l with
    | nil => intro x y _ h; cases h
    | cons p r ih =>
      intro x y hn hm
      obtain ⟨a, b⟩ := p
      simp only [List.map_cons, List.nodup_cons] at hn
      rw [List.lookup_cons]
      rcases List.mem_cons.mp hm with e | hm
      · cases e; simp
      · have hne : (x == a) = false := by
          rw [beq_eq_false_iff_ne]
          rintro rfl
          exact hn.1 (List.mem_map.mpr ⟨_, ‹_ ∈ r›, rfl⟩)
        rw [hne]
        exact ih x y hn.2 hm
  intro xs ys i x y hn hx hy
  refine key _ x y ?_ ?_
  · rw [List.map_reverse, (List.reverse_perm _).nodup_iff]
    exact (zip_sub xs ys).nodup hn
  · rw [List.mem_reverse]
    refine List.mem_of_getElem? (i := i) ?_
    rw [List.getElem?_zip_eq_some]
    exact ⟨hx, hy⟩

/-- what a def throws, in the frame that called it -/
theorem thrown_up {c : Cx} {x : Fx} {d : Nat} {P : Prog} (F : Frm c x d) {m : Str → Option Value} {imm own imm' own' : Led} {ι ι' : List Addr} {σ σ₁ : Store} {s : Shared} {k : Nat} {e t C : Addr} {vs : List Value} {g g₂ h' : Heap} {tk : Nat} (X : St c.Z c.B (Gnd x) x.L x.fz s.heap m imm own ι σ)
    (FG : Fr X.g x.L g m) (T : KtsTurn ((x.env :: x.outer).filterMap (·.frame)) g g₂) (hC : c.B.xs[k]? = some C) (hx : Ext imm imm' ι ι') (nd : ((own' ++ (imm' ++ x.fz)).map (·.1)).Nodup) (ow : Own c.Z c.B imm' ι' ι' own' σ₁)
    (R : RaisedS x.base g₂ (x.env :: x.outer) e (.ref C) t vs (own' ++ (imm' ++ x.fz)) h') (U : g₂.UpToSlots h') : Thrown c x m imm ι k σ₁ s { s with heap := h', toks := tk } e := by
  obtain ⟨g₃, T₃, F₃, B₃⟩ := kts_ground (name := x.qual) (scope := x.scope) (a := x.f) (cd := x.cd) (B := g₂) (h₅ := g₂) X.gd.2.1 FG (fun b o q nm => T.other b o q nm) (fun _ _ q => q) (fun b o q _ => T.up q)
  exact ⟨⟨h', tk, rfl⟩, C, g₃, imm', own', ι', hC, ⟨X.gd.1.trans T₃, B₃, X.gd.2.2.turn T₃⟩, hx, nd, ow, g₂, t, vs, F₃, R, U⟩

theorem fn_ok {c : Cx} {P : Prog} {d : Nat} {Φ : Fns} {D : Fn} (TK : TopOk c P) (FO : FnsOK c P d Φ) (A1 : FnAt c P D) : FnOK c (d + 2) D (callFn Φ D) := by
  intro x m s imm own ι σ vs ys Q F hq X hr h
  obtain ⟨htame, hquiet, oc, od, name, qual, params, body, scope, dV, kV, doc, pm, an, cdv, ct, osl, hK, hcd, hbind, hloc, hnd, hna, hco, hgen, hkind, hcell, hbody⟩ := A1
  have hdep := F.depth
  have hun := F.units
  unfold callFn at h
  split at h
  · rename_i hvl
    have hyl : ys.length = D.nargs := by rw [hr.length, hvl]
    refine code_defS X.gd.2.1 X.fr (F.kin X.gd) X.news (F.top X.gd) F.kinB F.topB X.gd.2.2 X.gd.1 F.frames hK hcd (by omega) (hbind s ys hyl) (fun q hq => ?_) (fun g L' h₁ FG F' N' B' X' T' D' => ?_) F.kind hco hgen hkind hcell
    · exact hloc _ (List.mem_of_mem_take (List.of_mem_zip hq).1)
    · let x' : Fx := { qual := qual, scope := scope, S := D.slots, L := L', f := D.addr, cd := cdv, h₀ := g, base := x.base, outer := x.env :: x.outer, A := x.A.deeper (envOf qual scope L' D.addr cdv), A₀ := x.A, fz := x.fz, quiet := x.quiet }
      have FR : Frm c x' (d + 1) := by
        refine ⟨F.kinB, F.topB, F.atB, F.imp, ?_, F.calm, hkind, hloc, hnd, ?_, ?_, F.tree, hgen, hco⟩
        · show x.A.frames.map _ = _
          rw [F.frames]; rfl
        · show x.A.depth + 1 + (d + 1) + 120 < recursionLimit
          omega
        · show x.A.units + 3 + 8 * (d + 1) + 200 < cLine
          omega
      have X₁ : St c.Z c.B (Gnd x') L' x.fz h₁ (fun y => ((D.slots.take D.nargs).zip ys).reverse.lookup y) imm own ι σ := ⟨g, ⟨KtsTurn.refl, B', D'⟩, F', N', X.nd, X.owned, fun b o e => FG.keep b o (X.base b o e)⟩
      have HL : LocRel c.B imm ι D.slots (vs.map some ++ List.replicate (D.slots.length - D.nargs) Option.none) (fun y => ((D.slots.take D.nargs).zip ys).reverse.lookup y) := by
        intro i z v hz hv
        have hi : i < vs.length := by
          rcases Nat.lt_or_ge i vs.length with q | q
          · exact q
          · rw [List.getElem?_append_right (by simpa using q)] at hv
            rw [List.getElem?_replicate] at hv
            split at hv <;> simp at hv
        rw [List.getElem?_append_left (by simpa using hi)] at hv
        simp only [List.getElem?_map, Option.map_eq_some_iff] at hv
        obtain ⟨v', hv', e⟩ := hv
        cases e
        obtain ⟨y, hy, ry⟩ := hr.get hv'
        refine ⟨y, zip_lookup (hnd.sublist (List.take_sublist _ _)) ?_ hy, ry⟩
        rw [List.getElem?_take_of_lt (by omega)]
        exact hz
      have stay : ∀ {g' : Heap}, Below x.A₀ x.base x.outer g' → c.B.h.StaysIn g' := fun B => by rw [F.atB]; exact B.stays
      refine (allB TK FO D.body x' FR (fun q => hquiet (hq q)) htame (fun _ => rfl)).1 body hbody x.fz { s with heap := h₁, toks := s.toks + ((D.slots.take D.nargs).zip ys).length } imm own ι σ _ _ _ _ PassesOwn.leaving X₁ HL ?_
      revert h
      cases execB Φ D.body (vs.map some ++ List.replicate (D.slots.length - D.nargs) Option.none) σ with
      | stuck => exact fun h => h
      | exn b k ρ₁ σ₁ =>
        intro h e s' T
        cases b with
        | false =>
          obtain ⟨m₁, imm₁, ι₁, h₁', tk₁, hx₁, hl₁, ⟨h₂, tk₂, rfl⟩, C, g₂, imm', own', ι', hC, G₂, hx₂, nd, ow, G', t, us, F₂, R, U⟩ := T
          exact leave_onS G₂.2.1 F₂ R U fun h₃ R₃ _ U₃ => h e _ (thrown_up (P := P) F X FG G₂.1 hC (hx₁.trans hx₂) nd ow R₃ U₃)
        | true =>
          obtain ⟨m₁, imm', own', ι', h₁', us, C, h₂, tk₂, hx₁, hC, X₂, hmade, rfl⟩ := T
          exact leave_raiseS X₂.gd.2.1 hmade X₂.fr X₂.news (fun h₃ t R₃ _ U₃ => h e _ (thrown_up (P := P) F X FG X₂.gd.1 hC hx₁ X₂.nd X₂.owned R₃ U₃)) hkind
      | ok fl σ₁ =>
        intro h fy h₂ tk₂ m₂ imm₂ own₂ ι₂ hx₂ X₂ hf₂
        cases hf₂ with
        | next hl₂ =>
          refine leaveS_r X₂.fr X₂.news X₂.gd.1 fun h₀' T₃ F₃ N₃ B₃ K₃ P₃ D₃ => ?_
          exact h _ h₂ tk₂ imm₂ own₂ ι₂ hx₂ ⟨h₀', ⟨T₃, B₃, D₃⟩, F₃, N₃, X₂.nd, X₂.owned, stay B₃⟩ .none
        | brk hl₂ => exact h.elim
        | cont hl₂ => exact h.elim
        | ret hr₂ =>
          refine leaveS_r X₂.fr X₂.news X₂.gd.1 fun h₀' T₃ F₃ N₃ B₃ K₃ P₃ D₃ => ?_
          exact h _ h₂ tk₂ imm₂ own₂ ι₂ hx₂ ⟨h₀', ⟨T₃, B₃, D₃⟩, F₃, N₃, X₂.nd, X₂.owned, stay B₃⟩ hr₂
  · exact h.elim
end Mine
set_option maxRecDepth 100000
set_option linter.unusedVariables false
set_option linter.unusedSectionVars false
namespace Mine
open PySem PySem.W PyProof.Rows PySem.Calls

/-- what the written part says of the classes -/
structure ClsOK (c : Cx) (P : Prog) : Prop where
  classes : c.Z.classes = P.classes
  make : ∀ (k : Nat) (C : Addr) (f : Nat), P.classes[k]? = some (C, f) → ∃ D, P.fns.lookup f = some D ∧ makesIn c.K C = true ∧ findIn c.K (.ref C) "__init__" = some (some (.ref D.addr)) ∧ isFn c.K (.ref D.addr) = true
  meth : ∀ k f, (k, f) ∈ P.meths → ∃ C g D x, P.classes[k]? = some (C, g) ∧ P.fns.lookup f = some D ∧ c.M f = some x ∧ x ∉ c.Z.attrs ∧ plainGet c.K C x = true ∧ findIn c.K (.ref C) x = some (some (.ref D.addr)) ∧ isFn c.K (.ref D.addr) = true ∧ keepIn c.K (.ref D.addr) = true
  attr : ∀ k j, (k, j) ∈ P.attrs → ∃ C g x a, P.classes[k]? = some (C, g) ∧ c.Z.attrs[j]? = some x ∧ plainGet c.K C x = true ∧ hasDictIn c.K C = true ∧ findIn c.K (.ref C) x = some a ∧ noGet c.K a = true ∧
    findIn c.K (.ref C) "__setattr__" = some (some (.builtin "object.__setattr__")) ∧ plainOver c.K C = true ∧ takerIn c.K C x = some none

theorem FnOK.mono {c : Cx} {d d' : Nat} {D : Fn} {φ : List V → Store → R V} (h : FnOK c d D φ) (hd : d ≤ d') : FnOK c d' D φ :=
  fun x m s imm own ι σ vs ys Q F hq X hr hp => h x m s imm own ι σ vs ys Q (F.less hd) hq X hr hp

theorem fns_ok {c : Cx} {P : Prog} (TK : TopOk c P) (CL : ClsOK c P) (hat : ∀ f D, P.fns.lookup f = some D → FnAt c P D) : ∀ n, FnsOK c P (2 * n) (pre P n) := by
  intro n
  have rest : ∀ Ψ, (∀ f vs σ, Ψ f vs σ ≠ R.stuck → ∃ D, P.fns.lookup f = some D ∧ FnOK c (2 * n) D (Ψ f)) → FnsOK c P (2 * n) (mkFns P Ψ) := by
    intro Ψ hΨ
    refine ⟨hΨ, fun k f hi => ?_, fun k C f h => CL.make k C f (CL.classes ▸ h), fun k f hm => ?_, fun k j hm => ?_⟩
    · simp only [mkFns, Option.map_eq_some_iff] at hi
      obtain ⟨⟨C, g⟩, h1, rfl⟩ := hi
      exact ⟨C, by rw [CL.classes]; exact h1⟩
    · have := CL.meth k f (by simpa [mkFns] using hm)
      rw [← CL.classes] at this
      exact this
    · have := CL.attr k j (by simpa [mkFns] using hm)
      rw [← CL.classes] at this
      exact this
  refine rest _ ?_
  induction n with
  | zero => intro f vs σ h; exact absurd rfl h
  | succ n ih =>
    have FO : FnsOK c P (2 * n) (pre P n) := by
      refine ⟨ih ?_, fun k f hi => ?_, fun k C f h => CL.make k C f (CL.classes ▸ h), fun k f hm => ?_, fun k j hm => ?_⟩
      · intro Ψ hΨ
        refine ⟨hΨ, fun k f hi => ?_, fun k C f h => CL.make k C f (CL.classes ▸ h), fun k f hm => ?_, fun k j hm => ?_⟩
        · simp only [mkFns, Option.map_eq_some_iff] at hi
          obtain ⟨⟨C, g⟩, h1, rfl⟩ := hi
          exact ⟨C, by rw [CL.classes]; exact h1⟩
        · have := CL.meth k f (by simpa [mkFns] using hm)
          rw [← CL.classes] at this
          exact this
        · have := CL.attr k j (by simpa [mkFns] using hm)
          rw [← CL.classes] at this
          exact this
      · simp only [pre, mkFns, Option.map_eq_some_iff] at hi
        obtain ⟨⟨C, g⟩, h1, rfl⟩ := hi
        exact ⟨C, by rw [CL.classes]; exact h1⟩
      · have := CL.meth k f (by simpa [pre, mkFns] using hm)
        rw [← CL.classes] at this
        exact this
      · have := CL.attr k j (by simpa [pre, mkFns] using hm)
        rw [← CL.classes] at this
        exact this
    intro f vs σ h
    by_cases hlt : f < n
    · have e : upTo P (n + 1) f = upTo P n f := by
        funext vs σ
        rw [upTo, if_pos hlt]
      rw [e] at h ⊢
      obtain ⟨D, hD, hf⟩ := FO.fn f vs σ h
      exact ⟨D, hD, hf.mono (by omega)⟩
    · by_cases he : f = n
      · subst he
        cases hl : P.fns.lookup f with
        | none => exact absurd (by rw [upTo, if_neg hlt, if_pos rfl, hl]) h
        | some D =>
          have e : upTo P (f + 1) f = callFn (pre P f) D := by
            funext vs σ
            rw [upTo, if_neg hlt, if_pos rfl, hl]; rfl
          rw [e]
          exact ⟨D, rfl, (fn_ok TK FO (hat f D hl)).mono (by omega)⟩
      · exact absurd (by rw [upTo, if_neg hlt, if_neg he]) h

/-- the law's own frame -/
theorem run_law {c : Cx} {P : Prog} {n : Nat} (TK : TopOk c P) (CL : ClsOK c P) (hat : ∀ f D, P.fns.lookup f = some D → FnAt c P D) {s₁ : Shared} {h₁ : Heap} {tk : Nat} {qual : Str} {scope : Scope} {a : Addr} {cd : Value} {body : List Stmt} {l : Addr} {vs : List Value} {ns : List Int} {m₀ : Str → Option Value}
    {S : List Str} {z : Str} {b : List MS} {σ' : Store} {Q : Flow → Shared → Prop} {E : Value → Shared → Prop} (hB : c.B.h = s₁.heap) (T : Top c.p c.loose c.mean c.mg c.mb s₁.heap) (KX : c.K.In s₁.heap) (K0 : Below callerA s₁.heap [] s₁.heap) (F : Fr s₁.heap s₁.heap.objs.size h₁ m₀)
    (hm : m₀ z = some (.ref l)) (hL : s₁.heap.IsList l vs.toArray) (hI : IntsAre vs ns) (hz : S[0]? = some z) (hkind : scope.kind = .function) (hloc : ∀ y ∈ S, scope.names.lookup y = some .local) (hnd : S.Nodup) (hgen : scope.isGenerator = false) (hco : scope.isCoroutine = false)
    (htree : c.prog.given.tree = none) (himp : importsNone c.p = true) (htame : tameB P b = true) (hbody : mss c.T (fun y => scope.names.lookup y == some .globalImplicit) S c.M b body = true) (hn : 2 * n + 1 < 200)
    (res : execB (pre P n) b (some (.lst (ns.map .int)) :: List.replicate (S.length - 1) Option.none) [] = .ok (.ret (.bool true)) σ')
    (hQ : ∀ h' tk m', Fr s₁.heap s₁.heap.objs.size h' m' → Q (.ret (.bool true)) { s₁ with heap := h', toks := tk }) :
    wpAny (model c.prog c.w) (callerA.deeper (envOf qual scope s₁.heap.objs.size a cd)) (execs body (envOf qual scope s₁.heap.objs.size a cd)) Q E { s₁ with heap := h₁, toks := tk } := by
  let x : Fx := { qual := qual, scope := scope, S := S, L := s₁.heap.objs.size, f := a, cd := cd, h₀ := s₁.heap, base := s₁.heap, outer := [], A := callerA.deeper (envOf qual scope s₁.heap.objs.size a cd), A₀ := callerA, fz := [] }
  have FR : Frm c x (2 * n + 1) := by
    refine ⟨KX, T, hB, himp, rfl, fun _ => rfl, hkind, hloc, hnd, ?_, ?_, htree, hgen, hco⟩
    · show callerA.depth + 1 + (2 * n + 1) + 120 < recursionLimit
      have : callerA.depth = 301 := rfl
      rw [this]
      simp only [recursionLimit]
      omega
    · show callerA.units + 3 + 8 * (2 * n + 1) + 200 < cLine
      have : callerA.units ≤ 100 := by decide
      simp only [cLine]
      omega
  have X₁ : St c.Z c.B (Gnd x) s₁.heap.objs.size [] h₁ m₀ [] [] [] [] := ⟨s₁.heap, ⟨KtsTurn.refl, K0, ktsDicts_nil⟩, F, News.nil, by simp, .nil, by rw [hB]; exact fun _ _ e => e⟩
  refine wpAny_noRaise ?_
  refine (allB TK (fns_ok TK CL hat n) b x FR (fun q => Bool.noConfusion q) htame (fun _ => rfl)).1 body hbody [] _ [] [] [] [] (some (.lst (ns.map .int)) :: List.replicate (S.length - 1) Option.none) m₀ Q _ PassesOwn.never X₁ ?_ ?_
  · intro i y v hy hv
    cases i with
    | zero =>
      simp at hv
      subst hv
      have : S[0]? = some y := hy
      rw [hz] at this; cases this
      exact ⟨_, hm, .base (by rw [hB]; exact hL) (are_ints hI)⟩
    | succ i =>
      simp only [List.getElem?_cons_succ, List.getElem?_replicate] at hv
      split at hv <;> simp at hv
  · rw [res]
    intro fy h' tk' m' imm' own' ι' hx X' hf
    cases hf with
    | ret hr =>
      obtain rfl := inv_bool hr
      have T' := X'.gd.1
      exact hQ h' tk' m' ⟨X'.fr.ns, fun b o e => X'.fr.keep b o (T'.other b o e fun q => nomatch q), Nat.le_refl _⟩
end Mine
set_option maxRecDepth 100000
set_option linter.unusedVariables false
namespace Mine
open PySem PySem.W PyProof.Rows PySem.Calls

noncomputable def fragOf (as : List Addr) (h : Heap) : Frag := as.filterMap fun a => (h.get? a).map fun o => (a, o)
theorem look_mem {α β : Type} [BEq α] [LawfulBEq α] : ∀ {l : List (α × β)} {a : α} {b : β}, l.lookup a = some b → (a, b) ∈ l
  | [], _, _, h => by cases h
  | (x, y) :: l, a, b, h => by
    rw [List.lookup_cons] at h
    split at h
    · rename_i e
      cases h
      rw [beq_iff_eq.mp e]
      exact .head _
    · exact .tail _ (look_mem h)
theorem fragOf_in {as : List Addr} {h : Heap} : (fragOf as h).In h := by
  intro a o e
  obtain ⟨b, _, hb⟩ := List.mem_filterMap.mp (look_mem e)
  obtain ⟨o', h1, h2⟩ := Option.map_eq_some_iff.mp hb
  cases h2
  exact h1

/-- plain parameters -/
noncomputable def plainArgs (p : Arguments) (xs : List Str) : Bool := p.posonlyargs.isEmpty && p.kwonlyargs.isEmpty && p.vararg.isNone && p.kwarg.isNone && decide (p.args.map (·.arg) = xs)
theorem zip_find : ∀ {xs : List Str} {ys : List Value}, xs.Nodup → ys.length = xs.length → ∀ x ∈ xs, ∃ y, (xs.zip ys).lookup x = some y
  | [], _, _, _, _, h => by cases h
  | a :: xs, [], _, e, _, _ => by simp at e
  | a :: xs, b :: ys, n, e, x, h => by
    rw [List.zip_cons_cons, List.lookup_cons]
    by_cases q : x = a
    · subst q; exact ⟨b, by simp⟩
    · have : (x == a) = false := beq_eq_false_iff_ne.mpr q
      rw [this]
      exact zip_find (List.nodup_cons.mp n).2 (by simpa using e) x ((List.mem_cons.mp h).resolve_left q)
theorem fm_congr {α β : Type} {f g : α → Option β} : ∀ {l : List α}, (∀ x ∈ l, f x = g x) → l.filterMap f = l.filterMap g
  | [], _ => rfl
  | a :: l, h => by rw [List.filterMap_cons, List.filterMap_cons, h a (.head _), fm_congr fun x hx => h x (.tail _ hx)]
theorem zip_all : ∀ {xs : List Str} {ys : List Value}, xs.Nodup → ys.length = xs.length → xs.filterMap (fun n => ((xs.zip ys).lookup n).map (n, ·)) = xs.zip ys
  | [], _, _, _ => rfl
  | a :: xs, [], _, e => by simp at e
  | a :: xs, b :: ys, n, e => by
    obtain ⟨na, n'⟩ := List.nodup_cons.mp n
    have ih := zip_all n' (by simpa using e : ys.length = xs.length)
    rw [List.filterMap_cons, List.zip_cons_cons]
    have e1 : ((a, b) :: xs.zip ys).lookup a = some b := by simp
    rw [e1]
    simp only [Option.map_some]
    congr 1
    refine Eq.trans (fm_congr fun x hx => ?_) ih
    have : (x == a) = false := beq_eq_false_iff_ne.mpr fun q => na (q ▸ hx)
    rw [List.lookup_cons, this]
theorem pure_to {α β : Type} (a : α) (f : α → Sem β) : (pure a >>= f : Sem β) = f a := rfl
theorem stand_none : notAStandIn Value.none = pure () := rfl
theorem binds_plain {s : Shared} {name qual : Str} {params : Arguments} {body : List Stmt} {scope : Scope} {kV doc pm : Value} {an : Option Addr} {cdv ct : Value} {xs : List Str} {ys : List Value} (hp : plainArgs params xs = true) (hn : xs.Nodup) (hl : ys.length = xs.length) :
    BindsTo s (fnOf name qual params body scope .none kV doc pm an cdv ct) ⟨ys, []⟩ (xs.zip ys) := by
  refine BindsTo.of_eq ?_
  obtain ⟨po, ar, va, ko, kd, kw, df⟩ := params
  simp only [plainArgs, Bool.and_eq_true, List.isEmpty_iff, Option.isNone_iff_eq_none, decide_eq_true_eq] at hp
  obtain ⟨⟨⟨⟨rfl, rfl⟩, rfl⟩, rfl⟩, hx⟩ := hp
  have m0 : xs.filter (fun n => ((xs.zip ys).lookup n).isNone) = [] := by
    rw [List.filter_eq_nil_iff]
    intro x h
    obtain ⟨y, e⟩ := zip_find hn hl x h
    simp [e]
  have z := zip_all hn hl
  unfold bindArgs
  simp only [List.map_nil, List.nil_append, hx, List.append_nil, hl, seqItems?, Nat.lt_irrefl, gt_iff_lt, decide_false, Bool.false_and, Bool.false_eq_true, if_false, List.forIn_nil, pure_to, stand_none, Option.getD, List.drop_nil, List.length_nil, Nat.sub_zero, List.take_length, m0, List.isEmpty_nil, Bool.not_true, z, List.zip_nil_right]

noncomputable def chkFn (T : Tops) (M : Nat → Option Str) (K : Frag) (D : Fn) : Bool := match K.lookup D.addr with
  | some o => (match o.data with
    | .func fd => (match fd.body with
      | .stmts body => fd.globals == mainGlobals && (fd.closure.isEmpty && (fd.builtins == builtinsNs && (codeIn K fd.code fd.qualname && (plainArgs fd.params (D.slots.take D.nargs) && (decide (fd.defaults = .none) &&
          (D.slots.all (fun y => decide (fd.scope.names.lookup y = some .local)) && (decide D.slots.Nodup && (decide (D.nargs ≤ D.slots.length) && (!fd.scope.isCoroutine && (!fd.scope.isGenerator && (decide (fd.scope.kind = .function) &&
          (fd.scope.names.all (fun q => decide (q.2 ≠ .cell)) && mss T (fun y => fd.scope.names.lookup y == some .globalImplicit) D.slots M D.body body))))))))))))
      | _ => false)
    | _ => false)
  | none => false
theorem fnAt_of {c : Cx} {P : Prog} {D : Fn} (h0 : (tameB P D.body && (!D.quiet || quietB P D.body)) = true) (h : chkFn c.T c.M c.K D = true) : FnAt c P D := by
  obtain ⟨t1, t2⟩ := and_inv h0
  have t3 : D.quiet = true → quietB P D.body = true := fun q => by rw [q] at t2; exact t2
  clear h0 t2
  unfold chkFn at h
  cases hk : c.K.lookup D.addr with
  | none => rw [hk] at h; cases h
  | some o =>
    rw [hk] at h
    obtain ⟨oc, od, dt, osl⟩ := o
    cases dt with
    | func fd =>
      obtain ⟨name, qual, params, bd, scope, g, cl, dV, kV, doc, pm, an, cdv, ct, bi⟩ := fd
      cases bd with
      | stmts body =>
        simp only [Bool.and_eq_true, decide_eq_true_eq, beq_iff_eq, List.isEmpty_iff, Bool.not_eq_true', List.all_eq_true] at h
        obtain ⟨rfl, rfl, rfl, h4, h5, rfl, h7, h8, h9, h10, h11, h12, h13, h14⟩ := h
        refine .mk t1 t3 oc od name qual params body scope .none kV doc pm an cdv ct osl hk h4 (fun s ys e => ?_) h7 h8 h9 h10 h11 h12 h13 h14
        exact binds_plain h5 (h8.sublist (List.take_sublist _ _)) (by rw [e, List.length_take, Nat.min_eq_left h9])
      | _ => cases h
    | _ => cases h

noncomputable def chkX (T : Tops) (K : Frag) (k : Nat) (y : Str) (C : Addr) : Bool :=
  decide (nsIn K mainGlobals y = some (some (.ref C))) && (excIn K C [.type "ValueError", .type "Exception", .type "BaseException", .type "object"] "ValueError.__new__" &&
  (T.xs.zipIdx.all (fun r => decide (exmOne K (.ref C) (.ref r.1.2) = some (subX k r.2)) && decide (kitOne K (.ref C) (.ref r.1.2) = some (subX k r.2))) &&
  (decide (kitOne K (.ref C) (.type "ValueError") = some true) && ((clsIn K C).isSome && (xget K C && (decide (findIn K (.ref C) "__class__" = some (some (.builtin "object.__class__"))) &&
  (decide (specialIn K (.builtin "object.__class__") "__get__" = some (some (.builtin "getset_descriptor.__get__"))) && (decide (takesIn K (.builtin "object.__class__") = some true) && decide (mroIn K C (.type "object") = some true)))))))))
theorem zip_at {α : Type} {l : List α} {k : Nat} {a : α} (h : l[k]? = some a) : (a, k) ∈ l.zipIdx := by
  rw [List.mem_zipIdx_iff_getElem?]; exact h
theorem excAt_of {c : Cx} {k : Nat} {y : Str} {C : Addr} (h : chkX c.T c.K k y C = true) : ExcAt c k y C := by
  obtain ⟨h1, h⟩ := and_inv h
  obtain ⟨h2, h⟩ := and_inv h
  obtain ⟨h3, h⟩ := and_inv h
  obtain ⟨h4, h⟩ := and_inv h
  obtain ⟨h5, h⟩ := and_inv h
  obtain ⟨h6, h⟩ := and_inv h
  obtain ⟨h7, h⟩ := and_inv h
  obtain ⟨h8, h⟩ := and_inv h
  obtain ⟨h9, h⟩ := and_inv h
  exact ⟨of_decide_eq_true h1, h2, fun j z D e => have q := and_inv (List.all_eq_true.mp h3 ((z, D), j) (zip_at e)); ⟨of_decide_eq_true q.1, of_decide_eq_true q.2⟩, of_decide_eq_true h4, h5, h6, of_decide_eq_true h7, of_decide_eq_true h8, of_decide_eq_true h9, of_decide_eq_true h⟩
noncomputable def chkTop (P : Prog) (T : Tops) (cl : List (Addr × Nat)) (K : Frag) : Bool :=
  T.fns.all (fun q => match P.fns.lookup q.2 with | some d => decide (nsIn K mainGlobals q.1 = some (some (.ref d.addr))) && keepIn K (.ref d.addr) | none => false) &&
  (T.classes.all (fun q => match cl[q.2]? with | some r => decide (nsIn K mainGlobals q.1 = some (some (.ref r.1))) && keepIn K (.ref r.1) | none => false) &&
  (T.tint.all (fun q => match nsIn K mainGlobals q.1 with | some (some (.int k _)) => decide (k = q.2) | _ => false) &&
  (T.tstr.all (fun q => match nsIn K mainGlobals q.1 with | some (some (.str k _)) => decide (k = q.2) | _ => false) &&
  ((["len", "max", "min", "sorted", "sum", "int", "str", "list", "range", "isinstance", "bool", "tuple", "ValueError"] : List Str).all (fun x => decide (nsIn K mainGlobals x = some none)) &&
  T.xs.zipIdx.all fun r => chkX T K r.2 r.1.1 r.1.2))))
theorem topOk_of {c : Cx} {P : Prog} (hz : c.Z.attrs = c.T.attrs) (hy : c.B.xs = c.T.xs.map (·.2)) (h : chkTop P c.T c.Z.classes c.K = true) : TopOk c P := by
  unfold chkTop at h
  simp only [Bool.and_eq_true, List.all_eq_true] at h
  obtain ⟨h1, h2, h3, h4, h5, h6⟩ := h
  refine ⟨fun x f e => ?_, hz, hy, fun k y C e => excAt_of (h6 ((y, C), k) (zip_at e)), fun x k e => ?_, fun x k e => ?_, fun x k e => ?_, fun x m => of_decide_eq_true (h5 x m)⟩
  · have := h1 _ (look_mem e)
    dsimp only at this
    cases hl : P.fns.lookup f with
    | none => rw [hl] at this; cases this
    | some d =>
      rw [hl] at this
      simp only [Bool.and_eq_true, decide_eq_true_eq] at this
      exact ⟨d, rfl, this.1, this.2⟩
  · have := h2 _ (look_mem e)
    dsimp only at this
    cases hl : c.Z.classes[k]? with
    | none => rw [hl] at this; cases this
    | some d =>
      rw [hl] at this
      simp only [Bool.and_eq_true, decide_eq_true_eq] at this
      exact ⟨d.1, d.2, rfl, this.1, this.2⟩
  · have := h3 _ (look_mem e)
    dsimp only at this
    split at this
    · rename_i k' t' hn
      cases of_decide_eq_true this
      exact ⟨_, hn⟩
    · cases this
  · have := h4 _ (look_mem e)
    dsimp only at this
    split at this
    · rename_i k' t' hn
      cases of_decide_eq_true this
      exact ⟨_, hn⟩
    · cases this

noncomputable def chkCls (P : Prog) (M : Nat → Option Str) (ats : List Str) (K : Frag) : Bool :=
  P.classes.all (fun q => match P.fns.lookup q.2 with | some D => makesIn K q.1 && (decide (findIn K (.ref q.1) "__init__" = some (some (.ref D.addr))) && isFn K (.ref D.addr)) | none => false) &&
  (P.meths.all (fun q => match P.classes[q.1]? with
    | some r => (match P.fns.lookup q.2 with
      | some D => (match M q.2 with
        | some x => decide (x ∉ ats) && (plainGet K r.1 x && (decide (findIn K (.ref r.1) x = some (some (.ref D.addr))) && (isFn K (.ref D.addr) && keepIn K (.ref D.addr))))
        | none => false)
      | none => false)
    | none => false) &&
  P.attrs.all (fun q => match P.classes[q.1]? with
    | some r => (match ats[q.2]? with
      | some x => (match findIn K (.ref r.1) x with
        | some a => plainGet K r.1 x && (hasDictIn K r.1 && (noGet K a && (decide (findIn K (.ref r.1) "__setattr__" = some (some (.builtin "object.__setattr__"))) && (plainOver K r.1 && decide (takerIn K r.1 x = some none)))))
        | none => false)
      | none => false)
    | none => false))
theorem clsOk_of {c : Cx} {P : Prog} (hz : c.Z.classes = P.classes) (h : chkCls P c.M c.Z.attrs c.K = true) : ClsOK c P := by
  unfold chkCls at h
  simp only [Bool.and_eq_true, List.all_eq_true] at h
  obtain ⟨h1, h2, h3⟩ := h
  refine ⟨hz, fun k C f e => ?_, fun k f m => ?_, fun k j m => ?_⟩
  · have := h1 _ (List.mem_of_getElem? e)
    dsimp only at this
    cases hl : P.fns.lookup f with
    | none => rw [hl] at this; cases this
    | some D =>
      rw [hl] at this
      simp only [Bool.and_eq_true, decide_eq_true_eq] at this
      exact ⟨D, rfl, this⟩
  · have := h2 _ m
    dsimp only at this
    cases hc : P.classes[k]? with
    | none => rw [hc] at this; cases this
    | some r =>
      rw [hc] at this
      dsimp only at this
      cases hl : P.fns.lookup f with
      | none => rw [hl] at this; cases this
      | some D =>
        rw [hl] at this
        dsimp only at this
        cases hm : c.M f with
        | none => rw [hm] at this; cases this
        | some x =>
          rw [hm] at this
          simp only [Bool.and_eq_true, decide_eq_true_eq] at this
          exact ⟨r.1, r.2, D, x, rfl, rfl, rfl, this⟩
  · have := h3 _ m
    dsimp only at this
    cases hc : P.classes[k]? with
    | none => rw [hc] at this; cases this
    | some r =>
      rw [hc] at this
      dsimp only at this
      cases hl : c.Z.attrs[j]? with
      | none => rw [hl] at this; cases this
      | some x =>
        rw [hl] at this
        dsimp only at this
        cases hm : findIn c.K (.ref r.1) x with
        | none => rw [hm] at this; cases this
        | some a =>
          rw [hm] at this
          simp only [Bool.and_eq_true, decide_eq_true_eq] at this
          obtain ⟨a1, a2, a3, a4, a5, a6⟩ := this
          exact ⟨r.1, r.2, x, a, rfl, rfl, a1, a2, hm, a3, a4, a5, a6⟩

/-- the whole look at the written part -/
noncomputable def chkAll (P : Prog) (T : Tops) (M : Nat → Option Str) (K : Frag) : Bool := chkTop P T P.classes K && (chkCls P M T.attrs K && P.fns.all fun q => (tameB P q.2.body && (!q.2.quiet || quietB P q.2.body)) && chkFn T M K q.2)
noncomputable def lawHook (P : Prog) (T : Tops) (M : Nat → Option Str) (as : List Addr) : Hook where
  α := Bool
  obs := fun s => chkAll P T M (fragOf as s.heap)
  val := fun _ => true
  says := fun _ h => ∃ K : Frag, K.In h ∧ chkAll P T M K = true
  of := fun _ _ e => ⟨_, fragOf_in, e⟩
  keeps := fun _ _ _ ⟨K, a, b⟩ k => ⟨K, fun x o e => k _ _ (a x o e), b⟩
theorem of_chk {c : Cx} {P : Prog} (h1 : c.Z.classes = P.classes) (h2 : c.Z.attrs = c.T.attrs) (h3 : c.B.xs = c.T.xs.map (·.2)) (h : chkAll P c.T c.M c.K = true) : TopOk c P ∧ ClsOK c P ∧ ∀ f D, P.fns.lookup f = some D → FnAt c P D := by
  simp only [chkAll, Bool.and_eq_true, List.all_eq_true] at h
  refine ⟨topOk_of h2 h3 (h1 ▸ h.1), clsOk_of h1 (h2 ▸ h.2.1), fun f D e => have q := h.2.2 _ (look_mem e); fnAt_of (by simpa using q.1) q.2⟩
noncomputable def picks {α : Type} (is : List Nat) (l : List α) : List α := is.filterMap fun i => l[i]?
theorem run_chk {c : Cx} {P : Prog} {n : Nat} (hz1 : c.Z.classes = P.classes) (hz2 : c.Z.attrs = c.T.attrs) (hz3 : c.B.xs = c.T.xs.map (·.2)) (CK : chkAll P c.T c.M c.K = true) {s₁ : Shared} {h₁ : Heap} {tk : Nat} {qual : Str} {scope : Scope} {a : Addr} {cd : Value} {body : List Stmt} {l : Addr} {vs : List Value} {ns : List Int} {m₀ : Str → Option Value}
    {S : List Str} {z : Str} {b : List MS} {σ' : Store} {Q : Flow → Shared → Prop} {E : Value → Shared → Prop} (hB : c.B.h = s₁.heap) (T : Top c.p c.loose c.mean c.mg c.mb s₁.heap) (KX : c.K.In s₁.heap) (K0 : Below callerA s₁.heap [] s₁.heap) (F : Fr s₁.heap s₁.heap.objs.size h₁ m₀)
    (hm : m₀ z = some (.ref l)) (hL : s₁.heap.IsList l vs.toArray) (hI : IntsAre vs ns) (hz : S[0]? = some z) (hkind : scope.kind = .function) (hloc : ∀ y ∈ S, scope.names.lookup y = some .local) (hnd : S.Nodup) (hgen : scope.isGenerator = false) (hco : scope.isCoroutine = false)
    (htree : c.prog.given.tree = none) (himp : importsNone c.p = true) (htame : tameB P b = true) (hbody : mss c.T (fun y => scope.names.lookup y == some .globalImplicit) S c.M b body = true) (hn : 2 * n + 1 < 200)
    (res : execB (pre P n) b (some (.lst (ns.map .int)) :: List.replicate (S.length - 1) Option.none) [] = .ok (.ret (.bool true)) σ')
    (hQ : ∀ h' tk m', Fr s₁.heap s₁.heap.objs.size h' m' → Q (.ret (.bool true)) { s₁ with heap := h', toks := tk }) :
    wpAny (model c.prog c.w) (callerA.deeper (envOf qual scope s₁.heap.objs.size a cd)) (execs body (envOf qual scope s₁.heap.objs.size a cd)) Q E { s₁ with heap := h₁, toks := tk } :=
  have ⟨a, b, d⟩ := of_chk hz1 hz2 hz3 CK
  run_law a b d hB T KX K0 F hm hL hI hz hkind hloc hnd hgen hco htree himp htame hbody hn res hQ
end Mine
set_option maxRecDepth 100000
set_option linter.unusedVariables false
set_option linter.unusedSimpArgs false
namespace Mine
open PySem

theorem bits64 {y : Int} (h1 : -(2 ^ 63) ≤ y) (h2 : y < 2 ^ 63) : Builtin.Int.intBits y ≤ 64 := PySem.intBits_le_64 (by omega) (by omega)
section ops
variable {σ : Store} {x y : Int}
theorem bin_add : binV σ .Add (.int x) (.int y) = some (.int (x + y)) := rfl
theorem bin_sub : binV σ .Sub (.int x) (.int y) = some (.int (x - y)) := rfl
theorem bin_mod (h : 0 < y) : binV σ .Mod (.int x) (.int y) = some (.int (x % y)) := by
  show modF x y = _
  unfold modF
  rw [if_neg (by omega), Int.fmod_eq_emod_of_nonneg _ (by omega)]
theorem bin_div (h : 0 < y) : binV σ .FloorDiv (.int x) (.int y) = some (.int (x / y)) := by
  show divF x y = _
  unfold divF
  rw [if_neg (by omega), Int.fdiv_eq_ediv_of_nonneg _ (by omega)]
theorem bin_mulr (h1 : -(2 ^ 63) ≤ y) (h2 : y < 2 ^ 63) : binV σ .Mult (.int x) (.int y) = some (.int (x * y)) := by
  show mulF x y = _
  unfold mulF
  rw [if_pos (.inl (.inr (bits64 h1 h2)))]
theorem bin_mull (h1 : -(2 ^ 63) ≤ x) (h2 : x < 2 ^ 63) : binV σ .Mult (.int x) (.int y) = some (.int (x * y)) := by
  show mulF x y = _
  unfold mulF
  rw [if_pos (.inl (.inl (bits64 h1 h2)))]
theorem cmp_lt : cmpV σ .Lt (.int x) (.int y) = some (.bool (decide (x < y))) := rfl
theorem cmp_gt : cmpV σ .Gt (.int x) (.int y) = some (.bool (decide (y < x))) := rfl
theorem cmp_ge : cmpV σ .GtE (.int x) (.int y) = some (.bool (decide (y ≤ x))) := rfl
theorem eq_ints : eqV σ (.int x) (.int y) = some (decide (x = y)) := by
  unfold eqV
  dsimp only
  rw [if_pos (⟨rfl, rfl⟩ : plain 8 (seen σ (V.int x)) = true ∧ plain 8 (seen σ (V.int y)) = true)]
  by_cases e : x = y
  · subst e
    simp
  · have e' : ¬ seen σ (V.int x) = seen σ (V.int y) := fun q => e (V.int.inj q)
    simp [e, e']
theorem cmp_eq : cmpV σ .Eq (.int x) (.int y) = some (.bool (decide (x = y))) := congrArg (Option.map V.bool) eq_ints
theorem cmp_ne : cmpV σ .NotEq (.int x) (.int y) = some (.bool (decide (x ≠ y))) := by
  have h : (!decide (x = y)) = decide (x ≠ y) := by by_cases e : x = y <;> simp [e]
  exact (congrArg (Option.map fun r => V.bool (!r)) eq_ints).trans (congrArg (fun b => some (V.bool b)) h)
theorem biV_max : biV σ .max2 [.int x, .int y] = some (.int (if x < y then y else x)) := rfl
theorem biV_min : biV σ .min2 [.int x, .int y] = some (.int (if y < x then y else x)) := rfl
variable {u v z : V} {r : List V}
theorem it_l0 : itemV σ (.lst (u :: r)) (.int 0) = some u := rfl
theorem it_l1 : itemV σ (.lst (u :: v :: r)) (.int 1) = some v := rfl
theorem it_l2 : itemV σ (.lst (u :: v :: z :: r)) (.int 2) = some z := rfl
theorem it_l3 {u' : V} : itemV σ (.lst (u :: v :: z :: u' :: r)) (.int 3) = some u' := rfl
theorem it_t3 {u' : V} : itemV σ (.tup (u :: v :: z :: u' :: r)) (.int 3) = some u' := rfl
theorem bin_lists {xs ys : List V} (h : xs.length + ys.length ≤ 1000000) : binV σ .Add (.lst xs) (.lst ys) = some (.lst (xs ++ ys)) := by
  show (if xs.length + ys.length ≤ 1000000 then some (V.lst (xs ++ ys)) else none) = _
  rw [if_pos h]
end ops

-- the defs (printed by gen.py)
noncomputable def s_l_cell_at : List Str := ["_law_script", "_law_k"]
noncomputable def b_l_cell_at : List MS := [.ite (.cmp .Lt (.var 1) (.bi .len [.var 0])) [.ret (.idx (.var 0) (.var 1))] [],
  .ret (.cint 0)]
noncomputable def s_l_whole : List Str := ["_law_found"]
noncomputable def b_l_whole : List MS := [.ret (.and [.isi (.var 0) .int, .not (.isi (.var 0) .bool)])]
-- what the defs reckon
noncomputable def cellAt (ns : List Int) (k : Nat) : Int := ns.getD k 0
noncomputable abbrev pairV (p : Int × Int) : V := .tup [.int p.1, .int p.2]
noncomputable abbrev rowV (l : List (Int × Int)) : List V := l.map pairV


/-- the program has this def under this number -/
noncomputable def Has (P : Prog) (n : Nat) (s : List Str) (k : Nat) (b : List MS) : Prop := ∃ a nm q, P.fns.lookup n = some { addr := a, name := nm, slots := s, nargs := k, body := b, quiet := q }
theorem fn_has {P : Prog} {n : Nat} {s : List Str} {k : Nat} {b : List MS} (h : Has P n s k b) (vs : List V) (σ : Store) : fn P n vs σ = callFn (pre P n) { addr := 0, name := "", slots := s, nargs := k, body := b } vs σ := by
  obtain ⟨a, nm, q, h⟩ := h
  rw [fn_def h]
  rfl
theorem callFn_ret {Φ : Fns} {a : Addr} {nm : Str} {s : List Str} {k : Nat} {b : List MS} {vs : List V} {σ σ' : Store} {v : V} (h : vs.length = k) (hr : execB Φ b (vs.map some ++ List.replicate (s.length - k) Option.none) σ = .ok (.ret v) σ') : callFn Φ { addr := a, name := nm, slots := s, nargs := k, body := b } vs σ = .ok v σ' := by
  simp only [callFn]
  rw [if_pos h, hr]
theorem step {Φ : Fns} {s : MS} {r : List MS} {ρ ρ' : Loc} {σ σ' : Store} {x : SR} (h : execS Φ s ρ σ = .ok (.next ρ') σ') (k : execB Φ r ρ' σ' = x) : execB Φ (s :: r) ρ σ = x := by
  simp only [xb_0, xb_1, h, k]
theorem ex_assign {Φ : Fns} {i : Nat} {e : ME} {ρ : Loc} {σ σ' : Store} {v : V} (h : evalE Φ ρ e σ = .ok v σ') : execS Φ (.assign i e) ρ σ = .ok (.next (ρ.set i (some v))) σ' := by
  simp only [xs_expr, xs_append, xs_assign, xs_unpack, xs_setattr, xs_setitem, xs_unpackSub, xs_unpackL, xs_ite, xs_forIn, xs_forRange, xs_forTup, xs_forStr, xs_asgMap, xs_while, xs_ret, xs_retNone, xs_brk, xs_cont, xs_pass, xs_raise, xs_try, xs_hand, h, R.on]
theorem ex_ret {Φ : Fns} {e : ME} {r : List MS} {ρ : Loc} {σ σ' : Store} {v : V} (h : evalE Φ ρ e σ = .ok v σ') : execB Φ (.ret e :: r) ρ σ = .ok (.ret v) σ' := by
  simp only [xb_0, xb_1, xs_expr, xs_append, xs_assign, xs_unpack, xs_setattr, xs_setitem, xs_unpackSub, xs_unpackL, xs_ite, xs_forIn, xs_forRange, xs_forTup, xs_forStr, xs_asgMap, xs_while, xs_ret, xs_retNone, xs_brk, xs_cont, xs_pass, xs_raise, xs_try, xs_hand, h, R.on]
theorem ex_ite {Φ : Fns} {c : ME} {a b : List MS} {ρ : Loc} {σ σ' : Store} {t : Bool} {x : SR} (h : evalE Φ ρ c σ = .ok (.bool t) σ') (k : execB Φ (if t then a else b) ρ σ' = x) : execS Φ (.ite c a b) ρ σ = x := by
  cases t <;> simpa [xs_expr, xs_append, xs_assign, xs_unpack, xs_setattr, xs_setitem, xs_unpackSub, xs_unpackL, xs_ite, xs_forIn, xs_forRange, xs_forTup, xs_forStr, xs_asgMap, xs_while, xs_ret, xs_retNone, xs_brk, xs_cont, xs_pass, xs_raise, xs_try, xs_hand, h, R.on, truth] using k
theorem if_assign {Φ : Fns} {c e : ME} {i : Nat} {ρ : Loc} {σ : Store} {b : Bool} {v w : Int} (hc : evalE Φ ρ c σ = .ok (.bool b) σ) (he : evalE Φ ρ e σ = .ok (.int v) σ) (hw : ρ[i]? = some (some (.int w))) :
    execS Φ (.ite c [.assign i e] []) ρ σ = .ok (.next (ρ.set i (some (.int (if b then v else w))))) σ := by
  cases b with
  | true => simp [xs_expr, xs_append, xs_assign, xs_unpack, xs_setattr, xs_setitem, xs_unpackSub, xs_unpackL, xs_ite, xs_forIn, xs_forRange, xs_forTup, xs_forStr, xs_asgMap, xs_while, xs_ret, xs_retNone, xs_brk, xs_cont, xs_pass, xs_raise, xs_try, xs_hand, xb_0, xb_1, hc, he, R.on, truth]
  | false =>
    simp [xs_expr, xs_append, xs_assign, xs_unpack, xs_setattr, xs_setitem, xs_unpackSub, xs_unpackL, xs_ite, xs_forIn, xs_forRange, xs_forTup, xs_forStr, xs_asgMap, xs_while, xs_ret, xs_retNone, xs_brk, xs_cont, xs_pass, xs_raise, xs_try, xs_hand, xb_0, xb_1, hc, R.on, truth]
    obtain ⟨hlt, e⟩ := List.getElem?_eq_some_iff.mp hw
    rw [← e, List.set_getElem_self]
/-- the law helpers that every law has -/
structure Base (P : Prog) : Prop where
  cell : Has P 0 s_l_cell_at 2 b_l_cell_at
  mixed : Has P 2 s_l_mixed 2 b_l_mixed
  rate : Has P 3 s_l_rate_by 1 b_l_rate_by
  row : (P.fns.lookup 4).isSome = true → Has P 4 s_l_row_by 3 b_l_row_by
noncomputable def HasWhole (P : Prog) : Prop := Has P 1 s_l_whole 1 b_l_whole
section
variable {P : Prog}
theorem F_whole (HW : HasWhole P) (i : Int) (σ : Store) : fn P 1 [.int i] σ = .ok (.bool true) σ := by
  rw [fn_has HW]
  simp [callFn, b_l_whole, s_l_whole, xb_0, xb_1, xs_expr, xs_append, xs_assign, xs_unpack, xs_setattr, xs_setitem, xs_unpackSub, xs_unpackL, xs_ite, xs_forIn, xs_forRange, xs_forTup, xs_forStr, xs_asgMap, xs_while, xs_ret, xs_retNone, xs_brk, xs_cont, xs_pass, xs_raise, xs_try, xs_hand, ee_var, ee_cint, ee_cstr, ee_cnone, ee_cbool, ee_gint, ee_gstr, ee_bin, ee_neg, ee_not, ee_and, ee_or, ee_cmp, ee_cmp2, ee_call, ee_bi, ee_copy, ee_isi, ee_make, ee_meth, ee_attr, ee_idx, ee_sliceTo, ee_sliceFrom, ee_tup, ee_lst, ee_sumAt, ee_rev, ee_strMul, ee_cat, ee_slen, ee_sidx, ee_sTo, ee_sFrom, ee_split, ee_join, ee_upper, ee_giveRepl, ee_strOf, ee_intOf, ee_notIn, ee_inT, ee_notInL, ee_minL, ee_shownL, es_0, es_1, ea_0, ea_1, R.bind, R.got, R.on, R.son, ofOpt, isiV, isI, isB, truth]
end
end Mine
set_option maxRecDepth 100000
set_option linter.unusedVariables false
set_option linter.unusedSimpArgs false
namespace Mine
open PySem

theorem step_no {Φ : Fns} {s : MS} {r : List MS} {ρ ρ' : Loc} {σ σ' : Store} {b : Bool} {k : Nat} (h : execS Φ s ρ σ = .exn b k ρ' σ') : execB Φ (s :: r) ρ σ = .exn b k ρ' σ' := by
  simp only [xb_0, xb_1, h]
theorem callFn_no {Φ : Fns} {a : Addr} {nm : Str} {s : List Str} {n : Nat} {b : List MS} {vs : List V} {σ σ' : Store} {m : Bool} {k : Nat} {ρ : Loc} (h : vs.length = n) (hr : execB Φ b (vs.map some ++ List.replicate (s.length - n) Option.none) σ = .exn m k ρ σ') : callFn Φ { addr := a, name := nm, slots := s, nargs := n, body := b } vs σ = .exn k σ' := by
  simp only [callFn]
  rw [if_pos h, hr]
theorem ex_expr_no {Φ : Fns} {e : ME} {ρ : Loc} {σ σ' : Store} {k : Nat} (h : evalE Φ ρ e σ = .exn k σ') : execS Φ (.expr e) ρ σ = .exn false k ρ σ' := by
  simp only [xs_expr, xs_append, xs_assign, xs_unpack, xs_setattr, xs_setitem, xs_unpackSub, xs_unpackL, xs_ite, xs_forIn, xs_forRange, xs_forTup, xs_forStr, xs_asgMap, xs_while, xs_ret, xs_retNone, xs_brk, xs_cont, xs_pass, xs_raise, xs_try, xs_hand, h, R.on]
theorem ex_try_no {Φ : Fns} {b hs : List MS} {ρ ρ' : Loc} {σ σ' : Store} {k : Nat} {x : SR} (h : execB Φ b ρ σ = .exn false k ρ' σ') (hk : execH Φ hs k ρ' σ' = x) : execS Φ (.try b hs) ρ σ = x := by
  simp only [xs_expr, xs_append, xs_assign, xs_unpack, xs_setattr, xs_setitem, xs_unpackSub, xs_unpackL, xs_ite, xs_forIn, xs_forRange, xs_forTup, xs_forStr, xs_asgMap, xs_while, xs_ret, xs_retNone, xs_brk, xs_cont, xs_pass, xs_raise, xs_try, xs_hand, h, hk]
theorem h_hit {Φ : Fns} {j k : Nat} {as : Option Nat} {su hs : List MS} {ρ : Loc} {σ σ' : Store} {f : Fl} (h : subX k j = true) (hr : execB Φ su (putX as k ρ) σ = .ok f σ') : execH Φ (.hand j as su :: hs) k ρ σ = .ok (endF as f) σ' := by
  simp only [xh_0, xh_9]
  rw [if_pos h, hr]
  rfl
theorem ret_step {Φ : Fns} {s : MS} {r : List MS} {ρ : Loc} {σ σ' : Store} {v : V} (h : execS Φ s ρ σ = .ok (.ret v) σ') : execB Φ (s :: r) ρ σ = .ok (.ret v) σ' := by
  simp only [xb_0, xb_1, h]
theorem ev_var {Φ : Fns} {ρ : Loc} {i : Nat} {v : V} {σ : Store} (h : ρ[i]? = some (some v)) : evalE Φ ρ (.var i) σ = .ok v σ := by simp only [ee_var, ee_cint, ee_cstr, ee_cnone, ee_cbool, ee_gint, ee_gstr, ee_bin, ee_neg, ee_not, ee_and, ee_or, ee_cmp, ee_cmp2, ee_call, ee_bi, ee_copy, ee_isi, ee_make, ee_meth, ee_attr, ee_idx, ee_sliceTo, ee_sliceFrom, ee_tup, ee_lst, ee_sumAt, ee_rev, ee_strMul, ee_cat, ee_slen, ee_sidx, ee_sTo, ee_sFrom, ee_split, ee_join, ee_upper, ee_giveRepl, ee_strOf, ee_intOf, ee_notIn, ee_inT, ee_notInL, ee_minL, ee_shownL, h]
theorem ev_int {Φ : Fns} {ρ : Loc} {k : Int} {σ : Store} : evalE Φ ρ (.cint k) σ = .ok (.int k) σ := by simp only [ee_var, ee_cint, ee_cstr, ee_cnone, ee_cbool, ee_gint, ee_gstr, ee_bin, ee_neg, ee_not, ee_and, ee_or, ee_cmp, ee_cmp2, ee_call, ee_bi, ee_copy, ee_isi, ee_make, ee_meth, ee_attr, ee_idx, ee_sliceTo, ee_sliceFrom, ee_tup, ee_lst, ee_sumAt, ee_rev, ee_strMul, ee_cat, ee_slen, ee_sidx, ee_sTo, ee_sFrom, ee_split, ee_join, ee_upper, ee_giveRepl, ee_strOf, ee_intOf, ee_notIn, ee_inT, ee_notInL, ee_minL, ee_shownL]
theorem ex_nil {Φ : Fns} {ρ : Loc} {σ : Store} : execB Φ [] ρ σ = .ok (.next ρ) σ := by simp only [xb_0, xb_1]
theorem ev_bin {Φ : Fns} {ρ : Loc} {op : Operator} {a b : ME} {σ σ₁ σ₂ : Store} {x y z : V} (ha : evalE Φ ρ a σ = .ok x σ₁) (hb : evalE Φ ρ b σ₁ = .ok y σ₂) (ho : binV σ₂ op x y = some z) : evalE Φ ρ (.bin op a b) σ = .ok z σ₂ := by
  simp only [ee_var, ee_cint, ee_cstr, ee_cnone, ee_cbool, ee_gint, ee_gstr, ee_bin, ee_neg, ee_not, ee_and, ee_or, ee_cmp, ee_cmp2, ee_call, ee_bi, ee_copy, ee_isi, ee_make, ee_meth, ee_attr, ee_idx, ee_sliceTo, ee_sliceFrom, ee_tup, ee_lst, ee_sumAt, ee_rev, ee_strMul, ee_cat, ee_slen, ee_sidx, ee_sTo, ee_sFrom, ee_split, ee_join, ee_upper, ee_giveRepl, ee_strOf, ee_intOf, ee_notIn, ee_inT, ee_notInL, ee_minL, ee_shownL, ha, hb, R.bind, ho, ofOpt]
theorem ev_idx {Φ : Fns} {ρ : Loc} {a i : ME} {σ σ₁ σ₂ : Store} {x y z : V} (ha : evalE Φ ρ a σ = .ok x σ₁) (hb : evalE Φ ρ i σ₁ = .ok y σ₂) (ho : itemV σ₂ x y = some z) : evalE Φ ρ (.idx a i) σ = .ok z σ₂ := by
  simp only [ee_var, ee_cint, ee_cstr, ee_cnone, ee_cbool, ee_gint, ee_gstr, ee_bin, ee_neg, ee_not, ee_and, ee_or, ee_cmp, ee_cmp2, ee_call, ee_bi, ee_copy, ee_isi, ee_make, ee_meth, ee_attr, ee_idx, ee_sliceTo, ee_sliceFrom, ee_tup, ee_lst, ee_sumAt, ee_rev, ee_strMul, ee_cat, ee_slen, ee_sidx, ee_sTo, ee_sFrom, ee_split, ee_join, ee_upper, ee_giveRepl, ee_strOf, ee_intOf, ee_notIn, ee_inT, ee_notInL, ee_minL, ee_shownL, ha, hb, R.bind, ho, ofOpt]
theorem evs_nil {Φ : Fns} {ρ : Loc} {σ : Store} : evalEs Φ ρ [] σ = .ok [] σ := by simp only [es_0, es_1]
theorem evs_cons {Φ : Fns} {ρ : Loc} {e : ME} {es : List ME} {σ σ₁ σ₂ : Store} {v : V} {vs : List V} (h1 : evalE Φ ρ e σ = .ok v σ₁) (h2 : evalEs Φ ρ es σ₁ = .ok vs σ₂) : evalEs Φ ρ (e :: es) σ = .ok (v :: vs) σ₂ := by
  simp only [es_0, es_1, h1, h2, R.bind]
theorem x_call {Φ : Fns} {ρ : Loc} {f : Nat} {args : List ME} {σ σ₁ : Store} {vs : List V} {r : R V} (ha : evalEs Φ ρ args σ = .ok vs σ₁) (hf : Φ.fn f vs σ₁ = r) : evalE Φ ρ (.call f args) σ = r := by
  simp only [ee_var, ee_cint, ee_cstr, ee_cnone, ee_cbool, ee_gint, ee_gstr, ee_bin, ee_neg, ee_not, ee_and, ee_or, ee_cmp, ee_cmp2, ee_call, ee_bi, ee_copy, ee_isi, ee_make, ee_meth, ee_attr, ee_idx, ee_sliceTo, ee_sliceFrom, ee_tup, ee_lst, ee_sumAt, ee_rev, ee_strMul, ee_cat, ee_slen, ee_sidx, ee_sTo, ee_sFrom, ee_split, ee_join, ee_upper, ee_giveRepl, ee_strOf, ee_intOf, ee_notIn, ee_inT, ee_notInL, ee_minL, ee_shownL, ha, R.bind]; exact hf

theorem ev_cmp {Φ : Fns} {ρ : Loc} {op : CmpOp} {a b : ME} {σ σ₁ σ₂ : Store} {x y z : V} (ha : evalE Φ ρ a σ = .ok x σ₁) (hb : evalE Φ ρ b σ₁ = .ok y σ₂) (ho : cmpV σ₂ op x y = some z) : evalE Φ ρ (.cmp op a b) σ = .ok z σ₂ := by
  simp only [ee_var, ee_cint, ee_cstr, ee_cnone, ee_cbool, ee_gint, ee_gstr, ee_bin, ee_neg, ee_not, ee_and, ee_or, ee_cmp, ee_cmp2, ee_call, ee_bi, ee_copy, ee_isi, ee_make, ee_meth, ee_attr, ee_idx, ee_sliceTo, ee_sliceFrom, ee_tup, ee_lst, ee_sumAt, ee_rev, ee_strMul, ee_cat, ee_slen, ee_sidx, ee_sTo, ee_sFrom, ee_split, ee_join, ee_upper, ee_giveRepl, ee_strOf, ee_intOf, ee_notIn, ee_inT, ee_notInL, ee_minL, ee_shownL, ha, hb, R.bind, ho, ofOpt]
section
variable {P : Prog}
end
end Mine
set_option maxRecDepth 100000
set_option linter.unusedVariables false
set_option linter.unusedSimpArgs false
namespace Mine
open PySem

noncomputable abbrev Asc (l : List (Int × Int)) : Prop := l.Pairwise fun p q => p.1 < q.1
noncomputable abbrev RateOk (l : List (Int × Int)) : Prop := ∀ p ∈ l, 0 ≤ p.2 ∧ p.2 ≤ 100000

section
variable {P : Prog}
end

section
variable {P : Prog}
end

-- the plain laws of the sums
-- the row of a law
end Mine
set_option maxRecDepth 100000
set_option linter.unusedVariables false
set_option linter.unusedSimpArgs false
namespace Mine
open PySem

structure HasLoan (P : Prog) : Prop where
  rate : Has P 20 s_sure_rate 1 b_sure_rate
  rowDay : Has P 21 s_sure_row_day 2 b_sure_row_day
  checked : Has P 22 s_checked 1 b_checked
  grown : Has P 19 s_grown 3 b_grown
  init : Has P 23 s_Loan_init 3 b_Loan_init
  stand : Has P 24 s_Loan_stand 2 b_Loan_stand
  cls : ∃ C, P.classes = [(C, 23)]
  attrs : P.attrs = [(0, 0), (0, 1), (0, 2), (0, 3)]
  mstand : (0, 24) ∈ P.meths
structure HasPay (P : Prog) : Prop where
  owed : Has P 25 s_Loan_owed 2 b_Loan_owed
  pay : Has P 26 s_Loan_pay 3 b_Loan_pay
  change : Has P 27 s_Loan_change 3 b_Loan_change
  mowed : (0, 25) ∈ P.meths
  mpay : (0, 26) ∈ P.meths
  mchange : (0, 27) ∈ P.meths

section
variable {P : Prog}
/-- a row of rates that a loan takes: a: the day ahead of it -/
noncomputable def RowOk : Int → List (Int × Int) → Prop
  | _, [] => True
  | a, p :: r => 0 ≤ p.1 ∧ p.1 ≤ 100000 ∧ a < p.1 ∧ (a < 0 → p.1 = 0) ∧ 0 ≤ p.2 ∧ p.2 ≤ 100000 ∧ RowOk p.1 r
noncomputable abbrev loanF (r : Nat) (left begun day : Int) : List (Nat × V) := [(0, .loc r), (1, .int left), (2, .int begun), (3, .int day)]
/-- a loan in the store -/
structure Lo (σ : Store) (i r : Nat) (row : List (Int × Int)) (left begun day : Int) : Prop where
  obj : σ[i]? = some (.inst 0 (loanF r left begun day))
  lst : σ[r]? = some (.list (rowV row))
/-- what the loan must be that it can be asked -/
structure Fit (row : List (Int × Int)) (left : Int) : Prop where
  asc : Asc row
  rate : RateOk row
  len : row.length ≤ 90000
  lo : -(2 ^ 63) ≤ left
  hi : left < 2 ^ 63
section
variable {σ : Store} {i r : Nat} {row : List (Int × Int)} {left begun day : Int}
end
end
end Mine
set_option maxRecDepth 100000
set_option linter.unusedVariables false
set_option linter.unusedSimpArgs false
namespace Mine
open PySem

section
variable {P : Prog}
end
end Mine
set_option maxRecDepth 100000
set_option linter.unusedVariables false
set_option linter.unusedSimpArgs false
namespace Mine
open PySem

theorem ex_raise {Φ : Fns} {x : Str} {k : Nat} {m : Str} {r : List MS} {ρ : Loc} {σ : Store} : execB Φ (.raise x k m :: r) ρ σ = .exn true k ρ σ := by simp only [xb_0, xb_1, xs_expr, xs_append, xs_assign, xs_unpack, xs_setattr, xs_setitem, xs_unpackSub, xs_unpackL, xs_ite, xs_forIn, xs_forRange, xs_forTup, xs_forStr, xs_asgMap, xs_while, xs_ret, xs_retNone, xs_brk, xs_cont, xs_pass, xs_raise, xs_try, xs_hand]
theorem ev1 {Φ : Fns} {ρ : Loc} {e : ME} {σ : Store} {v : V} (h : evalE Φ ρ e σ = .ok v σ) : evalEs Φ ρ [e] σ = .ok [v] σ := evs_cons h evs_nil
theorem ev2 {Φ : Fns} {ρ : Loc} {e f : ME} {σ : Store} {v w : V} (h : evalE Φ ρ e σ = .ok v σ) (h' : evalE Φ ρ f σ = .ok w σ) : evalEs Φ ρ [e, f] σ = .ok [v, w] σ := evs_cons h (ev1 h')
theorem ev3 {Φ : Fns} {ρ : Loc} {e f g : ME} {σ : Store} {v w z : V} (h : evalE Φ ρ e σ = .ok v σ) (h' : evalE Φ ρ f σ = .ok w σ) (h'' : evalE Φ ρ g σ = .ok z σ) : evalEs Φ ρ [e, f, g] σ = .ok [v, w, z] σ := evs_cons h (ev2 h' h'')
theorem or_tt {Φ : Fns} {ρ : Loc} {a b : ME} {σ : Store} {p q : Bool} (h1 : evalE Φ ρ a σ = .ok (.bool p) σ) (h2 : p = false → evalE Φ ρ b σ = .ok (.bool q) σ) : evalE Φ ρ (.or [a, b]) σ = .ok (.bool (p || q)) σ := by
  cases p with
  | true => simp only [ee_var, ee_cint, ee_cstr, ee_cnone, ee_cbool, ee_gint, ee_gstr, ee_bin, ee_neg, ee_not, ee_and, ee_or, ee_cmp, ee_cmp2, ee_call, ee_bi, ee_copy, ee_isi, ee_make, ee_meth, ee_attr, ee_idx, ee_sliceTo, ee_sliceFrom, ee_tup, ee_lst, ee_sumAt, ee_rev, ee_strMul, ee_cat, ee_slen, ee_sidx, ee_sTo, ee_sFrom, ee_split, ee_join, ee_upper, ee_giveRepl, ee_strOf, ee_intOf, ee_notIn, ee_inT, ee_notInL, ee_minL, ee_shownL, eo_0, eo_1, h1, R.bind, truth, ofOpt, if_true, Bool.true_or]
  | false => simp only [ee_var, ee_cint, ee_cstr, ee_cnone, ee_cbool, ee_gint, ee_gstr, ee_bin, ee_neg, ee_not, ee_and, ee_or, ee_cmp, ee_cmp2, ee_call, ee_bi, ee_copy, ee_isi, ee_make, ee_meth, ee_attr, ee_idx, ee_sliceTo, ee_sliceFrom, ee_tup, ee_lst, ee_sumAt, ee_rev, ee_strMul, ee_cat, ee_slen, ee_sidx, ee_sTo, ee_sFrom, ee_split, ee_join, ee_upper, ee_giveRepl, ee_strOf, ee_intOf, ee_notIn, ee_inT, ee_notInL, ee_minL, ee_shownL, eo_0, eo_1, h1, h2 rfl, R.bind, truth, ofOpt, Bool.false_eq_true, if_false, Bool.false_or]
theorem and_tt {Φ : Fns} {ρ : Loc} {a b : ME} {σ : Store} {p q : Bool} (h1 : evalE Φ ρ a σ = .ok (.bool p) σ) (h2 : p = true → evalE Φ ρ b σ = .ok (.bool q) σ) : evalE Φ ρ (.and [a, b]) σ = .ok (.bool (p && q)) σ := by
  cases p with
  | true => simp only [ee_var, ee_cint, ee_cstr, ee_cnone, ee_cbool, ee_gint, ee_gstr, ee_bin, ee_neg, ee_not, ee_and, ee_or, ee_cmp, ee_cmp2, ee_call, ee_bi, ee_copy, ee_isi, ee_make, ee_meth, ee_attr, ee_idx, ee_sliceTo, ee_sliceFrom, ee_tup, ee_lst, ee_sumAt, ee_rev, ee_strMul, ee_cat, ee_slen, ee_sidx, ee_sTo, ee_sFrom, ee_split, ee_join, ee_upper, ee_giveRepl, ee_strOf, ee_intOf, ee_notIn, ee_inT, ee_notInL, ee_minL, ee_shownL, ea_0, ea_1, h1, h2 rfl, R.bind, truth, ofOpt, if_true, Bool.true_and]
  | false => simp only [ee_var, ee_cint, ee_cstr, ee_cnone, ee_cbool, ee_gint, ee_gstr, ee_bin, ee_neg, ee_not, ee_and, ee_or, ee_cmp, ee_cmp2, ee_call, ee_bi, ee_copy, ee_isi, ee_make, ee_meth, ee_attr, ee_idx, ee_sliceTo, ee_sliceFrom, ee_tup, ee_lst, ee_sumAt, ee_rev, ee_strMul, ee_cat, ee_slen, ee_sidx, ee_sTo, ee_sFrom, ee_split, ee_join, ee_upper, ee_giveRepl, ee_strOf, ee_intOf, ee_notIn, ee_inT, ee_notInL, ee_minL, ee_shownL, ea_0, ea_1, h1, R.bind, truth, ofOpt, Bool.false_eq_true, if_false, Bool.false_and]
theorem not_tt {Φ : Fns} {ρ : Loc} {a : ME} {σ : Store} {p : Bool} (h1 : evalE Φ ρ a σ = .ok (.bool p) σ) : evalE Φ ρ (.not a) σ = .ok (.bool (!p)) σ := by
  simp only [ee_var, ee_cint, ee_cstr, ee_cnone, ee_cbool, ee_gint, ee_gstr, ee_bin, ee_neg, ee_not, ee_and, ee_or, ee_cmp, ee_cmp2, ee_call, ee_bi, ee_copy, ee_isi, ee_make, ee_meth, ee_attr, ee_idx, ee_sliceTo, ee_sliceFrom, ee_tup, ee_lst, ee_sumAt, ee_rev, ee_strMul, ee_cat, ee_slen, ee_sidx, ee_sTo, ee_sFrom, ee_split, ee_join, ee_upper, ee_giveRepl, ee_strOf, ee_intOf, ee_notIn, ee_inT, ee_notInL, ee_minL, ee_shownL, h1, R.bind, truth, Option.map_some, ofOpt]
theorem ev_str {Φ : Fns} {ρ : Loc} {s : Str} {σ : Store} : evalE Φ ρ (.cstr s) σ = .ok (.str s) σ := by simp only [ee_var, ee_cint, ee_cstr, ee_cnone, ee_cbool, ee_gint, ee_gstr, ee_bin, ee_neg, ee_not, ee_and, ee_or, ee_cmp, ee_cmp2, ee_call, ee_bi, ee_copy, ee_isi, ee_make, ee_meth, ee_attr, ee_idx, ee_sliceTo, ee_sliceFrom, ee_tup, ee_lst, ee_sumAt, ee_rev, ee_strMul, ee_cat, ee_slen, ee_sidx, ee_sTo, ee_sFrom, ee_split, ee_join, ee_upper, ee_giveRepl, ee_strOf, ee_intOf, ee_notIn, ee_inT, ee_notInL, ee_minL, ee_shownL]
theorem ev_gint {Φ : Fns} {ρ : Loc} {x : Str} {k : Int} {σ : Store} : evalE Φ ρ (.gint x k) σ = .ok (.int k) σ := by simp only [ee_var, ee_cint, ee_cstr, ee_cnone, ee_cbool, ee_gint, ee_gstr, ee_bin, ee_neg, ee_not, ee_and, ee_or, ee_cmp, ee_cmp2, ee_call, ee_bi, ee_copy, ee_isi, ee_make, ee_meth, ee_attr, ee_idx, ee_sliceTo, ee_sliceFrom, ee_tup, ee_lst, ee_sumAt, ee_rev, ee_strMul, ee_cat, ee_slen, ee_sidx, ee_sTo, ee_sFrom, ee_split, ee_join, ee_upper, ee_giveRepl, ee_strOf, ee_intOf, ee_notIn, ee_inT, ee_notInL, ee_minL, ee_shownL]
theorem ev_tup {Φ : Fns} {ρ : Loc} {es : List ME} {σ σ' : Store} {vs : List V} (h : evalEs Φ ρ es σ = .ok vs σ') : evalE Φ ρ (.tup es) σ = .ok (.tup vs) σ' := by simp only [ee_var, ee_cint, ee_cstr, ee_cnone, ee_cbool, ee_gint, ee_gstr, ee_bin, ee_neg, ee_not, ee_and, ee_or, ee_cmp, ee_cmp2, ee_call, ee_bi, ee_copy, ee_isi, ee_make, ee_meth, ee_attr, ee_idx, ee_sliceTo, ee_sliceFrom, ee_tup, ee_lst, ee_sumAt, ee_rev, ee_strMul, ee_cat, ee_slen, ee_sidx, ee_sTo, ee_sFrom, ee_split, ee_join, ee_upper, ee_giveRepl, ee_strOf, ee_intOf, ee_notIn, ee_inT, ee_notInL, ee_minL, ee_shownL, h, R.bind]
section
variable {P : Prog} {σ : Store} {i r : Nat} {row : List (Int × Int)} {left begun day : Int}
end
end Mine
set_option maxRecDepth 100000
set_option maxHeartbeats 1000000
set_option linter.unusedVariables false
set_option linter.unusedSimpArgs false
namespace Mine
open PySem

theorem bi_int {σ : Store} {b : Bool} : biV σ .int [.bool b] = some (.int (if b then 1 else 0)) := by cases b <;> rfl
theorem mul_sq {σ : Store} {c : Int} (h : Builtin.Int.intBits c ≤ 2 ^ 20) : binV σ .Mult (.int c) (.int c) = some (.int (c * c)) := by
  show mulF c c = _
  unfold mulF
  rw [if_pos (.inr ⟨h, h⟩)]
theorem bits_cell {ns : List Int} (hb : ∀ n ∈ ns, Builtin.Int.intBits n ≤ 2 ^ 20) (k : Nat) : Builtin.Int.intBits (cellAt ns k) ≤ 2 ^ 20 := by
  unfold cellAt
  rw [List.getD_eq_getElem?_getD]
  cases h : ns[k]? with
  | none => decide
  | some n => exact hb n (List.mem_of_getElem? h)
theorem ev_neg {Φ : Fns} {ρ : Loc} {a : ME} {k : Int} {σ σ' : Store} (h : evalE Φ ρ a σ = .ok (.int k) σ') : evalE Φ ρ (.neg a) σ = .ok (.int (-k)) σ' := by simp only [ee_var, ee_cint, ee_cstr, ee_cnone, ee_cbool, ee_gint, ee_gstr, ee_bin, ee_neg, ee_not, ee_and, ee_or, ee_cmp, ee_cmp2, ee_call, ee_bi, ee_copy, ee_isi, ee_make, ee_meth, ee_attr, ee_idx, ee_sliceTo, ee_sliceFrom, ee_tup, ee_lst, ee_sumAt, ee_rev, ee_strMul, ee_cat, ee_slen, ee_sidx, ee_sTo, ee_sFrom, ee_split, ee_join, ee_upper, ee_giveRepl, ee_strOf, ee_intOf, ee_notIn, ee_inT, ee_notInL, ee_minL, ee_shownL, h, R.bind]
theorem ev_lst {Φ : Fns} {ρ : Loc} {es : List ME} {σ σ' : Store} {vs : List V} (h : evalEs Φ ρ es σ = .ok vs σ') : evalE Φ ρ (.lst false es) σ = .ok (.lst vs) σ' := by simp only [ee_var, ee_cint, ee_cstr, ee_cnone, ee_cbool, ee_gint, ee_gstr, ee_bin, ee_neg, ee_not, ee_and, ee_or, ee_cmp, ee_cmp2, ee_call, ee_bi, ee_copy, ee_isi, ee_make, ee_meth, ee_attr, ee_idx, ee_sliceTo, ee_sliceFrom, ee_tup, ee_lst, ee_sumAt, ee_rev, ee_strMul, ee_cat, ee_slen, ee_sidx, ee_sTo, ee_sFrom, ee_split, ee_join, ee_upper, ee_giveRepl, ee_strOf, ee_intOf, ee_notIn, ee_inT, ee_notInL, ee_minL, ee_shownL, h, R.bind, newL]; rfl
theorem ev_bint {Φ : Fns} {ρ : Loc} {a : ME} {σ : Store} {b : Bool} (h1 : evalE Φ ρ a σ = .ok (.bool b) σ) : evalE Φ ρ (.bi .int [a]) σ = .ok (.int (if b then 1 else 0)) σ := by
  simp only [ee_var, ee_cint, ee_cstr, ee_cnone, ee_cbool, ee_gint, ee_gstr, ee_bin, ee_neg, ee_not, ee_and, ee_or, ee_cmp, ee_cmp2, ee_call, ee_bi, ee_copy, ee_isi, ee_make, ee_meth, ee_attr, ee_idx, ee_sliceTo, ee_sliceFrom, ee_tup, ee_lst, ee_sumAt, ee_rev, ee_strMul, ee_cat, ee_slen, ee_sidx, ee_sTo, ee_sFrom, ee_split, ee_join, ee_upper, ee_giveRepl, ee_strOf, ee_intOf, ee_notIn, ee_inT, ee_notInL, ee_minL, ee_shownL, es_0, es_1, h1, R.bind, bi_int, ofOpt]
theorem ev_isi {Φ : Fns} {ρ : Loc} {a : ME} {σ : Store} {v : V} {t : TY} {b : Bool} (h1 : evalE Φ ρ a σ = .ok v σ) (h : isiV σ v t = some b) : evalE Φ ρ (.isi a t) σ = .ok (.bool b) σ := by
  simp only [ee_var, ee_cint, ee_cstr, ee_cnone, ee_cbool, ee_gint, ee_gstr, ee_bin, ee_neg, ee_not, ee_and, ee_or, ee_cmp, ee_cmp2, ee_call, ee_bi, ee_copy, ee_isi, ee_make, ee_meth, ee_attr, ee_idx, ee_sliceTo, ee_sliceFrom, ee_tup, ee_lst, ee_sumAt, ee_rev, ee_strMul, ee_cat, ee_slen, ee_sidx, ee_sTo, ee_sFrom, ee_split, ee_join, ee_upper, ee_giveRepl, ee_strOf, ee_intOf, ee_notIn, ee_inT, ee_notInL, ee_minL, ee_shownL, h1, R.bind, h, Option.map_some, ofOpt]
section
variable {P : Prog} {σ : Store} {i r : Nat} {row : List (Int × Int)} {left begun day : Int}
end
end Mine
set_option maxRecDepth 100000
set_option maxHeartbeats 1000000
set_option linter.unusedVariables false
set_option linter.unusedSimpArgs false
namespace Mine
open PySem

section
variable {Φ : Fns} {ρ : Loc} {a b : ME} {σ σ₁ σ₂ : Store} {x y : Int}
theorem ev_none : evalE Φ ρ .cnone σ = .ok .none σ := by simp only [ee_var, ee_cint, ee_cstr, ee_cnone, ee_cbool, ee_gint, ee_gstr, ee_bin, ee_neg, ee_not, ee_and, ee_or, ee_cmp, ee_cmp2, ee_call, ee_bi, ee_copy, ee_isi, ee_make, ee_meth, ee_attr, ee_idx, ee_sliceTo, ee_sliceFrom, ee_tup, ee_lst, ee_sumAt, ee_rev, ee_strMul, ee_cat, ee_slen, ee_sidx, ee_sTo, ee_sFrom, ee_split, ee_join, ee_upper, ee_giveRepl, ee_strOf, ee_intOf, ee_notIn, ee_inT, ee_notInL, ee_minL, ee_shownL]
theorem ev_add (ha : evalE Φ ρ a σ = .ok (.int x) σ₁) (hb : evalE Φ ρ b σ₁ = .ok (.int y) σ₂) : evalE Φ ρ (.bin .Add a b) σ = .ok (.int (x + y)) σ₂ := ev_bin ha hb bin_add
theorem ev_sub (ha : evalE Φ ρ a σ = .ok (.int x) σ₁) (hb : evalE Φ ρ b σ₁ = .ok (.int y) σ₂) : evalE Φ ρ (.bin .Sub a b) σ = .ok (.int (x - y)) σ₂ := ev_bin ha hb bin_sub
theorem ev_mod (ha : evalE Φ ρ a σ = .ok (.int x) σ₁) (hb : evalE Φ ρ b σ₁ = .ok (.int y) σ₂) (h : 0 < y) : evalE Φ ρ (.bin .Mod a b) σ = .ok (.int (x % y)) σ₂ := ev_bin ha hb (bin_mod h)
theorem ev_div (ha : evalE Φ ρ a σ = .ok (.int x) σ₁) (hb : evalE Φ ρ b σ₁ = .ok (.int y) σ₂) (h : 0 < y) : evalE Φ ρ (.bin .FloorDiv a b) σ = .ok (.int (x / y)) σ₂ := ev_bin ha hb (bin_div h)
noncomputable def Sml (x : Int) : Prop := -(2 ^ 63) ≤ x ∧ x < 2 ^ 63
theorem ev_mull (ha : evalE Φ ρ a σ = .ok (.int x) σ₁) (hb : evalE Φ ρ b σ₁ = .ok (.int y) σ₂) (h : Sml x) : evalE Φ ρ (.bin .Mult a b) σ = .ok (.int (x * y)) σ₂ := ev_bin ha hb (bin_mull h.1 h.2)
theorem ev_mulr (ha : evalE Φ ρ a σ = .ok (.int x) σ₁) (hb : evalE Φ ρ b σ₁ = .ok (.int y) σ₂) (h : Sml y) : evalE Φ ρ (.bin .Mult a b) σ = .ok (.int (x * y)) σ₂ := ev_bin ha hb (bin_mulr h.1 h.2)
theorem ev_lt (ha : evalE Φ ρ a σ = .ok (.int x) σ₁) (hb : evalE Φ ρ b σ₁ = .ok (.int y) σ₂) : evalE Φ ρ (.cmp .Lt a b) σ = .ok (.bool (decide (x < y))) σ₂ := ev_cmp ha hb cmp_lt
theorem ev_gt (ha : evalE Φ ρ a σ = .ok (.int x) σ₁) (hb : evalE Φ ρ b σ₁ = .ok (.int y) σ₂) : evalE Φ ρ (.cmp .Gt a b) σ = .ok (.bool (decide (y < x))) σ₂ := ev_cmp ha hb cmp_gt
theorem ev_eq (ha : evalE Φ ρ a σ = .ok (.int x) σ₁) (hb : evalE Φ ρ b σ₁ = .ok (.int y) σ₂) : evalE Φ ρ (.cmp .Eq a b) σ = .ok (.bool (decide (x = y))) σ₂ := ev_cmp ha hb cmp_eq
theorem ev_ne (ha : evalE Φ ρ a σ = .ok (.int x) σ₁) (hb : evalE Φ ρ b σ₁ = .ok (.int y) σ₂) : evalE Φ ρ (.cmp .NotEq a b) σ = .ok (.bool (decide (x ≠ y))) σ₂ := ev_cmp ha hb cmp_ne
end
theorem x_fn {P : Prog} {n f : Nat} {ρ : Loc} {args : List ME} {σ σ₁ : Store} {vs : List V} {r : R V} (ha : evalEs (pre P n) ρ args σ = .ok vs σ₁) (h : f < n) (hf : fn P f vs σ₁ = r) : evalE (pre P n) ρ (.call f args) σ = r := x_call ha ((pre_fn h _ _).trans hf)
/-- a run that ends with True -/
noncomputable def Ends (Φ : Fns) (b : List MS) (ρ : Loc) (σ : Store) : Prop := ∃ σ', execB Φ b ρ σ = .ok (.ret (.bool true)) σ'
section
variable {Φ : Fns} {ρ ρ' : Loc} {σ σ' : Store} {r : List MS}
theorem Ends.step {s : MS} (h : execS Φ s ρ σ = .ok (.next ρ') σ') (k : Ends Φ r ρ' σ') : Ends Φ (s :: r) ρ σ := k.elim fun τ e => ⟨τ, Mine.step h e⟩
theorem Ends.asg {i : Nat} {e : ME} {v : V} (h : evalE Φ ρ e σ = .ok v σ') (k : Ends Φ r (ρ.set i (some v)) σ') : Ends Φ (.assign i e :: r) ρ σ := .step (ex_assign h) k
theorem Ends.no {c : ME} {a : List MS} (h : evalE Φ ρ c σ = .ok (.bool false) σ') (k : Ends Φ r ρ σ') : Ends Φ (.ite c a [] :: r) ρ σ := .step (ex_ite h ex_nil) k
theorem Ends.yes {c : ME} {a b : List MS} {σ₂ : Store} (h : evalE Φ ρ c σ = .ok (.bool true) σ') (ha : execB Φ a ρ σ' = .ok (.next ρ') σ₂) (k : Ends Φ r ρ' σ₂) : Ends Φ (.ite c a b :: r) ρ σ := .step (ex_ite h ha) k
theorem Ends.ret {e : ME} (h : evalE Φ ρ e σ = .ok (.bool true) σ') : Ends Φ (.ret e :: r) ρ σ := ⟨σ', ex_ret h⟩
theorem Ends.yesRet {c : ME} {a b : List MS} (h : evalE Φ ρ c σ = .ok (.bool true) σ') (ha : Ends Φ a ρ σ') : Ends Φ (.ite c a b :: r) ρ σ := ha.elim fun τ e => ⟨τ, ret_step (ex_ite h e)⟩
end
end Mine
set_option maxRecDepth 100000
set_option maxHeartbeats 1000000
set_option linter.unusedVariables false
set_option linter.unusedSimpArgs false
namespace Mine
open PySem

theorem len_l {σ : Store} {vs : List V} {n : Int} (h : vs.length ≤ 1000000) (hn : n = vs.length) : biV σ .len [.lst vs] = some (.int n) := by
  subst hn
  simp only [biV, bi1, seqOf, listOf, Option.bind_some]
  rw [if_pos h]
theorem ev_len {Φ : Fns} {ρ : Loc} {e : ME} {σ : Store} {v : V} {n : Int} (he : evalE Φ ρ e σ = .ok v σ) (h : biV σ .len [v] = some (.int n)) : evalE Φ ρ (.bi .len [e]) σ = .ok (.int n) σ := by
  simp only [ee_var, ee_cint, ee_cstr, ee_cnone, ee_cbool, ee_gint, ee_gstr, ee_bin, ee_neg, ee_not, ee_and, ee_or, ee_cmp, ee_cmp2, ee_call, ee_bi, ee_copy, ee_isi, ee_make, ee_meth, ee_attr, ee_idx, ee_sliceTo, ee_sliceFrom, ee_tup, ee_lst, ee_sumAt, ee_rev, ee_strMul, ee_cat, ee_slen, ee_sidx, ee_sTo, ee_sFrom, ee_split, ee_join, ee_upper, ee_giveRepl, ee_strOf, ee_intOf, ee_notIn, ee_inT, ee_notInL, ee_minL, ee_shownL, es_0, es_1, he, R.bind, h, ofOpt]
structure HasDays (P : Prog) : Prop where
  days : Has P 29 s_sure_days 2 b_sure_days
  pay : Has P 32 s_paid_by 3 b_paid_by
section
variable {P : Prog} {σ : Store} {i r : Nat} {row : List (Int × Int)} {left begun day : Int}
end

/-- a loan that can be asked -/
structure Well (row : List (Int × Int)) (l b : Int) : Prop where
  ok : RowOk (-1) row
  pos : 0 < row.length
  few : row.length ≤ 1000
  l0 : 0 ≤ l
  l1 : l ≤ 1000000000000
  b0 : 0 ≤ b
section
variable {P : Prog}
end
end Mine
set_option maxRecDepth 100000
set_option maxHeartbeats 1000000
set_option linter.unusedVariables false
set_option linter.unusedSimpArgs false
namespace Mine
open PySem

noncomputable def s_number_of : List Str := ["word", "sign"]
noncomputable def b_number_of : List MS := [.ite (.or [.cmp .Eq (.var 0) (.cstr ""), .cmp .Gt (.slen (.var 0)) (.gint "MOST_FIGURES" 30)]) [.raise "NoNote" 5 "no number"] [],
  .forStr 1 (.var 0) [.ite (.notIn (.var 1) (.gstr "FIGURES" "0123456789")) [.raise "NoNote" 5 "no number"] []],
  .ite (.and [.cmp .Eq (.sidx (.var 0) (.cint 0)) (.cstr "0"), .cmp .Gt (.slen (.var 0)) (.cint 1)]) [.raise "NoNote" 5 "no number"] [],
  .ret (.intOf (.var 0))]
noncomputable def s_read : List Str := ["line", "words"]
noncomputable def b_read : List MS := [.assign 1 (.split false (.var 0)),
  .ite (.and [.inT ["pay", "rate"] (.idx (.var 1) (.cint 0)), .cmp .Eq (.bi .len [.var 1]) (.cint 3)]) [.ret (.tup [.idx (.var 1) (.cint 0), .call 38 [.idx (.var 1) (.cint 1)], .call 38 [.idx (.var 1) (.cint 2)]])] [],
  .ite (.and [.cmp .Eq (.idx (.var 1) (.cint 0)) (.cstr "owe"), .cmp .Eq (.bi .len [.var 1]) (.cint 2)]) [.ret (.tup [.cstr "owe", .call 38 [.idx (.var 1) (.cint 1)]])] [],
  .raise "NoNote" 5 "no note"]
noncomputable def s_shown : List Str := ["note"]
noncomputable def b_shown : List MS := [.ret (.join (.shownL 0))]
noncomputable def s_l_number_by : List Str := ["_law_cell"]
noncomputable def b_l_number_by : List MS := [.ite (.cmp .Eq (.bin .Mod (.var 0) (.cint 3)) (.cint 0)) [.ret (.bin .Mod (.bin .FloorDiv (.var 0) (.cint 3)) (.cint 100000))] [],
  .ite (.cmp .Eq (.bin .Mod (.var 0) (.cint 3)) (.cint 1)) [.ret (.cint 0)] [],
  .ret (.bin .Mod (.bin .Add (.bin .Mult (.bin .Mult (.var 0) (.var 0)) (.cint 48271)) (.bin .Mult (.cint 7) (.var 0))) (.bin .Pow (.cint 10) (.cint 30)))]
noncomputable def s_l_one_sign : List Str := ["_law_line", "_law_cell", "_law_changed", "_law_some", "_law_place", "_law_sign"]
noncomputable def b_l_one_sign : List MS := [.assign 3 (.cstr " !\"#$&'()*+,-./0123456789:;<=>?@ABCDEFGHIJKLMNOPQRSTUVWXYZ[\\]^_`"),
  .assign 3 (.cat (.var 3) (.cstr "abcdefghijklmnopqrstuvwxyz{|}~")),
  .assign 4 (.bin .Mod (.var 1) (.slen (.var 0))),
  .assign 5 (.sidx (.var 3) (.bin .Mod (.bin .FloorDiv (.var 1) (.slen (.var 0))) (.cint 94))),
  .ite (.not (.var 2)) [.assign 5 (.cstr "")] [],
  .ret (.cat (.cat (.sTo (.var 0) (.var 4)) (.var 5)) (.sFrom (.var 0) (.bin .Add (.var 4) (.cint 1))))]
noncomputable def s_l_altered : List Str := ["_law_line", "_law_cell", "_law_words", "_law_place", "_law_word", "_law_way", "_law_some"]
noncomputable def b_l_altered : List MS := [.assign 2 (.split true (.var 0)),
  .assign 3 (.bin .Add (.cint 1) (.bin .Mod (.bin .FloorDiv (.var 1) (.cint 25)) (.bin .Sub (.bi .len [.var 2]) (.cint 1)))),
  .assign 4 (.idx (.var 2) (.var 3)),
  .assign 5 (.bin .Mod (.var 1) (.cint 25)),
  .ite (.cmp .Gt (.var 5) (.cint 20)) [.ret (.call 15 [.var 0, .bin .FloorDiv (.var 1) (.cint 25), .cmp .Lt (.var 5) (.cint 24)])] [],
  .ite (.cmp .Lt (.var 5) (.cint 12)) [.assign 6 (.lst false [.cat (.cstr "+") (.var 4), .cat (.cstr "-") (.var 4), .cat (.cstr "0") (.var 4), .cat (.var 4) (.cstr "a"), .cat (.cat (.sTo (.var 4) (.cint 1)) (.cstr ".")) (.sFrom (.var 4) (.cint 1)), .cstr "", .cat (.cstr " ") (.var 4), .cat (.var 4) (.cstr " ")]),
    .assign 6 (.bin .Add (.var 6) (.lst false [.cat (.var 4) (.cstr "\n"), .strMul "1" (.cint 31), .cat (.var 4) (.cstr "_0"), .cat (.cstr "0x") (.var 4)])),
    .setitem (.var 2) (.var 3) (.idx (.var 6) (.var 5)),
    .ret (.join (.var 2))] [],
  .assign 6 (.lst false [.cstr "", .cat (.upper (.sTo (.var 0) (.cint 1))) (.sFrom (.var 0) (.cint 1)), .cat (.var 0) (.cstr " 1"), .upper (.var 0), .cat (.cstr " ") (.var 0), .cat (.var 0) (.cstr " "), .idx (.var 2) (.cint 0)]),
  .assign 6 (.bin .Add (.var 6) (.giveRepl 0)),
  .ret (.idx (.var 6) (.bin .Sub (.var 5) (.cint 12)))]
noncomputable def s_l_number : List Str := ["_law_word", "_law_sign"]
noncomputable def b_l_number : List MS := [.ite (.or [.cmp .Eq (.var 0) (.cstr ""), .cmp .Gt (.slen (.var 0)) (.cint 30), .and [.cmp .Gt (.slen (.var 0)) (.cint 1), .cmp .Eq (.sidx (.var 0) (.cint 0)) (.cstr "0")]]) [.ret (.neg (.cint 1))] [],
  .forStr 1 (.var 0) [.ite (.notIn (.var 1) (.cstr "0123456789")) [.ret (.neg (.cint 1))] []],
  .ret (.intOf (.var 0))]
noncomputable def s_l_due : List Str := ["_law_line", "_law_words", "_law_many", "_law_numbers"]
noncomputable def b_l_due : List MS := [.assign 1 (.split false (.var 0)),
  .assign 2 (.cint 3),
  .ite (.cmp .Eq (.idx (.var 1) (.cint 0)) (.cstr "owe")) [.assign 2 (.cint 2)] [],
  .ite (.or [.notInL ["pay", "rate", "owe"] (.idx (.var 1) (.cint 0)), .cmp .NotEq (.bi .len [.var 1]) (.var 2)]) [.ret (.cnone)] [],
  .asgMap 3 17 1,
  .ite (.cmp .Lt (.minL (.var 3)) (.cint 0)) [.ret (.cnone)] [],
  .ret (.tup [.idx (.var 1) (.cint 0), .var 3])]
noncomputable def s_l_alike : List Str := ["_law_found", "_law_due_here", "_law_k"]
noncomputable def b_l_alike : List MS := [.ite (.or [.not (.isi (.var 0) .tuple), .cmp .NotEq (.bi .len [.var 0]) (.bin .Add (.cint 1) (.bi .len [.idx (.var 1) (.cint 1)]))]) [.ret (.cbool false)] [],
  .ite (.or [.not (.isi (.idx (.var 0) (.cint 0)) .str), .cmp .NotEq (.idx (.var 0) (.cint 0)) (.idx (.var 1) (.cint 0))]) [.ret (.cbool false)] [],
  .forRange 2 [.bi .len [.idx (.var 1) (.cint 1)]] [.ite (.or [.not (.call 1 [.idx (.var 0) (.bin .Add (.var 2) (.cint 1))]), .cmp .NotEq (.idx (.var 0) (.bin .Add (.var 2) (.cint 1))) (.idx (.idx (.var 1) (.cint 1)) (.var 2))]) [.ret (.cbool false)] []],
  .ret (.cbool true)]
noncomputable def s_l_alone13 : List Str := ["_law_e", "_law_many"]
noncomputable def b_l_alone13 : List MS := [.assign 1 (.bin .Add (.bin .Add (.bi .int [.isi (.var 0) (.exc "BadAmount" 1)]) (.bi .int [.isi (.var 0) (.exc "BadRate" 2)])) (.bi .int [.isi (.var 0) (.exc "BadDay" 3)])),
  .ret (.and [.cmp .Eq (.bin .Add (.bin .Add (.var 1) (.bi .int [.isi (.var 0) (.exc "BadPay" 4)])) (.bi .int [.isi (.var 0) (.exc "NoNote" 5)])) (.cint 1), .isi (.var 0) .verr])]
noncomputable def s_l_refused : List Str := ["_law_line", "_law_told", "_law_e"]
noncomputable def b_l_refused : List MS := [.assign 1 (.cint 0),
  .try [.expr (.call 39 [.var 0])] [.hand 5 none [.assign 1 (.bin .Add (.var 1) (.cint 1))]],
  .try [.expr (.call 39 [.var 0])] [.hand 0 (some 2) [.assign 1 (.bin .Add (.var 1) (.bi .int [.call 13 [.var 2]]))]],
  .ret (.cmp .Eq (.var 1) (.cint 2))]
noncomputable def s_law : List Str := ["_law_script", "_law_head", "_law_numbers", "_law_note", "_law_line", "_law_word", "_law_row", "_law_due_here"]
noncomputable def b_law : List MS := [.assign 1 (.bin .Mod (.call 0 [.var 0, .cint 0]) (.cint 3)),
  .assign 2 (.lst false [.call 14 [.call 0 [.var 0, .cint 1]], .call 14 [.call 0 [.var 0, .cint 2]]]),
  .assign 3 (.tup [.cstr "owe", .idx (.var 2) (.cint 0)]),
  .assign 4 (.cat (.cstr "owe ") (.strOf (.idx (.var 2) (.cint 0)))),
  .ite (.cmp .Gt (.var 1) (.cint 0)) [.assign 5 (.idx (.lst false [.cstr "pay", .cstr "rate"]) (.bin .Sub (.var 1) (.cint 1))),
    .assign 3 (.tup [.var 5, .idx (.var 2) (.cint 0), .idx (.var 2) (.cint 1)]),
    .assign 4 (.cat (.cat (.cat (.cat (.var 5) (.cstr " ")) (.strOf (.idx (.var 2) (.cint 0)))) (.cstr " ")) (.strOf (.idx (.var 2) (.cint 1))))] [],
  .assign 6 (.call 40 [.var 3]),
  .ite (.or [.not (.isi (.var 6) .str), .cmp .NotEq (.var 6) (.var 4)]) [.ret (.cbool false)] [],
  .ite (.cmp .Eq (.bin .Mod (.call 0 [.var 0, .cint 3]) (.cint 2)) (.cint 1)) [.assign 4 (.call 16 [.var 4, .bin .FloorDiv (.call 0 [.var 0, .cint 3]) (.cint 2)])] [],
  .assign 7 (.call 56 [.var 4]),
  .ite (.cmp .Is (.var 7) (.cnone)) [.ret (.call 81 [.var 4])] [],
  .ret (.call 80 [.call 39 [.var 4], .var 7])]
noncomputable def Pg : Prog where
  fns := [(0, { addr := 113, name := "_law_cell_at", slots := s_l_cell_at, nargs := 2, body := b_l_cell_at }),
    (1, { addr := 120, name := "_law_whole", slots := s_l_whole, nargs := 1, body := b_l_whole }),
    (13, { addr := 167, name := "_law_alone", slots := s_l_alone13, nargs := 1, body := b_l_alone13, quiet := true }),
    (14, { addr := 127, name := "_law_number_by", slots := s_l_number_by, nargs := 1, body := b_l_number_by }),
    (15, { addr := 134, name := "_law_one_sign", slots := s_l_one_sign, nargs := 3, body := b_l_one_sign }),
    (16, { addr := 141, name := "_law_altered", slots := s_l_altered, nargs := 2, body := b_l_altered }),
    (17, { addr := 148, name := "_law_number", slots := s_l_number, nargs := 1, body := b_l_number }),
    (38, { addr := 94, name := "number_of", slots := s_number_of, nargs := 1, body := b_number_of }),
    (39, { addr := 101, name := "read", slots := s_read, nargs := 1, body := b_read }),
    (40, { addr := 106, name := "shown", slots := s_shown, nargs := 1, body := b_shown }),
    (56, { addr := 153, name := "_law_due", slots := s_l_due, nargs := 1, body := b_l_due }),
    (80, { addr := 160, name := "_law_alike", slots := s_l_alike, nargs := 2, body := b_l_alike }),
    (81, { addr := 174, name := "_law_refused", slots := s_l_refused, nargs := 1, body := b_l_refused })]
  classes := []
  meths := []
  attrs := []
theorem Q0 : Has Pg 0 s_l_cell_at 2 b_l_cell_at := ⟨_, _, _, rfl⟩
theorem PW : HasWhole Pg := ⟨_, _, _, rfl⟩
theorem P13 : Has Pg 13 s_l_alone13 1 b_l_alone13 := ⟨_, _, _, rfl⟩
theorem P14 : Has Pg 14 s_l_number_by 1 b_l_number_by := ⟨_, _, _, rfl⟩
theorem P15 : Has Pg 15 s_l_one_sign 3 b_l_one_sign := ⟨_, _, _, rfl⟩
theorem P16 : Has Pg 16 s_l_altered 2 b_l_altered := ⟨_, _, _, rfl⟩
theorem P17 : Has Pg 17 s_l_number 1 b_l_number := ⟨_, _, _, rfl⟩
theorem P38 : Has Pg 38 s_number_of 1 b_number_of := ⟨_, _, _, rfl⟩
theorem P39 : Has Pg 39 s_read 1 b_read := ⟨_, _, _, rfl⟩
theorem P40 : Has Pg 40 s_shown 1 b_shown := ⟨_, _, _, rfl⟩
theorem P56 : Has Pg 56 s_l_due 1 b_l_due := ⟨_, _, _, rfl⟩
theorem P80 : Has Pg 80 s_l_alike 2 b_l_alike := ⟨_, _, _, rfl⟩
theorem P81 : Has Pg 81 s_l_refused 1 b_l_refused := ⟨_, _, _, rfl⟩

theorem len_app (x y : Str) : (x ++ y).length = x.length + y.length := Str.length_append ..
section
variable {Φ : Fns} {ρ : Loc} {a b : ME} {σ σ₁ σ₂ : Store} {x y : Str}
theorem onS_ok {f : Str → Option V} (h : x.length ≤ 10000) : onS (.str x) f = f x := by
  show (if x.length ≤ 10000 then f x else none) = f x
  rw [if_pos h]
theorem ev_cat (ha : evalE Φ ρ a σ = .ok (.str x) σ₁) (hb : evalE Φ ρ b σ₁ = .ok (.str y) σ₂) (hx : x.length ≤ 10000) (hy : y.length ≤ 10000) : evalE Φ ρ (.cat a b) σ = .ok (.str (x ++ y)) σ₂ := by
  simp only [ee_var, ee_cint, ee_cstr, ee_cnone, ee_cbool, ee_gint, ee_gstr, ee_bin, ee_neg, ee_not, ee_and, ee_or, ee_cmp, ee_cmp2, ee_call, ee_bi, ee_copy, ee_isi, ee_make, ee_meth, ee_attr, ee_idx, ee_sliceTo, ee_sliceFrom, ee_tup, ee_lst, ee_sumAt, ee_rev, ee_strMul, ee_cat, ee_slen, ee_sidx, ee_sTo, ee_sFrom, ee_split, ee_join, ee_upper, ee_giveRepl, ee_strOf, ee_intOf, ee_notIn, ee_inT, ee_notInL, ee_minL, ee_shownL, ha, hb, R.bind, catV, onS_ok hx, onS_ok hy, ofOpt]
theorem ev_slen (ha : evalE Φ ρ a σ = .ok (.str x) σ₁) (hx : x.length ≤ 10000) : evalE Φ ρ (.slen a) σ = .ok (.int x.length) σ₁ := by
  simp only [ee_var, ee_cint, ee_cstr, ee_cnone, ee_cbool, ee_gint, ee_gstr, ee_bin, ee_neg, ee_not, ee_and, ee_or, ee_cmp, ee_cmp2, ee_call, ee_bi, ee_copy, ee_isi, ee_make, ee_meth, ee_attr, ee_idx, ee_sliceTo, ee_sliceFrom, ee_tup, ee_lst, ee_sumAt, ee_rev, ee_strMul, ee_cat, ee_slen, ee_sidx, ee_sTo, ee_sFrom, ee_split, ee_join, ee_upper, ee_giveRepl, ee_strOf, ee_intOf, ee_notIn, ee_inT, ee_notInL, ee_minL, ee_shownL, ha, R.bind, onS_ok hx, ofOpt]
theorem ev_sidx {k : Int} (ha : evalE Φ ρ a σ = .ok (.str x) σ₁) (hb : evalE Φ ρ b σ₁ = .ok (.int k) σ₂) (hx : x.length ≤ 10000) (h0 : 0 ≤ k) (h1 : k < (x.length : Int)) : evalE Φ ρ (.sidx a b) σ = .ok (.str (Txt.item x k)) σ₂ := by
  simp only [ee_var, ee_cint, ee_cstr, ee_cnone, ee_cbool, ee_gint, ee_gstr, ee_bin, ee_neg, ee_not, ee_and, ee_or, ee_cmp, ee_cmp2, ee_call, ee_bi, ee_copy, ee_isi, ee_make, ee_meth, ee_attr, ee_idx, ee_sliceTo, ee_sliceFrom, ee_tup, ee_lst, ee_sumAt, ee_rev, ee_strMul, ee_cat, ee_slen, ee_sidx, ee_sTo, ee_sFrom, ee_split, ee_join, ee_upper, ee_giveRepl, ee_strOf, ee_intOf, ee_notIn, ee_inT, ee_notInL, ee_minL, ee_shownL, ha, hb, R.bind, sidxV, onS_ok hx, V.asInt, Option.bind_some]
  rw [if_pos ⟨h0, h1⟩]; rfl
theorem ev_sTo {k : Int} (ha : evalE Φ ρ a σ = .ok (.str x) σ₁) (hb : evalE Φ ρ b σ₁ = .ok (.int k) σ₂) (hx : x.length ≤ 10000) : evalE Φ ρ (.sTo a b) σ = .ok (.str (Txt.slice x none (some k))) σ₂ := by
  simp only [ee_var, ee_cint, ee_cstr, ee_cnone, ee_cbool, ee_gint, ee_gstr, ee_bin, ee_neg, ee_not, ee_and, ee_or, ee_cmp, ee_cmp2, ee_call, ee_bi, ee_copy, ee_isi, ee_make, ee_meth, ee_attr, ee_idx, ee_sliceTo, ee_sliceFrom, ee_tup, ee_lst, ee_sumAt, ee_rev, ee_strMul, ee_cat, ee_slen, ee_sidx, ee_sTo, ee_sFrom, ee_split, ee_join, ee_upper, ee_giveRepl, ee_strOf, ee_intOf, ee_notIn, ee_inT, ee_notInL, ee_minL, ee_shownL, ha, hb, R.bind, scutV, onS_ok hx, V.asInt, Option.bind_some, if_true, ofOpt]
theorem ev_sFrom {k : Int} (ha : evalE Φ ρ a σ = .ok (.str x) σ₁) (hb : evalE Φ ρ b σ₁ = .ok (.int k) σ₂) (hx : x.length ≤ 10000) : evalE Φ ρ (.sFrom a b) σ = .ok (.str (Txt.slice x (some k) none)) σ₂ := by
  simp only [ee_var, ee_cint, ee_cstr, ee_cnone, ee_cbool, ee_gint, ee_gstr, ee_bin, ee_neg, ee_not, ee_and, ee_or, ee_cmp, ee_cmp2, ee_call, ee_bi, ee_copy, ee_isi, ee_make, ee_meth, ee_attr, ee_idx, ee_sliceTo, ee_sliceFrom, ee_tup, ee_lst, ee_sumAt, ee_rev, ee_strMul, ee_cat, ee_slen, ee_sidx, ee_sTo, ee_sFrom, ee_split, ee_join, ee_upper, ee_giveRepl, ee_strOf, ee_intOf, ee_notIn, ee_inT, ee_notInL, ee_minL, ee_shownL, ha, hb, R.bind, scutV, onS_ok hx, V.asInt, Option.bind_some, Bool.false_eq_true, if_false, ofOpt]
theorem ev_splitF (ha : evalE Φ ρ a σ = .ok (.str x) σ₁) (hx : x.length ≤ 10000) : evalE Φ ρ (.split false a) σ = .ok (.lst (strsV (Txt.split x " "))) σ₁ := by
  simp only [ee_var, ee_cint, ee_cstr, ee_cnone, ee_cbool, ee_gint, ee_gstr, ee_bin, ee_neg, ee_not, ee_and, ee_or, ee_cmp, ee_cmp2, ee_call, ee_bi, ee_copy, ee_isi, ee_make, ee_meth, ee_attr, ee_idx, ee_sliceTo, ee_sliceFrom, ee_tup, ee_lst, ee_sumAt, ee_rev, ee_strMul, ee_cat, ee_slen, ee_sidx, ee_sTo, ee_sFrom, ee_split, ee_join, ee_upper, ee_giveRepl, ee_strOf, ee_intOf, ee_notIn, ee_inT, ee_notInL, ee_minL, ee_shownL, ha, R.bind, onS_ok hx, ofOpt, newL]
theorem ev_splitT (ha : evalE Φ ρ a σ = .ok (.str x) σ₁) (hx : x.length ≤ 10000) : evalE Φ ρ (.split true a) σ = .ok (.loc σ₁.length) (σ₁ ++ [.list (strsV (Txt.split x " "))]) := by
  simp only [ee_var, ee_cint, ee_cstr, ee_cnone, ee_cbool, ee_gint, ee_gstr, ee_bin, ee_neg, ee_not, ee_and, ee_or, ee_cmp, ee_cmp2, ee_call, ee_bi, ee_copy, ee_isi, ee_make, ee_meth, ee_attr, ee_idx, ee_sliceTo, ee_sliceFrom, ee_tup, ee_lst, ee_sumAt, ee_rev, ee_strMul, ee_cat, ee_slen, ee_sidx, ee_sTo, ee_sFrom, ee_split, ee_join, ee_upper, ee_giveRepl, ee_strOf, ee_intOf, ee_notIn, ee_inT, ee_notInL, ee_minL, ee_shownL, ha, R.bind, onS_ok hx, ofOpt, newL]
theorem strsL_of : ∀ ws : List Str, strsL (strsV ws) = some ws
  | [] => rfl
  | w :: ws => by
    simp only [List.map_cons, strsL, V.asStr, Option.bind_some, strsL_of ws, Option.map_some]
theorem ev_join {v : V} {ws : List Str} (ha : evalE Φ ρ a σ = .ok v σ₁) (hv : listOf σ₁ v = some (strsV ws)) (hs : (ws.map (·.length)).sum + ws.length ≤ 10000) : evalE Φ ρ (.join a) σ = .ok (.str (Txt.join " " ws)) σ₁ := by
  simp only [ee_var, ee_cint, ee_cstr, ee_cnone, ee_cbool, ee_gint, ee_gstr, ee_bin, ee_neg, ee_not, ee_and, ee_or, ee_cmp, ee_cmp2, ee_call, ee_bi, ee_copy, ee_isi, ee_make, ee_meth, ee_attr, ee_idx, ee_sliceTo, ee_sliceFrom, ee_tup, ee_lst, ee_sumAt, ee_rev, ee_strMul, ee_cat, ee_slen, ee_sidx, ee_sTo, ee_sFrom, ee_split, ee_join, ee_upper, ee_giveRepl, ee_strOf, ee_intOf, ee_notIn, ee_inT, ee_notInL, ee_minL, ee_shownL, ha, R.bind, hv, Option.bind_some, strsL_of, joinV]
  rw [if_pos hs]; rfl
theorem ev_upper (ha : evalE Φ ρ a σ = .ok (.str x) σ₁) (hx : x.length ≤ 10000) : evalE Φ ρ (.upper a) σ = .ok (.str (Txt.upper x)) σ₁ := by
  simp only [ee_var, ee_cint, ee_cstr, ee_cnone, ee_cbool, ee_gint, ee_gstr, ee_bin, ee_neg, ee_not, ee_and, ee_or, ee_cmp, ee_cmp2, ee_call, ee_bi, ee_copy, ee_isi, ee_make, ee_meth, ee_attr, ee_idx, ee_sliceTo, ee_sliceFrom, ee_tup, ee_lst, ee_sumAt, ee_rev, ee_strMul, ee_cat, ee_slen, ee_sidx, ee_sTo, ee_sFrom, ee_split, ee_join, ee_upper, ee_giveRepl, ee_strOf, ee_intOf, ee_notIn, ee_inT, ee_notInL, ee_minL, ee_shownL, ha, R.bind, onS_ok hx, ofOpt]
theorem ev_give {i : Nat} (ha : ρ[i]? = some (some (.str x))) (hx : x.length ≤ 10000) : evalE Φ ρ (.giveRepl i) σ = .ok (.lst (strsV ["give" ++ Txt.slice x (some 3) none, Txt.replace x " " "\t"])) σ := by
  simp only [ee_var, ee_cint, ee_cstr, ee_cnone, ee_cbool, ee_gint, ee_gstr, ee_bin, ee_neg, ee_not, ee_and, ee_or, ee_cmp, ee_cmp2, ee_call, ee_bi, ee_copy, ee_isi, ee_make, ee_meth, ee_attr, ee_idx, ee_sliceTo, ee_sliceFrom, ee_tup, ee_lst, ee_sumAt, ee_rev, ee_strMul, ee_cat, ee_slen, ee_sidx, ee_sTo, ee_sFrom, ee_split, ee_join, ee_upper, ee_giveRepl, ee_strOf, ee_intOf, ee_notIn, ee_inT, ee_notInL, ee_minL, ee_shownL, ha, onS_ok hx, giveV, ofOpt]; rfl
theorem ev_strOf {n : Int} (ha : evalE Φ ρ a σ = .ok (.int n) σ₁) (h : n.natAbs.log2 < 1920) : evalE Φ ρ (.strOf a) σ = .ok (.str (Str.ofString (toString n))) σ₁ := by
  simp only [ee_var, ee_cint, ee_cstr, ee_cnone, ee_cbool, ee_gint, ee_gstr, ee_bin, ee_neg, ee_not, ee_and, ee_or, ee_cmp, ee_cmp2, ee_call, ee_bi, ee_copy, ee_isi, ee_make, ee_meth, ee_attr, ee_idx, ee_sliceTo, ee_sliceFrom, ee_tup, ee_lst, ee_sumAt, ee_rev, ee_strMul, ee_cat, ee_slen, ee_sidx, ee_sTo, ee_sFrom, ee_split, ee_join, ee_upper, ee_giveRepl, ee_strOf, ee_intOf, ee_notIn, ee_inT, ee_notInL, ee_minL, ee_shownL, ha, R.bind, V.asInt, Option.bind_some, textV]
  rw [if_pos h]; rfl
theorem ev_intOf {n : Int} (ha : evalE Φ ρ a σ = .ok (.str x) σ₁) (hx : x.length ≤ 640) (h : intText? x = some n) : evalE Φ ρ (.intOf a) σ = .ok (.int n) σ₁ := by
  simp only [ee_var, ee_cint, ee_cstr, ee_cnone, ee_cbool, ee_gint, ee_gstr, ee_bin, ee_neg, ee_not, ee_and, ee_or, ee_cmp, ee_cmp2, ee_call, ee_bi, ee_copy, ee_isi, ee_make, ee_meth, ee_attr, ee_idx, ee_sliceTo, ee_sliceFrom, ee_tup, ee_lst, ee_sumAt, ee_rev, ee_strMul, ee_cat, ee_slen, ee_sidx, ee_sTo, ee_sFrom, ee_split, ee_join, ee_upper, ee_giveRepl, ee_strOf, ee_intOf, ee_notIn, ee_inT, ee_notInL, ee_minL, ee_shownL, ha, R.bind, onS_ok (show x.length ≤ 10000 by omega), numV]
  rw [if_pos hx, h]; rfl
theorem ev_notIn (ha : evalE Φ ρ a σ = .ok (.str x) σ₁) (hb : evalE Φ ρ b σ₁ = .ok (.str y) σ₂) (hx : x.length ≤ 10000) (hy : y.length ≤ 10000) : evalE Φ ρ (.notIn a b) σ = .ok (.bool (!Txt.contains y x)) σ₂ := by
  simp only [ee_var, ee_cint, ee_cstr, ee_cnone, ee_cbool, ee_gint, ee_gstr, ee_bin, ee_neg, ee_not, ee_and, ee_or, ee_cmp, ee_cmp2, ee_call, ee_bi, ee_copy, ee_isi, ee_make, ee_meth, ee_attr, ee_idx, ee_sliceTo, ee_sliceFrom, ee_tup, ee_lst, ee_sumAt, ee_rev, ee_strMul, ee_cat, ee_slen, ee_sidx, ee_sTo, ee_sFrom, ee_split, ee_join, ee_upper, ee_giveRepl, ee_strOf, ee_intOf, ee_notIn, ee_inT, ee_notInL, ee_minL, ee_shownL, ha, hb, R.bind, onS_ok hx, onS_ok hy, ofOpt]
theorem ev_inT {ws : List Str} (ha : evalE Φ ρ a σ = .ok (.str x) σ₁) (hx : x.length ≤ 10000) : evalE Φ ρ (.inT ws a) σ = .ok (.bool (ws.any (· == x))) σ₁ := by
  simp only [ee_var, ee_cint, ee_cstr, ee_cnone, ee_cbool, ee_gint, ee_gstr, ee_bin, ee_neg, ee_not, ee_and, ee_or, ee_cmp, ee_cmp2, ee_call, ee_bi, ee_copy, ee_isi, ee_make, ee_meth, ee_attr, ee_idx, ee_sliceTo, ee_sliceFrom, ee_tup, ee_lst, ee_sumAt, ee_rev, ee_strMul, ee_cat, ee_slen, ee_sidx, ee_sTo, ee_sFrom, ee_split, ee_join, ee_upper, ee_giveRepl, ee_strOf, ee_intOf, ee_notIn, ee_inT, ee_notInL, ee_minL, ee_shownL, ha, R.bind, onS_ok hx, ofOpt]
theorem ev_notInL {ws : List Str} (ha : evalE Φ ρ a σ = .ok (.str x) σ₁) (hx : x.length ≤ 10000) : evalE Φ ρ (.notInL ws a) σ = .ok (.bool (!ws.any (· == x))) σ₁ := by
  simp only [ee_var, ee_cint, ee_cstr, ee_cnone, ee_cbool, ee_gint, ee_gstr, ee_bin, ee_neg, ee_not, ee_and, ee_or, ee_cmp, ee_cmp2, ee_call, ee_bi, ee_copy, ee_isi, ee_make, ee_meth, ee_attr, ee_idx, ee_sliceTo, ee_sliceFrom, ee_tup, ee_lst, ee_sumAt, ee_rev, ee_strMul, ee_cat, ee_slen, ee_sidx, ee_sTo, ee_sFrom, ee_split, ee_join, ee_upper, ee_giveRepl, ee_strOf, ee_intOf, ee_notIn, ee_inT, ee_notInL, ee_minL, ee_shownL, ha, R.bind, onS_ok hx, ofOpt]
theorem ev_seq (ha : evalE Φ ρ a σ = .ok (.str x) σ₁) (hb : evalE Φ ρ b σ₁ = .ok (.str y) σ₂) : evalE Φ ρ (.cmp .Eq a b) σ = .ok (.bool (decide (x = y))) σ₂ := ev_cmp ha hb rfl
theorem ev_sne (ha : evalE Φ ρ a σ = .ok (.str x) σ₁) (hb : evalE Φ ρ b σ₁ = .ok (.str y) σ₂) : evalE Φ ρ (.cmp .NotEq a b) σ = .ok (.bool (!decide (x = y))) σ₂ := ev_cmp ha hb rfl
end
/-- a number in figures -/
noncomputable def digs (w : Str) : Bool := w.cps.toList.all fun k => decide (48 ≤ k ∧ k ≤ 57)
noncomputable def goodW (w : Str) : Bool := !decide (w = "") && (decide (w.length ≤ 30) && (!(decide (1 < w.length) && decide (Txt.item w 0 = "0")) && digs w))
noncomputable def valW (w : Str) : Int := (NumText.digitsVal w.cps.toList : Nat)
theorem fig_in (k : Nat) : Txt.contains "0123456789" ⟨#[k]⟩ = decide (48 ≤ k ∧ k ≤ 57) := by
  have h := StrLaws.found_one "0123456789" k
  unfold Txt.contains
  rw [h]
  have e : ("0123456789" : Str).cps.toList = [48, 49, 50, 51, 52, 53, 54, 55, 56, 57] := by decide
  rw [e]
  by_cases hk : 48 ≤ k ∧ k ≤ 57
  · rw [decide_eq_true hk, decide_eq_true_eq]
    simp only [List.mem_cons, List.not_mem_nil, or_false]; omega
  · rw [decide_eq_false hk, decide_eq_false_iff_not]
    simp only [List.mem_cons, List.not_mem_nil, or_false]; omega
theorem val_ok {w : Str} (h : goodW w = true) : intText? w = some (valW w) ∧ 0 ≤ valW w := by
  unfold goodW at h
  simp only [Bool.and_eq_true, Bool.not_eq_true', decide_eq_false_iff_not, decide_eq_true_eq] at h
  obtain ⟨h1, h2, h3, h4⟩ := h
  have hne : w.cps.toList ≠ [] := by
    intro e
    apply h1
    obtain ⟨⟨l⟩⟩ := w
    dsimp only at e
    subst e
    decide
  have hd : NumText.AllDigits w.cps.toList := by
    intro k hk
    unfold digs at h4
    rw [List.all_eq_true] at h4
    exact of_decide_eq_true (h4 k hk)
  exact ⟨intText_digits hd hne (by omega), by unfold valW; omega⟩
theorem ev_cell13 {N : Nat} {ns : List Int} (hl : ns.length ≤ 63) (hN : 0 < N) {ρ : Loc} (k : Int) {n : Nat} (h0 : 0 ≤ k) (hk : k < 100) (hn : k.toNat = n) (σ : Store) : evalE (pre Pg N) (some (.lst (ns.map .int)) :: ρ) (.call 0 [.var 0, .cint k]) σ = .ok (.int (cellAt ns n)) σ := by
  subst hn
  refine x_fn (ev2 (ev_var rfl) ev_int) hN ?_
  rw [fn_has Q0]
  have h1 : (ns.map V.int).length ≤ 1000000 := by rw [List.length_map]; omega
  have h2 : k < 1000000 := by omega
  have e1 : seqOf σ (.lst (ns.map .int)) = some (ns.map .int) := rfl
  have e2 : biV σ .len [.lst (ns.map .int)] = some (.int (ns.length : Int)) := by
    simp only [biV, bi1, e1, Option.bind_some]
    rw [if_pos h1, List.length_map]
  by_cases h : k < (ns.length : Int)
  · have hh : k.toNat < ns.length := by omega
    have e3 : itemV σ (.lst (ns.map .int)) (.int k) = some (.int (cellAt ns k.toNat)) := by
      simp only [itemV, e1, Option.bind_some, V.asInt]
      rw [if_pos h0, if_pos h2]
      simp [cellAt, hh]
    simp [callFn, b_l_cell_at, s_l_cell_at, xb_0, xb_1, xs_expr, xs_append, xs_assign, xs_unpack, xs_setattr, xs_setitem, xs_unpackSub, xs_unpackL, xs_ite, xs_forIn, xs_forRange, xs_forTup, xs_forStr, xs_asgMap, xs_while, xs_ret, xs_retNone, xs_brk, xs_cont, xs_pass, xs_raise, xs_try, xs_hand, ee_var, ee_cint, ee_cstr, ee_cnone, ee_cbool, ee_gint, ee_gstr, ee_bin, ee_neg, ee_not, ee_and, ee_or, ee_cmp, ee_cmp2, ee_call, ee_bi, ee_copy, ee_isi, ee_make, ee_meth, ee_attr, ee_idx, ee_sliceTo, ee_sliceFrom, ee_tup, ee_lst, ee_sumAt, ee_rev, ee_strMul, ee_cat, ee_slen, ee_sidx, ee_sTo, ee_sFrom, ee_split, ee_join, ee_upper, ee_giveRepl, ee_strOf, ee_intOf, ee_notIn, ee_inT, ee_notInL, ee_minL, ee_shownL, es_0, es_1, R.bind, R.got, R.on, R.son, ofOpt, cmp_lt, truth, e2, e3, h]
  · have hh : ¬ k.toNat < ns.length := by omega
    have e3 : cellAt ns k.toNat = 0 := by simp [cellAt, List.getElem?_eq_none (Nat.le_of_not_lt hh)]
    simp [callFn, b_l_cell_at, s_l_cell_at, xb_0, xb_1, xs_expr, xs_append, xs_assign, xs_unpack, xs_setattr, xs_setitem, xs_unpackSub, xs_unpackL, xs_ite, xs_forIn, xs_forRange, xs_forTup, xs_forStr, xs_asgMap, xs_while, xs_ret, xs_retNone, xs_brk, xs_cont, xs_pass, xs_raise, xs_try, xs_hand, ee_var, ee_cint, ee_cstr, ee_cnone, ee_cbool, ee_gint, ee_gstr, ee_bin, ee_neg, ee_not, ee_and, ee_or, ee_cmp, ee_cmp2, ee_call, ee_bi, ee_copy, ee_isi, ee_make, ee_meth, ee_attr, ee_idx, ee_sliceTo, ee_sliceFrom, ee_tup, ee_lst, ee_sumAt, ee_rev, ee_strMul, ee_cat, ee_slen, ee_sidx, ee_sTo, ee_sFrom, ee_split, ee_join, ee_upper, ee_giveRepl, ee_strOf, ee_intOf, ee_notIn, ee_inT, ee_notInL, ee_minL, ee_shownL, es_0, es_1, R.bind, R.got, R.on, R.son, ofOpt, cmp_lt, truth, e2, h, e3]
theorem ev_or3a {Φ : Fns} {ρ : Loc} {a b c : ME} {σ : Store} (h1 : evalE Φ ρ a σ = .ok (.bool true) σ) : evalE Φ ρ (.or [a, b, c]) σ = .ok (.bool true) σ := by
  simp only [ee_var, ee_cint, ee_cstr, ee_cnone, ee_cbool, ee_gint, ee_gstr, ee_bin, ee_neg, ee_not, ee_and, ee_or, ee_cmp, ee_cmp2, ee_call, ee_bi, ee_copy, ee_isi, ee_make, ee_meth, ee_attr, ee_idx, ee_sliceTo, ee_sliceFrom, ee_tup, ee_lst, ee_sumAt, ee_rev, ee_strMul, ee_cat, ee_slen, ee_sidx, ee_sTo, ee_sFrom, ee_split, ee_join, ee_upper, ee_giveRepl, ee_strOf, ee_intOf, ee_notIn, ee_inT, ee_notInL, ee_minL, ee_shownL, eo_0, eo_1, h1, R.bind, truth, ofOpt, if_true]
theorem ev_or3b {Φ : Fns} {ρ : Loc} {a b c : ME} {σ : Store} (h1 : evalE Φ ρ a σ = .ok (.bool false) σ) (h2 : evalE Φ ρ b σ = .ok (.bool true) σ) : evalE Φ ρ (.or [a, b, c]) σ = .ok (.bool true) σ := by
  simp only [ee_var, ee_cint, ee_cstr, ee_cnone, ee_cbool, ee_gint, ee_gstr, ee_bin, ee_neg, ee_not, ee_and, ee_or, ee_cmp, ee_cmp2, ee_call, ee_bi, ee_copy, ee_isi, ee_make, ee_meth, ee_attr, ee_idx, ee_sliceTo, ee_sliceFrom, ee_tup, ee_lst, ee_sumAt, ee_rev, ee_strMul, ee_cat, ee_slen, ee_sidx, ee_sTo, ee_sFrom, ee_split, ee_join, ee_upper, ee_giveRepl, ee_strOf, ee_intOf, ee_notIn, ee_inT, ee_notInL, ee_minL, ee_shownL, eo_0, eo_1, h1, h2, R.bind, truth, ofOpt, Bool.false_eq_true, if_false, if_true]
theorem ev_or3c {Φ : Fns} {ρ : Loc} {a b c : ME} {σ : Store} {p : Bool} (h1 : evalE Φ ρ a σ = .ok (.bool false) σ) (h2 : evalE Φ ρ b σ = .ok (.bool false) σ) (h3 : evalE Φ ρ c σ = .ok (.bool p) σ) : evalE Φ ρ (.or [a, b, c]) σ = .ok (.bool p) σ := by
  simp only [ee_var, ee_cint, ee_cstr, ee_cnone, ee_cbool, ee_gint, ee_gstr, ee_bin, ee_neg, ee_not, ee_and, ee_or, ee_cmp, ee_cmp2, ee_call, ee_bi, ee_copy, ee_isi, ee_make, ee_meth, ee_attr, ee_idx, ee_sliceTo, ee_sliceFrom, ee_tup, ee_lst, ee_sumAt, ee_rev, ee_strMul, ee_cat, ee_slen, ee_sidx, ee_sTo, ee_sFrom, ee_split, ee_join, ee_upper, ee_giveRepl, ee_strOf, ee_intOf, ee_notIn, ee_inT, ee_notInL, ee_minL, ee_shownL, eo_0, eo_1, h1, h2, h3, R.bind, truth, ofOpt, Bool.false_eq_true, if_false]
/-- the signs gone through -/
noncomputable def bodyOf : List MS := [.ite (.notIn (.var 1) (.gstr "FIGURES" "0123456789")) [.raise "NoNote" 5 "no number"] []]
theorem loop_of (Φ : Fns) (x0 : Option V) (σ : Store) : ∀ (l : List Nat) (x1 : Option V),
    ((l.all fun k => decide (48 ≤ k ∧ k ≤ 57)) = true → ∃ y1, forC (execB Φ bodyOf) 1 l [x0, x1] σ = .ok (.next [x0, y1]) σ) ∧
    ((l.all fun k => decide (48 ≤ k ∧ k ≤ 57)) = false → ∃ ρ', forC (execB Φ bodyOf) 1 l [x0, x1] σ = .exn true 5 ρ' σ)
  | [], x1 => ⟨fun _ => ⟨x1, rfl⟩, fun h => by cases h⟩
  | k :: l, x1 => by
    have hc : evalE Φ [x0, some (.str ⟨#[k]⟩)] (.notIn (.var 1) (.gstr "FIGURES" "0123456789")) σ = .ok (.bool (!decide (48 ≤ k ∧ k ≤ 57))) σ := by
      rw [← fig_in k]
      exact ev_notIn (ev_var rfl) (by simp only [ee_var, ee_cint, ee_cstr, ee_cnone, ee_cbool, ee_gint, ee_gstr, ee_bin, ee_neg, ee_not, ee_and, ee_or, ee_cmp, ee_cmp2, ee_call, ee_bi, ee_copy, ee_isi, ee_make, ee_meth, ee_attr, ee_idx, ee_sliceTo, ee_sliceFrom, ee_tup, ee_lst, ee_sumAt, ee_rev, ee_strMul, ee_cat, ee_slen, ee_sidx, ee_sTo, ee_sFrom, ee_split, ee_join, ee_upper, ee_giveRepl, ee_strOf, ee_intOf, ee_notIn, ee_inT, ee_notInL, ee_minL, ee_shownL]) (by show 1 ≤ 10000; decide) (by decide)
    simp only [forC, List.set_cons_zero, List.set_cons_succ, List.all_cons]
    cases hb : decide (48 ≤ k ∧ k ≤ 57) with
    | true =>
      rw [hb] at hc
      have t : execB Φ bodyOf [x0, some (.str ⟨#[k]⟩)] σ = .ok (.next [x0, some (.str ⟨#[k]⟩)]) σ := step (ex_ite hc ex_nil) ex_nil
      rw [t]
      simp only [Bool.true_and]
      exact loop_of Φ x0 σ l (some (.str ⟨#[k]⟩))
    | false =>
      rw [hb] at hc
      have t : execB Φ bodyOf [x0, some (.str ⟨#[k]⟩)] σ = .exn true 5 [x0, some (.str ⟨#[k]⟩)] σ := step_no (ex_ite hc ex_raise)
      rw [t]
      exact ⟨fun h => by simp at h, fun _ => ⟨_, rfl⟩⟩
noncomputable def bodyNum : List MS := [.ite (.notIn (.var 1) (.cstr "0123456789")) [.ret (.neg (.cint 1))] []]
theorem loop_num (Φ : Fns) (x0 : Option V) (σ : Store) : ∀ (l : List Nat) (x1 : Option V),
    ((l.all fun k => decide (48 ≤ k ∧ k ≤ 57)) = true → ∃ y1, forC (execB Φ bodyNum) 1 l [x0, x1] σ = .ok (.next [x0, y1]) σ) ∧
    ((l.all fun k => decide (48 ≤ k ∧ k ≤ 57)) = false → forC (execB Φ bodyNum) 1 l [x0, x1] σ = .ok (.ret (.int (-1))) σ)
  | [], x1 => ⟨fun _ => ⟨x1, rfl⟩, fun h => by cases h⟩
  | k :: l, x1 => by
    have hc : evalE Φ [x0, some (.str ⟨#[k]⟩)] (.notIn (.var 1) (.cstr "0123456789")) σ = .ok (.bool (!decide (48 ≤ k ∧ k ≤ 57))) σ := by
      rw [← fig_in k]
      exact ev_notIn (ev_var rfl) ev_str (by show 1 ≤ 10000; decide) (by decide)
    simp only [forC, List.set_cons_zero, List.set_cons_succ, List.all_cons]
    cases hb : decide (48 ≤ k ∧ k ≤ 57) with
    | true =>
      rw [hb] at hc
      have t : execB Φ bodyNum [x0, some (.str ⟨#[k]⟩)] σ = .ok (.next [x0, some (.str ⟨#[k]⟩)]) σ := step (ex_ite hc ex_nil) ex_nil
      rw [t]
      simp only [Bool.true_and]
      exact loop_num Φ x0 σ l (some (.str ⟨#[k]⟩))
    | false =>
      rw [hb] at hc
      have t : execB Φ bodyNum [x0, some (.str ⟨#[k]⟩)] σ = .ok (.ret (.int (-1))) σ := ret_step (ex_ite hc (ex_ret (ev_neg ev_int)))
      rw [t]
      exact ⟨fun h => by simp at h, fun _ => rfl⟩
theorem ex_forStr {Φ : Fns} {i : Nat} {e : ME} {body : List MS} {ρ : Loc} {σ σ' : Store} {w : Str} {x : SR} (h : evalE Φ ρ e σ = .ok (.str w) σ') (hw : w.length ≤ 10000) (k : forC (execB Φ body) i w.cps.toList ρ σ' = x) : execS Φ (.forStr i e body) ρ σ = x := by
  simp only [xs_expr, xs_append, xs_assign, xs_unpack, xs_setattr, xs_setitem, xs_unpackSub, xs_unpackL, xs_ite, xs_forIn, xs_forRange, xs_forTup, xs_forStr, xs_asgMap, xs_while, xs_ret, xs_retNone, xs_brk, xs_cont, xs_pass, xs_raise, xs_try, xs_hand, h, R.on]
  rw [if_pos hw]
  exact k
theorem nonempty_len {w : Str} (h : w ≠ "") : 0 < w.length := by
  obtain ⟨⟨l⟩⟩ := w
  cases l with
  | nil => exact absurd (by decide) h
  | cons a l => show 0 < (a :: l).length; simp
theorem F_number_of (w : Str) (hw : w.length ≤ 10000) (σ : Store) : fn Pg 38 [.str w] σ = if goodW w = true then .ok (.int (valW w)) σ else .exn 5 σ := by
  rw [fn_has P38]
  have c1 : evalE (pre Pg 38) [some (.str w), none] (.or [.cmp .Eq (.var 0) (.cstr ""), .cmp .Gt (.slen (.var 0)) (.gint "MOST_FIGURES" 30)]) σ = .ok (.bool (decide (w = "") || decide (30 < (w.length : Int)))) σ := or_tt (ev_seq (ev_var rfl) ev_str) fun _ => ev_gt (ev_slen (ev_var rfl) hw) ev_gint
  by_cases h1 : w = "" ∨ 30 < (w.length : Int)
  · have e : (decide (w = "") || decide (30 < (w.length : Int))) = true := by rw [Bool.or_eq_true, decide_eq_true_eq, decide_eq_true_eq]; exact h1
    rw [e] at c1
    have hg : ¬ goodW w = true := by
      unfold goodW
      simp only [Bool.and_eq_true, Bool.not_eq_true', decide_eq_false_iff_not, decide_eq_true_eq]
      rintro ⟨a, b, _⟩
      rcases h1 with h1 | h1
      · exact a h1
      · omega
    rw [if_neg hg]
    exact callFn_no rfl (step_no (ex_ite c1 ex_raise))
  · have e : (decide (w = "") || decide (30 < (w.length : Int))) = false := by
      rw [Bool.or_eq_false_iff, decide_eq_false_iff_not, decide_eq_false_iff_not]; exact ⟨fun h => h1 (.inl h), fun h => h1 (.inr h)⟩
    rw [e] at c1
    have hne : w ≠ "" := fun h => h1 (.inl h)
    have hpos := nonempty_len hne
    obtain ⟨l1, l2⟩ := loop_of (pre Pg 38) (some (.str w)) σ w.cps.toList none
    cases hd : digs w with
    | false =>
      obtain ⟨ρ', h⟩ := l2 hd
      rw [if_neg (by unfold goodW; rw [hd]; simp)]
      exact callFn_no rfl (step (ex_ite c1 ex_nil) (step_no (ex_forStr (ev_var rfl) hw h)))
    | true =>
      obtain ⟨y1, h⟩ := l1 hd
      have c2 : evalE (pre Pg 38) [some (.str w), y1] (.and [.cmp .Eq (.sidx (.var 0) (.cint 0)) (.cstr "0"), .cmp .Gt (.slen (.var 0)) (.cint 1)]) σ = .ok (.bool (decide (Txt.item w 0 = "0") && decide (1 < (w.length : Int)))) σ := and_tt (ev_seq (ev_sidx (ev_var rfl) ev_int hw (by decide) (by omega)) ev_str) fun _ => ev_gt (ev_slen (ev_var rfl) hw) ev_int
      by_cases h2 : Txt.item w 0 = "0" ∧ 1 < (w.length : Int)
      · rw [decide_eq_true h2.1, decide_eq_true h2.2] at c2
        have hg : ¬ goodW w = true := by
          unfold goodW
          rw [decide_eq_true h2.1, decide_eq_true (show 1 < w.length by omega)]
          simp
        rw [if_neg hg]
        exact callFn_no rfl (step (ex_ite c1 ex_nil) (step (ex_forStr (ev_var rfl) hw h) (step_no (ex_ite c2 ex_raise))))
      · have e2 : (decide (Txt.item w 0 = "0") && decide (1 < (w.length : Int))) = false := by
          rw [Bool.and_eq_false_iff, decide_eq_false_iff_not, decide_eq_false_iff_not]
          by_cases q : Txt.item w 0 = "0"
          · exact .inr fun z => h2 ⟨q, z⟩
          · exact .inl q
        rw [e2] at c2
        have hg : goodW w = true := by
          unfold goodW
          rw [hd, decide_eq_false hne, decide_eq_true (show w.length ≤ 30 by omega)]
          have e3 : (decide (1 < w.length) && decide (Txt.item w 0 = "0")) = false := by
            rw [Bool.and_eq_false_iff, decide_eq_false_iff_not, decide_eq_false_iff_not]
            by_cases q : Txt.item w 0 = "0"
            · exact .inl fun z => h2 ⟨q, by omega⟩
            · exact .inr q
          rw [e3]; rfl
        rw [if_pos hg]
        exact callFn_ret rfl (step (ex_ite c1 ex_nil) (step (ex_forStr (ev_var rfl) hw h) (step (ex_ite c2 ex_nil) (ex_ret (ev_intOf (ev_var rfl) (by omega) (val_ok hg).1)))))
noncomputable def numW (w : Str) : Int := if goodW w = true then valW w else -1
theorem F_number (w : Str) (hw : w.length ≤ 10000) (σ : Store) : fn Pg 17 [.str w] σ = .ok (.int (numW w)) σ := by
  rw [fn_has P17]
  unfold numW
  have cz : w ≠ "" → evalE (pre Pg 17) [some (.str w), none] (.and [.cmp .Gt (.slen (.var 0)) (.cint 1), .cmp .Eq (.sidx (.var 0) (.cint 0)) (.cstr "0")]) σ = .ok (.bool (decide (1 < (w.length : Int)) && decide (Txt.item w 0 = "0"))) σ := fun hne => by
    have hpos := nonempty_len hne
    exact and_tt (ev_gt (ev_slen (ev_var rfl) hw) ev_int) fun _ => ev_seq (ev_sidx (ev_var rfl) ev_int hw (by decide) (by omega)) ev_str
  have c1 : evalE (pre Pg 17) [some (.str w), none] (.or [.cmp .Eq (.var 0) (.cstr ""), .cmp .Gt (.slen (.var 0)) (.cint 30), .and [.cmp .Gt (.slen (.var 0)) (.cint 1), .cmp .Eq (.sidx (.var 0) (.cint 0)) (.cstr "0")]]) σ = .ok (.bool (decide (w = "" ∨ 30 < (w.length : Int) ∨ (1 < (w.length : Int) ∧ Txt.item w 0 = "0")))) σ := by
    have a1 : evalE (pre Pg 17) [some (.str w), none] (.cmp .Eq (.var 0) (.cstr "")) σ = .ok (.bool (decide (w = ""))) σ := ev_seq (ev_var rfl) ev_str
    have a2 : evalE (pre Pg 17) [some (.str w), none] (.cmp .Gt (.slen (.var 0)) (.cint 30)) σ = .ok (.bool (decide (30 < (w.length : Int)))) σ := ev_gt (ev_slen (ev_var rfl) hw) ev_int
    by_cases q1 : w = ""
    · rw [decide_eq_true q1] at a1
      rw [decide_eq_true (.inl q1)]
      exact ev_or3a a1
    · rw [decide_eq_false q1] at a1
      have a3 := cz q1
      by_cases q2 : 30 < (w.length : Int)
      · rw [decide_eq_true q2] at a2
        rw [decide_eq_true (.inr (.inl q2))]
        exact ev_or3b a1 a2
      · rw [decide_eq_false q2] at a2
        have e : (decide (1 < (w.length : Int)) && decide (Txt.item w 0 = "0")) = decide (w = "" ∨ 30 < (w.length : Int) ∨ (1 < (w.length : Int) ∧ Txt.item w 0 = "0")) := by
          by_cases r1 : 1 < (w.length : Int) <;> by_cases r2 : Txt.item w 0 = "0" <;> simp [q1, q2, r1, r2]
        rw [← e]
        exact ev_or3c a1 a2 a3
  by_cases h1 : w = "" ∨ 30 < (w.length : Int) ∨ (1 < (w.length : Int) ∧ Txt.item w 0 = "0")
  · rw [decide_eq_true h1] at c1
    have hg : ¬ goodW w = true := by
      unfold goodW
      simp only [Bool.and_eq_true, Bool.not_eq_true', decide_eq_false_iff_not, decide_eq_true_eq, Bool.and_eq_false_iff]
      rintro ⟨a, b, cc, _⟩
      rcases h1 with h1 | h1 | ⟨h1, h2⟩
      · exact a h1
      · omega
      · rcases cc with cc | cc
        · exact cc (by omega)
        · exact cc h2
    rw [if_neg hg]
    exact callFn_ret rfl (ret_step (ex_ite c1 (ex_ret (ev_neg ev_int))))
  · rw [decide_eq_false h1] at c1
    have hne : w ≠ "" := fun h => h1 (.inl h)
    obtain ⟨l1, l2⟩ := loop_num (pre Pg 17) (some (.str w)) σ w.cps.toList none
    cases hd : digs w with
    | false =>
      rw [if_neg (by unfold goodW; rw [hd]; simp)]
      exact callFn_ret rfl (step (ex_ite c1 ex_nil) (ret_step (ex_forStr (ev_var rfl) hw (l2 hd))))
    | true =>
      obtain ⟨y1, h⟩ := l1 hd
      have hg : goodW w = true := by
        unfold goodW
        rw [hd, decide_eq_false hne, decide_eq_true (show w.length ≤ 30 by have : ¬ 30 < (w.length : Int) := fun h => h1 (.inr (.inl h)); omega)]
        have e3 : (decide (1 < w.length) && decide (Txt.item w 0 = "0")) = false := by
          rw [Bool.and_eq_false_iff, decide_eq_false_iff_not, decide_eq_false_iff_not]
          by_cases q : Txt.item w 0 = "0"
          · exact .inl fun z => h1 (.inr (.inr ⟨by omega, q⟩))
          · exact .inr q
        rw [e3]; rfl
      have hlen : w.length ≤ 640 := by have : ¬ 30 < (w.length : Int) := fun h => h1 (.inr (.inl h)); omega
      rw [if_pos hg]
      exact callFn_ret rfl (step (ex_ite c1 ex_nil) (step (ex_forStr (ev_var rfl) hw h) (ex_ret (ev_intOf (ev_var rfl) hlen (val_ok hg).1))))
/-- the words of a line -/
noncomputable def wordsL (line : Str) : List Str := Txt.split line " "
theorem split_ne (x : Str) : wordsL x ≠ [] := by
  unfold wordsL Txt.split
  split
  · exact List.cons_ne_nil _ _
  · split
    · exact List.cons_ne_nil _ _
    · intro h
      have := congrArg List.length h
      rw [length_partsBetween] at this
      simp at this
theorem word_len {x w : Str} (h : w ∈ wordsL x) : w.length ≤ x.length := PyProof.Rows.part_short h
theorem words_few (x : Str) : ((wordsL x).map (·.length)).sum + (wordsL x).length ≤ x.length + 1 := PyProof.Rows.split_weight x " " (by decide)
/-- what a line says -/
noncomputable def dueR (ws : List Str) : Option (Str × List Int) := match ws with
  | [k, a, b] => if (k = "pay" ∨ k = "rate") ∧ goodW a = true ∧ goodW b = true then some (k, [valW a, valW b]) else none
  | [k, a] => if k = "owe" ∧ goodW a = true then some (k, [valW a]) else none
  | _ => none
theorem due3 (k a b : Str) : dueR [k, a, b] = if (k = "pay" ∨ k = "rate") ∧ goodW a = true ∧ goodW b = true then some (k, [valW a, valW b]) else none := rfl
theorem due2 (k a : Str) : dueR [k, a] = if k = "owe" ∧ goodW a = true then some (k, [valW a]) else none := rfl
theorem ev_tup_no {Φ : Fns} {ρ : Loc} {es : List ME} {σ σ' : Store} {k : Nat} (h : evalEs Φ ρ es σ = .exn k σ') : evalE Φ ρ (.tup es) σ = .exn k σ' := by simp only [ee_var, ee_cint, ee_cstr, ee_cnone, ee_cbool, ee_gint, ee_gstr, ee_bin, ee_neg, ee_not, ee_and, ee_or, ee_cmp, ee_cmp2, ee_call, ee_bi, ee_copy, ee_isi, ee_make, ee_meth, ee_attr, ee_idx, ee_sliceTo, ee_sliceFrom, ee_tup, ee_lst, ee_sumAt, ee_rev, ee_strMul, ee_cat, ee_slen, ee_sidx, ee_sTo, ee_sFrom, ee_split, ee_join, ee_upper, ee_giveRepl, ee_strOf, ee_intOf, ee_notIn, ee_inT, ee_notInL, ee_minL, ee_shownL, h, R.bind]
theorem evs_no1 {Φ : Fns} {ρ : Loc} {e : ME} {es : List ME} {σ σ' : Store} {k : Nat} (h : evalE Φ ρ e σ = .exn k σ') : evalEs Φ ρ (e :: es) σ = .exn k σ' := by simp only [es_0, es_1, h, R.bind]
theorem evs_no2 {Φ : Fns} {ρ : Loc} {e : ME} {es : List ME} {σ σ₁ σ' : Store} {v : V} {k : Nat} (h : evalE Φ ρ e σ = .ok v σ₁) (h2 : evalEs Φ ρ es σ₁ = .exn k σ') : evalEs Φ ρ (e :: es) σ = .exn k σ' := by simp only [es_0, es_1, h, h2, R.bind]
theorem ex_ret_no {Φ : Fns} {e : ME} {r : List MS} {ρ : Loc} {σ σ' : Store} {k : Nat} (h : evalE Φ ρ e σ = .exn k σ') : execB Φ (.ret e :: r) ρ σ = .exn false k ρ σ' := by simp only [xb_0, xb_1, xs_expr, xs_append, xs_assign, xs_unpack, xs_setattr, xs_setitem, xs_unpackSub, xs_unpackL, xs_ite, xs_forIn, xs_forRange, xs_forTup, xs_forStr, xs_asgMap, xs_while, xs_ret, xs_retNone, xs_brk, xs_cont, xs_pass, xs_raise, xs_try, xs_hand, h, R.on]
theorem two_any (k : Str) : (["pay", "rate"] : List Str).any (· == k) = decide (k = "pay" ∨ k = "rate") := by
  by_cases h1 : k = "pay"
  · subst h1; decide
  · by_cases h2 : k = "rate"
    · subst h2; decide
    · have e1 : (("pay" : Str) == k) = false := by simpa using fun h => h1 h.symm
      have e2 : (("rate" : Str) == k) = false := by simpa using fun h => h2 h.symm
      simp [e1, e2, h1, h2]
theorem three_any (k : Str) : (["pay", "rate", "owe"] : List Str).any (· == k) = decide (k = "pay" ∨ k = "rate" ∨ k = "owe") := by
  by_cases h1 : k = "pay"
  · subst h1; decide
  · by_cases h2 : k = "rate"
    · subst h2; decide
    · by_cases h3 : k = "owe"
      · subst h3; decide
      · have e1 : (("pay" : Str) == k) = false := by simpa using fun h => h1 h.symm
        have e2 : (("rate" : Str) == k) = false := by simpa using fun h => h2 h.symm
        have e3 : (("owe" : Str) == k) = false := by simpa using fun h => h3 h.symm
        simp [e1, e2, e3, h1, h2, h3]
theorem ex_raiseS {Φ : Fns} {x s : Str} {k : Nat} {ρ : Loc} {σ : Store} : execS Φ (.raise x k s) ρ σ = .exn true k ρ σ := by simp only [xs_expr, xs_append, xs_assign, xs_unpack, xs_setattr, xs_setitem, xs_unpackSub, xs_unpackL, xs_ite, xs_forIn, xs_forRange, xs_forTup, xs_forStr, xs_asgMap, xs_while, xs_ret, xs_retNone, xs_brk, xs_cont, xs_pass, xs_raise, xs_try, xs_hand]
theorem F_read (line : Str) (hl : line.length ≤ 9000) (σ : Store) : fn Pg 39 [.str line] σ = match dueR (wordsL line) with | some q => .ok (.tup (.str q.1 :: q.2.map .int)) σ | none => .exn 5 σ := by
  rw [fn_has P39]
  have hne := split_ne line
  have hw := fun w (h : w ∈ wordsL line) => Nat.le_trans (word_len h) hl
  have hfew := words_few line
  have s0 : execS (pre Pg 39) (.assign 1 (.split false (.var 0))) [some (.str line), none] σ = .ok (.next [some (.str line), some (.lst (strsV (wordsL line)))]) σ := ex_assign (ev_splitF (ev_var rfl) (by omega))
  generalize wordsL line = ws at *
  cases ws with
  | nil => exact absurd rfl hne
  | cons k r =>
    have hk : k.length ≤ 10000 := by have := hw k (List.mem_cons_self ..); omega
    have hlen := len_l (σ := σ) (vs := strsV (k :: r)) (n := ((k :: r).length : Int)) (by rw [List.length_map]; omega) (by rw [List.length_map])
    have i0 : evalE (pre Pg 39) [some (.str line), some (.lst (strsV (k :: r)))] (.idx (.var 1) (.cint 0)) σ = .ok (.str k) σ := ev_idx (ev_var rfl) ev_int it_l0
    have c1 : evalE (pre Pg 39) [some (.str line), some (.lst (strsV (k :: r)))] (.and [.inT ["pay", "rate"] (.idx (.var 1) (.cint 0)), .cmp .Eq (.bi .len [.var 1]) (.cint 3)]) σ = .ok (.bool (decide (k = "pay" ∨ k = "rate") && decide (((k :: r).length : Int) = 3))) σ :=
      and_tt ((ev_inT i0 hk).trans (by rw [two_any])) fun _ => ev_eq (ev_len (ev_var rfl) hlen) ev_int
    have c2 : evalE (pre Pg 39) [some (.str line), some (.lst (strsV (k :: r)))] (.and [.cmp .Eq (.idx (.var 1) (.cint 0)) (.cstr "owe"), .cmp .Eq (.bi .len [.var 1]) (.cint 2)]) σ = .ok (.bool (decide (k = "owe") && decide (((k :: r).length : Int) = 2))) σ :=
      and_tt (ev_seq i0 ev_str) fun _ => ev_eq (ev_len (ev_var rfl) hlen) ev_int
    by_cases h1 : (k = "pay" ∨ k = "rate") ∧ ((k :: r).length : Int) = 3
    · rw [decide_eq_true h1.1, decide_eq_true h1.2] at c1
      obtain ⟨a, b, rfl⟩ : ∃ a b, r = [a, b] := by
        rcases r with _ | ⟨a, _ | ⟨b, _ | ⟨cc, r⟩⟩⟩
        · simp at h1
        · simp at h1
        · exact ⟨a, b, rfl⟩
        · have := h1.2; simp only [List.length_cons] at this; omega
      have ha := F_number_of a (by have := hw a (by simp); omega) σ
      have hb := F_number_of b (by have := hw b (by simp); omega) σ
      have i1 : evalEs (pre Pg 39) [some (.str line), some (.lst (strsV [k, a, b]))] [.idx (.var 1) (.cint 1)] σ = .ok [.str a] σ := ev1 (ev_idx (ev_var rfl) ev_int it_l1)
      have i2 : evalEs (pre Pg 39) [some (.str line), some (.lst (strsV [k, a, b]))] [.idx (.var 1) (.cint 2)] σ = .ok [.str b] σ := ev1 (ev_idx (ev_var rfl) ev_int it_l2)
      cases ga : goodW a with
      | false =>
        rw [ga, if_neg (by simp)] at ha
        have e : dueR [k, a, b] = none := by
          rw [due3, if_neg (by rw [ga]; simp)]
        rw [e]
        exact callFn_no rfl (step s0 (step_no (ex_ite c1 (ex_ret_no (ev_tup_no (evs_no2 i0 (evs_no1 (x_fn i1 (by decide) ha))))))))
      | true =>
        rw [ga, if_pos rfl] at ha
        cases gb : goodW b with
        | false =>
          rw [gb, if_neg (by simp)] at hb
          have e : dueR [k, a, b] = none := by
            rw [due3, if_neg (by rw [gb]; simp)]
          rw [e]
          exact callFn_no rfl (step s0 (step_no (ex_ite c1 (ex_ret_no (ev_tup_no (evs_no2 i0 (evs_no2 (x_fn i1 (by decide) ha) (evs_no1 (x_fn i2 (by decide) hb)))))))))
        | true =>
          rw [gb, if_pos rfl] at hb
          have e : dueR [k, a, b] = some (k, [valW a, valW b]) := by
            rw [due3, if_pos ⟨h1.1, ga, gb⟩]
          rw [e]
          exact callFn_ret rfl (step s0 (ret_step (ex_ite c1 (ex_ret (ev_tup (ev3 i0 (x_fn i1 (by decide) ha) (x_fn i2 (by decide) hb)))))))
    · have e1 : (decide (k = "pay" ∨ k = "rate") && decide (((k :: r).length : Int) = 3)) = false := by
        rw [Bool.and_eq_false_iff, decide_eq_false_iff_not, decide_eq_false_iff_not]
        by_cases q : k = "pay" ∨ k = "rate"
        · exact .inr fun z => h1 ⟨q, z⟩
        · exact .inl q
      rw [e1] at c1
      by_cases h2 : k = "owe" ∧ ((k :: r).length : Int) = 2
      · rw [decide_eq_true h2.1, decide_eq_true h2.2] at c2
        obtain ⟨a, rfl⟩ : ∃ a, r = [a] := by
          rcases r with _ | ⟨a, _ | ⟨b, r⟩⟩
          · simp at h2
          · exact ⟨a, rfl⟩
          · have := h2.2; simp only [List.length_cons] at this; omega
        have ha := F_number_of a (by have := hw a (by simp); omega) σ
        have i1 : evalEs (pre Pg 39) [some (.str line), some (.lst (strsV [k, a]))] [.idx (.var 1) (.cint 1)] σ = .ok [.str a] σ := ev1 (ev_idx (ev_var rfl) ev_int it_l1)
        cases ga : goodW a with
        | false =>
          rw [ga, if_neg (by simp)] at ha
          have e : dueR [k, a] = none := by
            rw [due2, if_neg (by rw [ga]; simp)]
          rw [e]
          exact callFn_no rfl (step s0 (step (ex_ite c1 ex_nil) (step_no (ex_ite c2 (ex_ret_no (ev_tup_no (evs_no2 ev_str (evs_no1 (x_fn i1 (by decide) ha)))))))))
        | true =>
          rw [ga, if_pos rfl] at ha
          have e : dueR [k, a] = some (("owe" : Str), [valW a]) := by
            rw [due2, if_pos ⟨h2.1, ga⟩, h2.1]
          rw [e]
          exact callFn_ret rfl (step s0 (step (ex_ite c1 ex_nil) (ret_step (ex_ite c2 (ex_ret (ev_tup (ev2 ev_str (x_fn i1 (by decide) ha))))))))
      · have e2 : (decide (k = "owe") && decide (((k :: r).length : Int) = 2)) = false := by
          rw [Bool.and_eq_false_iff, decide_eq_false_iff_not, decide_eq_false_iff_not]
          by_cases q : k = "owe"
          · exact .inr fun z => h2 ⟨q, z⟩
          · exact .inl q
        rw [e2] at c2
        have e : dueR (k :: r) = none := by
          rcases r with _ | ⟨a, _ | ⟨b, _ | ⟨cc, r⟩⟩⟩
          · rfl
          · rw [due2, if_neg (fun h => h2 ⟨h.1, rfl⟩)]
          · rw [due3, if_neg (fun h => h1 ⟨h.1, rfl⟩)]
          · rfl
        rw [e]
        exact callFn_no rfl (step s0 (step (ex_ite c1 ex_nil) (step (ex_ite c2 ex_nil) (step_no ex_raiseS))))
theorem ex_asgMap {Φ : Fns} {i f j : Nat} {ρ : Loc} {σ : Store} {vs ys : List V} (h : ρ[j]? = some (some (.lst vs))) (hl : vs.length ≤ 1000) (hm : mapR (Φ.fn f) vs.tail σ = .ok ys σ) : execS Φ (.asgMap i f j) ρ σ = .ok (.next (ρ.set i (some (.lst ys)))) σ := by
  simp only [xs_expr, xs_append, xs_assign, xs_unpack, xs_setattr, xs_setitem, xs_unpackSub, xs_unpackL, xs_ite, xs_forIn, xs_forRange, xs_forTup, xs_forStr, xs_asgMap, xs_while, xs_ret, xs_retNone, xs_brk, xs_cont, xs_pass, xs_raise, xs_try, xs_hand, h, listOf]
  rw [if_pos hl, hm]
  rfl
theorem ev_minL {Φ : Fns} {ρ : Loc} {a : ME} {σ σ₁ : Store} {vs : List V} {is : List Int} {n : Int} (ha : evalE Φ ρ a σ = .ok (.lst vs) σ₁) (hv : intsOf vs = some is) (hm : minV is = some (.int n)) : evalE Φ ρ (.minL a) σ = .ok (.int n) σ₁ := by
  simp only [ee_var, ee_cint, ee_cstr, ee_cnone, ee_cbool, ee_gint, ee_gstr, ee_bin, ee_neg, ee_not, ee_and, ee_or, ee_cmp, ee_cmp2, ee_call, ee_bi, ee_copy, ee_isi, ee_make, ee_meth, ee_attr, ee_idx, ee_sliceTo, ee_sliceFrom, ee_tup, ee_lst, ee_sumAt, ee_rev, ee_strMul, ee_cat, ee_slen, ee_sidx, ee_sTo, ee_sFrom, ee_split, ee_join, ee_upper, ee_giveRepl, ee_strOf, ee_intOf, ee_notIn, ee_inT, ee_notInL, ee_minL, ee_shownL, ha, R.bind, listOf, Option.bind_some, hv, hm, ofOpt]
theorem num_low (w : Str) : numW w < 0 ↔ ¬ goodW w = true := by
  unfold numW
  by_cases h : goodW w = true
  · have := (val_ok h).2
    rw [if_pos h]
    constructor
    · intro _; omega
    · intro q; exact absurd h q
  · rw [if_neg h]
    exact ⟨fun _ => h, fun _ => by omega⟩
theorem F_due (line : Str) (hl : line.length ≤ 9000) (σ : Store) : fn Pg 56 [.str line] σ = match dueR (wordsL line) with | some q => .ok (.tup [.str q.1, .lst (q.2.map .int)]) σ | none => .ok .none σ := by
  rw [fn_has P56]
  have hne := split_ne line
  have hw := fun w (h : w ∈ wordsL line) => Nat.le_trans (word_len h) hl
  have hfew := words_few line
  have s0 : execS (pre Pg 56) (.assign 1 (.split false (.var 0))) [some (.str line), none, none, none] σ = .ok (.next [some (.str line), some (.lst (strsV (wordsL line))), none, none]) σ := ex_assign (ev_splitF (ev_var rfl) (by omega))
  generalize wordsL line = ws at *
  cases ws with
  | nil => exact absurd rfl hne
  | cons k r =>
    have hk : k.length ≤ 10000 := by have := hw k (List.mem_cons_self ..); omega
    have hlen := len_l (σ := σ) (vs := strsV (k :: r)) (n := ((k :: r).length : Int)) (by rw [List.length_map]; omega) (by rw [List.length_map])
    obtain ⟨mn, hmn⟩ : ∃ mn : Int, mn = (if decide (k = "owe") = true then 2 else 3) := ⟨_, rfl⟩
    have s2 : execS (pre Pg 56) (.ite (.cmp .Eq (.idx (.var 1) (.cint 0)) (.cstr "owe")) [.assign 2 (.cint 2)] []) [some (.str line), some (.lst (strsV (k :: r))), some (.int 3), none] σ = .ok (.next [some (.str line), some (.lst (strsV (k :: r))), some (.int mn), none]) σ := by
      rw [hmn]
      exact if_assign (b := decide (k = "owe")) (v := 2) (w := 3) (ev_seq (ev_idx (ev_var rfl) ev_int it_l0) ev_str) ev_int rfl
    have c1 : evalE (pre Pg 56) [some (.str line), some (.lst (strsV (k :: r))), some (.int mn), none] (.or [.notInL ["pay", "rate", "owe"] (.idx (.var 1) (.cint 0)), .cmp .NotEq (.bi .len [.var 1]) (.var 2)]) σ = .ok (.bool (!decide (k = "pay" ∨ k = "rate" ∨ k = "owe") || decide (((k :: r).length : Int) ≠ mn))) σ :=
      or_tt ((ev_notInL (ev_idx (ev_var rfl) ev_int it_l0) hk).trans (by rw [three_any])) fun _ => ev_ne (ev_len (ev_var rfl) hlen) (ev_var rfl)
    by_cases hgo : (k = "pay" ∨ k = "rate" ∨ k = "owe") ∧ ((k :: r).length : Int) = mn
    · rw [decide_eq_true hgo.1, decide_eq_false (fun h => h hgo.2)] at c1
      by_cases ko : k = "owe"
      · have hm2 : mn = 2 := by rw [hmn, if_pos (decide_eq_true ko)]
        obtain ⟨a, rfl⟩ : ∃ a, r = [a] := by
          have := hgo.2
          rw [hm2] at this
          rcases r with _ | ⟨a, _ | ⟨b, r⟩⟩
          · simp at this
          · exact ⟨a, rfl⟩
          · simp only [List.length_cons] at this; omega
        have ha := F_number a (by have := hw a (by simp); omega) σ
        have hmap : mapR ((pre Pg 56).fn 17) (strsV [k, a]).tail σ = .ok [.int (numW a)] σ := by
          show mapR ((pre Pg 56).fn 17) [.str a] σ = _
          simp only [mapR, pre_fn (p := Pg) (show 17 < 56 by decide), ha, R.got, R.bind]
        have c3 : evalE (pre Pg 56) [some (.str line), some (.lst (strsV [k, a])), some (.int mn), some (.lst [.int (numW a)])] (.cmp .Lt (.minL (.var 3)) (.cint 0)) σ = .ok (.bool (decide (numW a < 0))) σ := ev_lt (ev_minL (is := [numW a]) (ev_var rfl) rfl rfl) ev_int
        have s4 := ex_asgMap (Φ := pre Pg 56) (i := 3) (f := 17) (j := 1) (ρ := [some (.str line), some (.lst (strsV [k, a])), some (.int mn), none]) (σ := σ) rfl (by simp) hmap
        by_cases g : goodW a = true
        · have e : dueR [k, a] = some (k, [valW a]) := by rw [due2, if_pos ⟨ko, g⟩]
          rw [e]
          rw [decide_eq_false (fun h => (num_low a).mp h g)] at c3
          have e2 : numW a = valW a := by unfold numW; rw [if_pos g]
          rw [e2] at s4 c3
          exact callFn_ret rfl (step s0 (step (ex_assign ev_int) (step s2 (step (ex_ite c1 ex_nil) (step s4 (step (ex_ite c3 ex_nil) (ex_ret (ev_tup (ev2 (ev_idx (ev_var rfl) ev_int it_l0) (ev_var rfl))))))))))
        · have e : dueR [k, a] = none := by rw [due2, if_neg (fun h => g h.2)]
          rw [e]
          rw [decide_eq_true ((num_low a).mpr g)] at c3
          exact callFn_ret rfl (step s0 (step (ex_assign ev_int) (step s2 (step (ex_ite c1 ex_nil) (step s4 (ret_step (ex_ite c3 (ex_ret ev_none))))))))
      · have hm3 : mn = 3 := by rw [hmn, if_neg (by simpa using ko)]
        have kp : k = "pay" ∨ k = "rate" := by
          rcases hgo.1 with h | h | h
          · exact .inl h
          · exact .inr h
          · exact absurd h ko
        obtain ⟨a, b, rfl⟩ : ∃ a b, r = [a, b] := by
          have := hgo.2
          rw [hm3] at this
          rcases r with _ | ⟨a, _ | ⟨b, _ | ⟨cc, r⟩⟩⟩
          · simp at this
          · simp at this
          · exact ⟨a, b, rfl⟩
          · simp only [List.length_cons] at this; omega
        have ha := F_number a (by have := hw a (by simp); omega) σ
        have hb := F_number b (by have := hw b (by simp); omega) σ
        have hmap : mapR ((pre Pg 56).fn 17) (strsV [k, a, b]).tail σ = .ok [.int (numW a), .int (numW b)] σ := by
          show mapR ((pre Pg 56).fn 17) [.str a, .str b] σ = _
          simp only [mapR, pre_fn (p := Pg) (show 17 < 56 by decide), ha, hb, R.got, R.bind]
        have c3 : evalE (pre Pg 56) [some (.str line), some (.lst (strsV [k, a, b])), some (.int mn), some (.lst [.int (numW a), .int (numW b)])] (.cmp .Lt (.minL (.var 3)) (.cint 0)) σ = .ok (.bool (decide (min (numW a) (numW b) < 0))) σ := ev_lt (ev_minL (is := [numW a, numW b]) (ev_var rfl) rfl rfl) ev_int
        have s4 := ex_asgMap (Φ := pre Pg 56) (i := 3) (f := 17) (j := 1) (ρ := [some (.str line), some (.lst (strsV [k, a, b])), some (.int mn), none]) (σ := σ) rfl (by simp) hmap
        by_cases g : goodW a = true ∧ goodW b = true
        · have e : dueR [k, a, b] = some (k, [valW a, valW b]) := by rw [due3, if_pos ⟨kp, g.1, g.2⟩]
          rw [e]
          have n1 : ¬ numW a < 0 := fun h => (num_low a).mp h g.1
          have n2 : ¬ numW b < 0 := fun h => (num_low b).mp h g.2
          rw [decide_eq_false (by omega)] at c3
          have e2 : numW a = valW a := by unfold numW; rw [if_pos g.1]
          have e3 : numW b = valW b := by unfold numW; rw [if_pos g.2]
          rw [e2, e3] at s4 c3
          exact callFn_ret rfl (step s0 (step (ex_assign ev_int) (step s2 (step (ex_ite c1 ex_nil) (step s4 (step (ex_ite c3 ex_nil) (ex_ret (ev_tup (ev2 (ev_idx (ev_var rfl) ev_int it_l0) (ev_var rfl))))))))))
        · have e : dueR [k, a, b] = none := by rw [due3, if_neg (fun h => g h.2)]
          rw [e]
          have n1 : numW a < 0 ∨ numW b < 0 := by
            by_cases ga : goodW a = true
            · exact .inr ((num_low b).mpr fun h => g ⟨ga, h⟩)
            · exact .inl ((num_low a).mpr ga)
          rw [decide_eq_true (by omega)] at c3
          exact callFn_ret rfl (step s0 (step (ex_assign ev_int) (step s2 (step (ex_ite c1 ex_nil) (step s4 (ret_step (ex_ite c3 (ex_ret ev_none))))))))
    · have e1 : (!decide (k = "pay" ∨ k = "rate" ∨ k = "owe") || decide (((k :: r).length : Int) ≠ mn)) = true := by
        rw [Bool.or_eq_true, Bool.not_eq_true', decide_eq_false_iff_not, decide_eq_true_eq]
        by_cases q : k = "pay" ∨ k = "rate" ∨ k = "owe"
        · exact .inr fun z => hgo ⟨q, z⟩
        · exact .inl q
      rw [e1] at c1
      have e : dueR (k :: r) = none := by
        rcases r with _ | ⟨a, _ | ⟨b, _ | ⟨cc, r⟩⟩⟩
        · rfl
        · rw [due2, if_neg (fun h => hgo ⟨.inr (.inr h.1), by rw [hmn, if_pos (decide_eq_true h.1)]; rfl⟩)]
        · refine (due3 k a b).trans (if_neg fun h => hgo ⟨h.1.elim .inl fun q => .inr (.inl q), ?_⟩)
          have ko : k ≠ "owe" := by
            rcases h.1 with q | q
            · rw [q]; decide
            · rw [q]; decide
          rw [hmn, if_neg (by simpa using ko)]; rfl
        · rfl
      rw [e]
      exact callFn_ret rfl (step s0 (step (ex_assign ev_int) (step s2 (ret_step (ex_ite c1 (ex_ret ev_none))))))
theorem F_alone (σ : Store) : fn Pg 13 [.exc 5] σ = .ok (.bool true) σ := by
  rw [fn_has P13]
  simp [callFn, b_l_alone13, s_l_alone13, xb_0, xb_1, xs_expr, xs_append, xs_assign, xs_unpack, xs_setattr, xs_setitem, xs_unpackSub, xs_unpackL, xs_ite, xs_forIn, xs_forRange, xs_forTup, xs_forStr, xs_asgMap, xs_while, xs_ret, xs_retNone, xs_brk, xs_cont, xs_pass, xs_raise, xs_try, xs_hand, ee_var, ee_cint, ee_cstr, ee_cnone, ee_cbool, ee_gint, ee_gstr, ee_bin, ee_neg, ee_not, ee_and, ee_or, ee_cmp, ee_cmp2, ee_call, ee_bi, ee_copy, ee_isi, ee_make, ee_meth, ee_attr, ee_idx, ee_sliceTo, ee_sliceFrom, ee_tup, ee_lst, ee_sumAt, ee_rev, ee_strMul, ee_cat, ee_slen, ee_sidx, ee_sTo, ee_sFrom, ee_split, ee_join, ee_upper, ee_giveRepl, ee_strOf, ee_intOf, ee_notIn, ee_inT, ee_notInL, ee_minL, ee_shownL, es_0, es_1, ea_0, ea_1, R.bind, R.got, R.on, R.son, ofOpt, isiV, asX, subX, biV, bi1, intOf, bin_add, cmp_eq, truth]
theorem F_refused (line : Str) (hl : line.length ≤ 9000) (h : dueR (wordsL line) = none) (σ : Store) : fn Pg 81 [.str line] σ = .ok (.bool true) σ := by
  rw [fn_has P81]
  have hr := F_read line hl σ
  rw [h] at hr
  have s0 : execS (pre Pg 81) (.assign 1 (.cint 0)) [some (.str line), none, none] σ = .ok (.next [some (.str line), some (.int 0), none]) σ := ex_assign ev_int
  have s1 : execS (pre Pg 81) (.try [.expr (.call 39 [.var 0])] [.hand 5 none [.assign 1 (.bin .Add (.var 1) (.cint 1))]]) [some (.str line), some (.int 0), none] σ = .ok (.next [some (.str line), some (.int 1), none]) σ :=
    ex_try_no (step_no (ex_expr_no (x_fn (ev1 (ev_var rfl)) (by decide) hr))) (h_hit (f := .next [some (.str line), some (.int 1), none]) rfl (step (ex_assign (ev_add (ev_var rfl) ev_int)) ex_nil))
  have s2 : execS (pre Pg 81) (.try [.expr (.call 39 [.var 0])] [.hand 0 (some 2) [.assign 1 (.bin .Add (.var 1) (.bi .int [.call 13 [.var 2]]))]]) [some (.str line), some (.int 1), none] σ = .ok (.next [some (.str line), some (.int 2), none]) σ :=
    ex_try_no (step_no (ex_expr_no (x_fn (ev1 (ev_var rfl)) (by decide) hr))) (h_hit (f := .next [some (.str line), some (.int 2), some (.exc 5)]) rfl (step (ex_assign (ev_add (ev_var rfl) (ev_bint (b := true) (x_fn (ev1 (ev_var rfl)) (by decide) (F_alone σ))))) ex_nil))
  exact callFn_ret rfl (step s0 (step s1 (step s2 (ex_ret ((ev_eq (ev_var rfl) ev_int).trans (by rw [decide_eq_true rfl]))))))
theorem F_alike1 (k : Str) (a : Int) (σ : Store) : fn Pg 80 [.tup [.str k, .int a], .tup [.str k, .lst [.int a]]] σ = .ok (.bool true) σ := by
  rw [fn_has P80]
  have hw := fun i => F_whole PW i σ
  have hs : eqV σ (.str k) (.str k) = some true := by show some (decide (k = k)) = some true; rw [decide_eq_true rfl]
  simp [callFn, b_l_alike, s_l_alike, xb_0, xb_1, xs_expr, xs_append, xs_assign, xs_unpack, xs_setattr, xs_setitem, xs_unpackSub, xs_unpackL, xs_ite, xs_forIn, xs_forRange, xs_forTup, xs_forStr, xs_asgMap, xs_while, xs_ret, xs_retNone, xs_brk, xs_cont, xs_pass, xs_raise, xs_try, xs_hand, ee_var, ee_cint, ee_cstr, ee_cnone, ee_cbool, ee_gint, ee_gstr, ee_bin, ee_neg, ee_not, ee_and, ee_or, ee_cmp, ee_cmp2, ee_call, ee_bi, ee_copy, ee_isi, ee_make, ee_meth, ee_attr, ee_idx, ee_sliceTo, ee_sliceFrom, ee_tup, ee_lst, ee_sumAt, ee_rev, ee_strMul, ee_cat, ee_slen, ee_sidx, ee_sTo, ee_sFrom, ee_split, ee_join, ee_upper, ee_giveRepl, ee_strOf, ee_intOf, ee_notIn, ee_inT, ee_notInL, ee_minL, ee_shownL, es_0, es_1, eo_0, eo_1, R.bind, R.got, R.on, R.son, ofOpt, isiV, isT, isS, biV, bi1, seqOf, listOf, itemV, V.asInt, cmpV, hs, eq_ints, bin_add, cmp_ne, truth, rangeOf, fr_0, fr_1, pre_fn, hw]
theorem F_alike2 (k : Str) (a b : Int) (σ : Store) : fn Pg 80 [.tup [.str k, .int a, .int b], .tup [.str k, .lst [.int a, .int b]]] σ = .ok (.bool true) σ := by
  rw [fn_has P80]
  have hw := fun i => F_whole PW i σ
  have hs : eqV σ (.str k) (.str k) = some true := by show some (decide (k = k)) = some true; rw [decide_eq_true rfl]
  simp [callFn, b_l_alike, s_l_alike, xb_0, xb_1, xs_expr, xs_append, xs_assign, xs_unpack, xs_setattr, xs_setitem, xs_unpackSub, xs_unpackL, xs_ite, xs_forIn, xs_forRange, xs_forTup, xs_forStr, xs_asgMap, xs_while, xs_ret, xs_retNone, xs_brk, xs_cont, xs_pass, xs_raise, xs_try, xs_hand, ee_var, ee_cint, ee_cstr, ee_cnone, ee_cbool, ee_gint, ee_gstr, ee_bin, ee_neg, ee_not, ee_and, ee_or, ee_cmp, ee_cmp2, ee_call, ee_bi, ee_copy, ee_isi, ee_make, ee_meth, ee_attr, ee_idx, ee_sliceTo, ee_sliceFrom, ee_tup, ee_lst, ee_sumAt, ee_rev, ee_strMul, ee_cat, ee_slen, ee_sidx, ee_sTo, ee_sFrom, ee_split, ee_join, ee_upper, ee_giveRepl, ee_strOf, ee_intOf, ee_notIn, ee_inT, ee_notInL, ee_minL, ee_shownL, es_0, es_1, eo_0, eo_1, R.bind, R.got, R.on, R.son, ofOpt, isiV, isT, isS, biV, bi1, seqOf, listOf, itemV, V.asInt, cmpV, hs, eq_ints, bin_add, cmp_ne, truth, rangeOf, fr_0, fr_1, pre_fn, hw]
theorem pow30 {σ : Store} : binV σ .Pow (.int 10) (.int 30) = some (.int (10 ^ 30)) := by
  show powF 10 30 = _
  unfold powF
  rw [if_pos (by decide)]
  rfl
theorem F_number_by (k : Int) (hk : Builtin.Int.intBits k ≤ 2 ^ 20) (σ : Store) : ∃ n, fn Pg 14 [.int k] σ = .ok (.int n) σ ∧ 0 ≤ n ∧ n < 10 ^ 30 := by
  rw [fn_has P14]
  have c1 : evalE (pre Pg 14) [some (.int k)] (.cmp .Eq (.bin .Mod (.var 0) (.cint 3)) (.cint 0)) σ = .ok (.bool (decide (k % 3 = 0))) σ := by (repeat' (first | exact ev_var rfl | exact ev_int | exact ev_gint | exact ev_str | exact ev_bool | exact ev_none | exact evs_nil | apply evs_cons | apply ev_add | apply ev_sub | apply ev_lt | apply ev_le | apply ev_gt | apply ev_ge | apply ev_eq | apply ev_ne | apply ev_max' | apply ev_min' | apply ev_mod | apply ev_div | apply ev_neg | apply not_tt | apply ev_tup | apply ev_lst | apply ev_idx | exact it_t0 | exact it_t1 | exact it_t2 | exact it_t3 | exact it_l0 | exact it_l1 | exact it_l2 | apply ev_bint | decide | omega))
  have c2 : evalE (pre Pg 14) [some (.int k)] (.cmp .Eq (.bin .Mod (.var 0) (.cint 3)) (.cint 1)) σ = .ok (.bool (decide (k % 3 = 1))) σ := by (repeat' (first | exact ev_var rfl | exact ev_int | exact ev_gint | exact ev_str | exact ev_bool | exact ev_none | exact evs_nil | apply evs_cons | apply ev_add | apply ev_sub | apply ev_lt | apply ev_le | apply ev_gt | apply ev_ge | apply ev_eq | apply ev_ne | apply ev_max' | apply ev_min' | apply ev_mod | apply ev_div | apply ev_neg | apply not_tt | apply ev_tup | apply ev_lst | apply ev_idx | exact it_t0 | exact it_t1 | exact it_t2 | exact it_t3 | exact it_l0 | exact it_l1 | exact it_l2 | apply ev_bint | decide | omega))
  by_cases h1 : k % 3 = 0
  · rw [decide_eq_true h1] at c1
    exact ⟨k / 3 % 100000, callFn_ret rfl (ret_step (ex_ite c1 (ex_ret (by (repeat' (first | exact ev_var rfl | exact ev_int | exact ev_gint | exact ev_str | exact ev_bool | exact ev_none | exact evs_nil | apply evs_cons | apply ev_add | apply ev_sub | apply ev_lt | apply ev_le | apply ev_gt | apply ev_ge | apply ev_eq | apply ev_ne | apply ev_max' | apply ev_min' | apply ev_mod | apply ev_div | apply ev_neg | apply not_tt | apply ev_tup | apply ev_lst | apply ev_idx | exact it_t0 | exact it_t1 | exact it_t2 | exact it_t3 | exact it_l0 | exact it_l1 | exact it_l2 | apply ev_bint | decide | omega)))))), by omega, by omega⟩
  · rw [decide_eq_false h1] at c1
    by_cases h2 : k % 3 = 1
    · rw [decide_eq_true h2] at c2
      exact ⟨0, callFn_ret rfl (step (ex_ite c1 ex_nil) (ret_step (ex_ite c2 (ex_ret ev_int)))), by omega, by decide⟩
    · rw [decide_eq_false h2] at c2
      exact ⟨(k * k * 48271 + 7 * k) % 10 ^ 30, callFn_ret rfl (step (ex_ite c1 ex_nil) (step (ex_ite c2 ex_nil) (ex_ret (ev_mod (ev_add (ev_mulr (ev_bin (ev_var rfl) (ev_var rfl) (mul_sq hk)) ev_int (by unfold Sml; omega)) (ev_mull ev_int (ev_var rfl) (by unfold Sml; omega))) (ev_bin ev_int ev_int pow30) (by decide))))), Int.emod_nonneg _ (by decide), Int.emod_lt_of_pos _ (by decide)⟩
/-- a number's text -/
noncomputable def txt (n : Int) : Str := Str.ofString (toString n)
theorem txt_ok {n : Int} (h0 : 0 ≤ n) (h1 : n < 10 ^ 30) : (txt n).length ≤ 30 ∧ n.natAbs.log2 < 1920 := by
  refine ⟨PyProof.Rows.toString_length_le h0 (by decide) h1, ?_⟩
  by_cases hz : n.natAbs = 0
  · rw [hz]; decide
  · refine (Nat.log2_lt hz).mpr ?_
    have e1 : n.natAbs < 10 ^ 30 := by omega
    exact Nat.lt_trans e1 (Nat.lt_of_lt_of_le (show 10 ^ 30 < 2 ^ 100 by decide) (Nat.pow_le_pow_right (by decide) (by decide)))
theorem textV_ok {n : Int} (h : n.natAbs.log2 < 1920) : textV n = some (.str (txt n)) := if_pos h
theorem join2 (a b : Str) : Txt.join " " [a, b] = a ++ " " ++ b := rfl
theorem join3 (a b k : Str) : Txt.join " " [a, b, k] = a ++ " " ++ b ++ " " ++ k := rfl
theorem F_shown1 (w : Str) (n : Int) (h0 : 0 ≤ n) (h1 : n < 10 ^ 30) (hw : w.length ≤ 10) (σ : Store) : fn Pg 40 [.tup [.str w, .int n]] σ = .ok (.str (w ++ " " ++ txt n)) σ := by
  rw [fn_has P40]
  obtain ⟨l1, l2⟩ := txt_ok h0 h1
  have e : evalE (pre Pg 40) [some (.tup [.str w, .int n])] (.shownL 0) σ = .ok (.lst (strsV [w, txt n])) σ := by
    simp only [ee_var, ee_cint, ee_cstr, ee_cnone, ee_cbool, ee_gint, ee_gstr, ee_bin, ee_neg, ee_not, ee_and, ee_or, ee_cmp, ee_cmp2, ee_call, ee_bi, ee_copy, ee_isi, ee_make, ee_meth, ee_attr, ee_idx, ee_sliceTo, ee_sliceFrom, ee_tup, ee_lst, ee_sumAt, ee_rev, ee_strMul, ee_cat, ee_slen, ee_sidx, ee_sTo, ee_sFrom, ee_split, ee_join, ee_upper, ee_giveRepl, ee_strOf, ee_intOf, ee_notIn, ee_inT, ee_notInL, ee_minL, ee_shownL, List.getElem?_cons_zero, tupOf, Option.bind_some, textsV, intsOf, Option.map_some, List.length_cons, List.length_nil, texts, textV_ok l2]
    rfl
  rw [← join2]
  exact callFn_ret rfl (ex_ret (ev_join e rfl (by simp only [List.map_cons, List.map_nil, List.sum_cons, List.sum_nil, List.length_cons, List.length_nil]; omega)))
theorem F_shown2 (w : Str) (n k : Int) (h0 : 0 ≤ n) (h1 : n < 10 ^ 30) (g0 : 0 ≤ k) (g1 : k < 10 ^ 30) (hw : w.length ≤ 10) (σ : Store) : fn Pg 40 [.tup [.str w, .int n, .int k]] σ = .ok (.str (w ++ " " ++ txt n ++ " " ++ txt k)) σ := by
  rw [fn_has P40]
  obtain ⟨l1, l2⟩ := txt_ok h0 h1
  obtain ⟨m1, m2⟩ := txt_ok g0 g1
  have e : evalE (pre Pg 40) [some (.tup [.str w, .int n, .int k])] (.shownL 0) σ = .ok (.lst (strsV [w, txt n, txt k])) σ := by
    simp only [ee_var, ee_cint, ee_cstr, ee_cnone, ee_cbool, ee_gint, ee_gstr, ee_bin, ee_neg, ee_not, ee_and, ee_or, ee_cmp, ee_cmp2, ee_call, ee_bi, ee_copy, ee_isi, ee_make, ee_meth, ee_attr, ee_idx, ee_sliceTo, ee_sliceFrom, ee_tup, ee_lst, ee_sumAt, ee_rev, ee_strMul, ee_cat, ee_slen, ee_sidx, ee_sTo, ee_sFrom, ee_split, ee_join, ee_upper, ee_giveRepl, ee_strOf, ee_intOf, ee_notIn, ee_inT, ee_notInL, ee_minL, ee_shownL, List.getElem?_cons_zero, tupOf, Option.bind_some, textsV, intsOf, Option.map_some, List.length_cons, List.length_nil, texts, textV_ok l2, textV_ok m2]
    rfl
  rw [← join3]
  exact callFn_ret rfl (ex_ret (ev_join e rfl (by simp only [List.map_cons, List.map_nil, List.sum_cons, List.sum_nil, List.length_cons, List.length_nil]; omega)))
theorem blank_is : (" " : Str) = ⟨#[32]⟩ := by decide
/-- a blank in it: two words at least -/
theorem words_two {x : Str} (h : 32 ∈ x.cps.toList) : 2 ≤ (wordsL x).length ∧ (Builtin.Str.occurrences x " " 0 x.length (x.length + 1)).isEmpty = false := by
  obtain ⟨j, hj⟩ := List.mem_iff_getElem?.mp h
  have hat : StrLaws.At x " " x.length j := by
    rw [blank_is]
    exact (StrLaws.subAt_one x 32 j).mpr hj
  have ho : (Builtin.Str.occurrences x " " 0 x.length (x.length + 1)).isEmpty = false := by
    rcases StrLaws.occ_head x " " (x.length + 1) (by omega) with ⟨_, q⟩ | ⟨a, r, e, _⟩
    · exact absurd hat (q j)
    · rw [e]; rfl
  refine ⟨?_, ho⟩
  unfold wordsL Txt.split
  have hk : ¬ ((decide (x.length < (" " : Str).length) || decide (Builtin.Str.strKind x < Builtin.Str.strKind " ")) = true) := by
    rw [Bool.or_eq_true, decide_eq_true_eq, decide_eq_true_eq]
    have e1 : (" " : Str).length = 1 := by decide
    have e2 : Builtin.Str.strKind " " = 1 := by decide +kernel
    have e3 : 1 ≤ Builtin.Str.strKind x := by unfold Builtin.Str.strKind; split <;> (try split) <;> decide
    have := hat.1
    omega
  rw [if_neg hk, if_neg (by rw [ho]; simp), length_partsBetween]
  have : (Builtin.Str.occurrences x " " 0 x.length (x.length + 1)) ≠ [] := fun e => by rw [e] at ho; cases ho
  have := List.length_pos_iff.mpr this
  omega
theorem repl_len {x : Str} (h : 32 ∈ x.cps.toList) : (Txt.replace x " " "\t").length ≤ 2 * x.length + 2 := by
  obtain ⟨h2, ho⟩ := words_two h
  have hf := words_few x
  have hk : ¬ ((decide (x.length < (" " : Str).length) || decide (Builtin.Str.strKind x < Builtin.Str.strKind " ")) = true) := by
    rw [Bool.or_eq_true, decide_eq_true_eq, decide_eq_true_eq]
    have e1 : (" " : Str).length = 1 := by decide
    have e2 : Builtin.Str.strKind " " = 1 := by decide +kernel
    have e3 : 1 ≤ Builtin.Str.strKind x := by unfold Builtin.Str.strKind; split <;> (try split) <;> decide
    have : 0 < x.cps.toList.length := List.length_pos_of_mem h
    have : 0 < x.length := by rw [Array.length_toList] at this; exact this
    omega
  have e : wordsL x = Builtin.Str.partsBetween x (Builtin.Str.occurrences x " " 0 x.length (x.length + 1)) (" " : Str).length := by
    unfold wordsL Txt.split
    rw [if_neg hk, if_neg (by rw [ho]; simp)]
  unfold Txt.replace
  rw [ho]
  have e1 : ((" " : Str).length == 0) = false := by decide
  rw [e1]
  simp only [Bool.false_and, Bool.or_false, Bool.false_eq_true, if_false]
  rw [← e, size_glued]
  have e2 : ("\t" : Str).length = 1 := by decide
  rw [e2]
  omega
theorem item_len (x : Str) (k : Int) : (Txt.item x k).length = 1 := rfl
theorem ev_ifS {Φ : Fns} {c e : ME} {i : Nat} {ρ : Loc} {σ : Store} {b : Bool} {v w : Str} (hc : evalE Φ ρ c σ = .ok (.bool b) σ) (he : evalE Φ ρ e σ = .ok (.str v) σ) (hw : ρ[i]? = some (some (.str w))) :
    execS Φ (.ite c [.assign i e] []) ρ σ = .ok (.next (ρ.set i (some (.str (if b then v else w))))) σ := by
  cases b with
  | true => exact ex_ite hc (step (ex_assign he) ex_nil)
  | false =>
    obtain ⟨hlt, e⟩ := List.getElem?_eq_some_iff.mp hw
    refine (ex_ite hc ex_nil).trans ?_
    rw [if_neg (by simp), ← e, List.set_getElem_self]
noncomputable def someA : Str := " !\"#$&'()*+,-./0123456789:;<=>?@ABCDEFGHIJKLMNOPQRSTUVWXYZ[\\]^_`"
noncomputable def someB : Str := "abcdefghijklmnopqrstuvwxyz{|}~"
theorem some_len : someA.length = 64 ∧ someB.length = 30 := by decide
theorem F_sign (line : Str) (hl : line.length ≤ 70) (h0 : 0 < line.length) (k : Int) (b : Bool) (σ : Store) : ∃ r, fn Pg 15 [.str line, .int k, .bool b] σ = .ok (.str r) σ ∧ r.length ≤ 400 := by
  rw [fn_has P15]
  obtain ⟨q1, q2⟩ := some_len
  have hs : (someA ++ someB).length = 94 := by rw [len_app, q1, q2]
  have hp : 0 < (line.length : Int) := by omega
  obtain ⟨pl, hpl⟩ : ∃ z, z = k % (line.length : Int) := ⟨_, rfl⟩
  obtain ⟨sg, hsg⟩ : ∃ z, z = Txt.item (someA ++ someB) (k / (line.length : Int) % 94) := ⟨_, rfl⟩
  have s0 : execS (pre Pg 15) (.assign 3 (.cstr someA)) [some (.str line), some (.int k), some (.bool b), none, none, none] σ = .ok (.next [some (.str line), some (.int k), some (.bool b), some (.str someA), none, none]) σ := ex_assign ev_str
  have s1 : execS (pre Pg 15) (.assign 3 (.cat (.var 3) (.cstr someB))) [some (.str line), some (.int k), some (.bool b), some (.str someA), none, none] σ = .ok (.next [some (.str line), some (.int k), some (.bool b), some (.str (someA ++ someB)), none, none]) σ := ex_assign (ev_cat (ev_var rfl) ev_str (by omega) (by omega))
  have s2 : execS (pre Pg 15) (.assign 4 (.bin .Mod (.var 1) (.slen (.var 0)))) [some (.str line), some (.int k), some (.bool b), some (.str (someA ++ someB)), none, none] σ = .ok (.next [some (.str line), some (.int k), some (.bool b), some (.str (someA ++ someB)), some (.int pl), none]) σ := by
    rw [hpl]; exact ex_assign (ev_mod (ev_var rfl) (ev_slen (ev_var rfl) (by omega)) hp)
  have s3 : execS (pre Pg 15) (.assign 5 (.sidx (.var 3) (.bin .Mod (.bin .FloorDiv (.var 1) (.slen (.var 0))) (.cint 94)))) [some (.str line), some (.int k), some (.bool b), some (.str (someA ++ someB)), some (.int pl), none] σ = .ok (.next [some (.str line), some (.int k), some (.bool b), some (.str (someA ++ someB)), some (.int pl), some (.str sg)]) σ := by
    rw [hsg]; exact ex_assign (ev_sidx (ev_var rfl) (ev_mod (ev_div (ev_var rfl) (ev_slen (ev_var rfl) (by omega)) hp) ev_int (by decide)) (by omega) (by omega) (by omega))
  obtain ⟨s, hs4⟩ : ∃ s : Str, s = (if (!b) = true then ("" : Str) else sg) := ⟨_, rfl⟩
  have hsl : s.length ≤ 1 := by
    rw [hs4]; split
    · decide
    · rw [hsg, item_len]; exact Nat.le_refl _
  have s4 : execS (pre Pg 15) (.ite (.not (.var 2)) [.assign 5 (.cstr "")] []) [some (.str line), some (.int k), some (.bool b), some (.str (someA ++ someB)), some (.int pl), some (.str sg)] σ = .ok (.next [some (.str line), some (.int k), some (.bool b), some (.str (someA ++ someB)), some (.int pl), some (.str s)]) σ := by
    rw [hs4]; exact ev_ifS (i := 5) (ρ := [some (.str line), some (.int k), some (.bool b), some (.str (someA ++ someB)), some (.int pl), some (.str sg)]) (not_tt (p := b) (ev_var rfl)) ev_str rfl
  have l1 := Txt.slice_le line none (some pl)
  have l2 := Txt.slice_le line (some (pl + 1)) none
  refine ⟨Txt.slice line none (some pl) ++ s ++ Txt.slice line (some (pl + 1)) none, ?_, by rw [len_app, len_app]; omega⟩
  exact callFn_ret rfl (step s0 (step s1 (step s2 (step s3 (step s4 (ex_ret (ev_cat (ev_cat (ev_sTo (ev_var rfl) (ev_var rfl) (by omega)) (ev_var rfl) (by omega) (by omega)) (ev_sFrom (ev_var rfl) (ev_add (ev_var rfl) ev_int) (by omega)) (by rw [len_app]; omega) (by omega))))))))
theorem item_strs {σ : Store} {v : V} {ws : List Str} {k : Int} (hv : listOf σ v = some (strsV ws)) (ht : ∀ vs, v ≠ .tup vs) (h0 : 0 ≤ k) (h1 : k < ws.length) (h2 : ws.length ≤ 1000) : ∃ z, z ∈ ws ∧ itemV σ v (.int k) = some (.str z) := by
  have e : seqOf σ v = some (strsV ws) := by
    cases v with
    | tup vs => exact absurd rfl (ht vs)
    | _ => exact hv
  have hlt : k.toNat < ws.length := by omega
  refine ⟨ws[k.toNat], List.getElem_mem hlt, ?_⟩
  simp only [itemV, e, Option.bind_some, V.asInt]
  rw [if_pos h0, if_pos (by omega)]
  simp [hlt]
theorem sum_set (z : Str) : ∀ (ws : List Str) (k : Nat), ((ws.set k z).map (·.length)).sum ≤ (ws.map (·.length)).sum + z.length
  | [], k => by simp
  | w :: ws, 0 => by simp; omega
  | w :: ws, k + 1 => by
    have := sum_set z ws k
    simp only [List.set_cons_succ, List.map_cons, List.sum_cons] at this ⊢
    omega
theorem map_set (z : Str) (ws : List Str) (k : Nat) : (strsV ws).set k (.str z) = strsV (ws.set k z) := by simp [strsV, List.map_set]
noncomputable def listA (w : Str) : List Str := ["+" ++ w, "-" ++ w, "0" ++ w, w ++ "a", Txt.slice w none (some 1) ++ "." ++ Txt.slice w (some 1) none, "", " " ++ w, w ++ " "]
noncomputable def listB (w : Str) : List Str := [w ++ "\n", Txt.mul "1" 31, w ++ "_0", "0x" ++ w]
noncomputable def listC (line h : Str) : List Str := ["", Txt.upper (Txt.slice line none (some 1)) ++ Txt.slice line (some 1) none, line ++ " 1", Txt.upper line, " " ++ line, line ++ " ", h]
theorem listA_len {w z : Str} (h : z ∈ listA w ++ listB w) : z.length ≤ 2 * w.length + 40 := by
  have l1 := Txt.slice_le w none (some 1)
  have l2 := Txt.slice_le w (some 1) none
  simp only [listA, listB, List.mem_append, List.mem_cons, List.not_mem_nil, or_false] at h
  have c : ∀ s : Str, s = "+" ∨ s = "-" ∨ s = "0" ∨ s = "a" ∨ s = "." ∨ s = "" ∨ s = " " ∨ s = "\n" ∨ s = "_0" ∨ s = "0x" → s.length ≤ 2 := by
    rintro s (rfl | rfl | rfl | rfl | rfl | rfl | rfl | rfl | rfl | rfl) <;> decide
  have c1 := c "+" (by simp)
  have c2 := c "-" (by simp)
  have c3 := c "0" (by simp)
  have c4 := c "a" (by simp)
  have c5 := c "." (by simp)
  have c6 := c "" (by simp)
  have c7 := c " " (by simp)
  have c8 := c "\n" (by simp)
  have c9 := c "_0" (by simp)
  have c10 := c "0x" (by simp)
  have c11 : (Txt.mul "1" 31).length = 31 := by decide
  rcases h with (rfl | rfl | rfl | rfl | rfl | rfl | rfl | rfl) | (rfl | rfl | rfl | rfl) <;> ((try simp only [len_app]); omega)
theorem listC_len {line h z : Str} (hb : 32 ∈ line.cps.toList) (hh : h.length ≤ line.length) (hz : z ∈ listC line h ++ ["give" ++ Txt.slice line (some 3) none, Txt.replace line " " "\t"]) : z.length ≤ 4 * line.length + 40 := by
  have l1 := Txt.slice_le line none (some 1)
  have l2 := Txt.slice_le line (some 1) none
  have l3 := Txt.slice_le line (some 3) none
  have l4 := PyProof.Rows.len_upper (Txt.slice line none (some 1))
  have l5 := PyProof.Rows.len_upper line
  have l6 := repl_len hb
  have c1 : (" 1" : Str).length = 2 := by decide
  have c2 : (" " : Str).length = 1 := by decide
  have c3 : ("give" : Str).length = 4 := by decide
  have c4 : ("" : Str).length = 0 := by decide
  simp only [listC, List.mem_append, List.mem_cons, List.not_mem_nil, or_false] at hz
  rcases hz with (rfl | rfl | rfl | rfl | rfl | rfl | rfl) | (rfl | rfl) <;> ((try simp only [len_app]); omega)
theorem ev_mul31 {Φ : Fns} {ρ : Loc} {σ : Store} : evalE Φ ρ (.strMul "1" (.cint 31)) σ = .ok (.str (Txt.mul "1" 31)) σ := by
  simp only [ee_var, ee_cint, ee_cstr, ee_cnone, ee_cbool, ee_gint, ee_gstr, ee_bin, ee_neg, ee_not, ee_and, ee_or, ee_cmp, ee_cmp2, ee_call, ee_bi, ee_copy, ee_isi, ee_make, ee_meth, ee_attr, ee_idx, ee_sliceTo, ee_sliceFrom, ee_tup, ee_lst, ee_sumAt, ee_rev, ee_strMul, ee_cat, ee_slen, ee_sidx, ee_sTo, ee_sFrom, ee_split, ee_join, ee_upper, ee_giveRepl, ee_strOf, ee_intOf, ee_notIn, ee_inT, ee_notInL, ee_minL, ee_shownL, R.bind, V.asInt, Option.bind_some, strMulV]
  rw [if_neg (by decide), if_neg (by decide), if_pos (by decide)]
  rfl
theorem ex_setitem {Φ : Fns} {ρ : Loc} {o k e : ME} {σ σ' : Store} {v w j : V} (he : evalE Φ ρ e σ = .ok v σ) (ho : evalE Φ ρ o σ = .ok w σ) (hk : evalE Φ ρ k σ = .ok j σ) (hp : putAt σ w j v = some σ') : execS Φ (.setitem o k e) ρ σ = .ok (.next ρ) σ' := by
  simp only [xs_expr, xs_append, xs_assign, xs_unpack, xs_setattr, xs_setitem, xs_unpackSub, xs_unpackL, xs_ite, xs_forIn, xs_forRange, xs_forTup, xs_forStr, xs_asgMap, xs_while, xs_ret, xs_retNone, xs_brk, xs_cont, xs_pass, xs_raise, xs_try, xs_hand, he, ho, hk, R.on, hp, sofO]
theorem F_altered (line : Str) (hl : line.length ≤ 70) (hb : 32 ∈ line.cps.toList) (k : Int) (σ : Store) : ∃ r τ, fn Pg 16 [.str line, .int k] σ = .ok (.str r) (σ ++ τ) ∧ r.length ≤ 9000 := by
  rw [fn_has P16]
  obtain ⟨h2, _⟩ := words_two hb
  have hfew := words_few line
  have hwl := fun w (h : w ∈ wordsL line) => Nat.le_trans (word_len h) hl
  have h0 : 0 < line.length := by
    have : 0 < line.cps.toList.length := List.length_pos_of_mem hb
    rw [Array.length_toList] at this; exact this
  have s0 : execS (pre Pg 16) (.assign 2 (.split true (.var 0))) [some (.str line), some (.int k), none, none, none, none, none] σ = .ok (.next [some (.str line), some (.int k), some (.loc σ.length), none, none, none, none]) (σ ++ [Ob.list (strsV (wordsL line))]) := ex_assign (ev_splitT (ev_var rfl) (by omega))
  obtain ⟨σ₁, hσ₁⟩ : ∃ σ₁, σ₁ = σ ++ [Ob.list (strsV (wordsL line))] := ⟨_, rfl⟩
  have hget : σ₁[σ.length]? = some (Ob.list (strsV (wordsL line))) := by rw [hσ₁]; simp
  have hlist : listOf σ₁ (.loc σ.length) = some (strsV (wordsL line)) := by simp only [listOf, hget]
  have hlenv : biV σ₁ .len [.loc σ.length] = some (.int ((wordsL line).length : Int)) := by
    simp only [biV, bi1, seqOf, hlist, Option.bind_some]
    rw [if_pos (by rw [List.length_map]; omega), List.length_map]
  obtain ⟨n, hn⟩ : ∃ n : Int, n = ((wordsL line).length : Int) := ⟨_, rfl⟩
  rw [← hn] at hlenv
  have hn2 : 2 ≤ n := by omega
  obtain ⟨pl, hpl⟩ : ∃ z, z = 1 + k / 25 % (n - 1) := ⟨_, rfl⟩
  have hp0 : 1 ≤ pl ∧ pl < n := by
    have a1 := Int.emod_nonneg (k / 25) (show n - 1 ≠ 0 by omega)
    have a2 := Int.emod_lt_of_pos (k / 25) (show 0 < n - 1 by omega)
    omega
  obtain ⟨wd, hwd, hwi⟩ := item_strs (σ := σ₁) (v := .loc σ.length) (k := pl) hlist (fun vs h => by cases h) (by omega) (by omega) (by omega)
  have hwdl : wd.length ≤ 70 := hwl wd hwd
  obtain ⟨way, hway⟩ : ∃ z, z = k % 25 := ⟨_, rfl⟩
  have hw25 : 0 ≤ way ∧ way < 25 := by omega
  rw [← hσ₁] at s0
  have s1 : execS (pre Pg 16) (.assign 3 (.bin .Add (.cint 1) (.bin .Mod (.bin .FloorDiv (.var 1) (.cint 25)) (.bin .Sub (.bi .len [.var 2]) (.cint 1))))) [some (.str line), some (.int k), some (.loc σ.length), none, none, none, none] σ₁ = .ok (.next [some (.str line), some (.int k), some (.loc σ.length), some (.int pl), none, none, none]) σ₁ := by
    rw [hpl]; exact ex_assign (ev_add ev_int (ev_mod (by (repeat' (first | exact ev_var rfl | exact ev_int | exact ev_gint | exact ev_str | exact ev_bool | exact ev_none | exact evs_nil | apply evs_cons | apply ev_add | apply ev_sub | apply ev_lt | apply ev_le | apply ev_gt | apply ev_ge | apply ev_eq | apply ev_ne | apply ev_max' | apply ev_min' | apply ev_mod | apply ev_div | apply ev_neg | apply not_tt | apply ev_tup | apply ev_lst | apply ev_idx | exact it_t0 | exact it_t1 | exact it_t2 | exact it_t3 | exact it_l0 | exact it_l1 | exact it_l2 | apply ev_bint | decide | omega))) (ev_sub (ev_len (ev_var rfl) hlenv) ev_int) (by omega)))
  have s2 : execS (pre Pg 16) (.assign 4 (.idx (.var 2) (.var 3))) [some (.str line), some (.int k), some (.loc σ.length), some (.int pl), none, none, none] σ₁ = .ok (.next [some (.str line), some (.int k), some (.loc σ.length), some (.int pl), some (.str wd), none, none]) σ₁ := ex_assign (ev_idx (ev_var rfl) (ev_var rfl) hwi)
  have s3 : execS (pre Pg 16) (.assign 5 (.bin .Mod (.var 1) (.cint 25))) [some (.str line), some (.int k), some (.loc σ.length), some (.int pl), some (.str wd), none, none] σ₁ = .ok (.next [some (.str line), some (.int k), some (.loc σ.length), some (.int pl), some (.str wd), some (.int way), none]) σ₁ := by
    rw [hway]; exact ex_assign (by (repeat' (first | exact ev_var rfl | exact ev_int | exact ev_gint | exact ev_str | exact ev_bool | exact ev_none | exact evs_nil | apply evs_cons | apply ev_add | apply ev_sub | apply ev_lt | apply ev_le | apply ev_gt | apply ev_ge | apply ev_eq | apply ev_ne | apply ev_max' | apply ev_min' | apply ev_mod | apply ev_div | apply ev_neg | apply not_tt | apply ev_tup | apply ev_lst | apply ev_idx | exact it_t0 | exact it_t1 | exact it_t2 | exact it_t3 | exact it_l0 | exact it_l1 | exact it_l2 | apply ev_bint | decide | omega)))
  obtain ⟨ρ, hρ⟩ : ∃ ρ : Loc, ρ = [some (.str line), some (.int k), some (.loc σ.length), some (.int pl), some (.str wd), some (.int way), none] := ⟨_, rfl⟩
  have c1 : evalE (pre Pg 16) ρ (.cmp .Gt (.var 5) (.cint 20)) σ₁ = .ok (.bool (decide (20 < way))) σ₁ := by rw [hρ]; (repeat' (first | exact ev_var rfl | exact ev_int | exact ev_gint | exact ev_str | exact ev_bool | exact ev_none | exact evs_nil | apply evs_cons | apply ev_add | apply ev_sub | apply ev_lt | apply ev_le | apply ev_gt | apply ev_ge | apply ev_eq | apply ev_ne | apply ev_max' | apply ev_min' | apply ev_mod | apply ev_div | apply ev_neg | apply not_tt | apply ev_tup | apply ev_lst | apply ev_idx | exact it_t0 | exact it_t1 | exact it_t2 | exact it_t3 | exact it_l0 | exact it_l1 | exact it_l2 | apply ev_bint | decide | omega))
  have c2 : evalE (pre Pg 16) ρ (.cmp .Lt (.var 5) (.cint 12)) σ₁ = .ok (.bool (decide (way < 12))) σ₁ := by rw [hρ]; (repeat' (first | exact ev_var rfl | exact ev_int | exact ev_gint | exact ev_str | exact ev_bool | exact ev_none | exact evs_nil | apply evs_cons | apply ev_add | apply ev_sub | apply ev_lt | apply ev_le | apply ev_gt | apply ev_ge | apply ev_eq | apply ev_ne | apply ev_max' | apply ev_min' | apply ev_mod | apply ev_div | apply ev_neg | apply not_tt | apply ev_tup | apply ev_lst | apply ev_idx | exact it_t0 | exact it_t1 | exact it_t2 | exact it_t3 | exact it_l0 | exact it_l1 | exact it_l2 | apply ev_bint | decide | omega))
  have q1 : ("+" : Str).length ≤ 10000 ∧ ("-" : Str).length ≤ 10000 ∧ ("0" : Str).length ≤ 10000 ∧ ("a" : Str).length ≤ 10000 ∧ ("." : Str).length = 1 ∧ (" " : Str).length ≤ 10000 ∧ ("\n" : Str).length ≤ 10000 ∧ ("_0" : Str).length ≤ 10000 ∧ ("0x" : Str).length ≤ 10000 ∧ (" 1" : Str).length ≤ 10000 := by decide
  obtain ⟨qa, qb, qc, qd, qe, qf, qg, qh, qi, qj⟩ := q1
  by_cases h20 : 20 < way
  · rw [decide_eq_true h20] at c1
    obtain ⟨r, hr, hrl⟩ := F_sign line hl h0 (k / 25) (decide (way < 24)) σ₁
    refine ⟨r, [Ob.list (strsV (wordsL line))], ?_, by omega⟩
    rw [← hσ₁]
    rw [hρ] at c1
    exact callFn_ret rfl (step s0 (step s1 (step s2 (step s3 (ret_step (ex_ite c1 (ex_ret (x_fn (ev3 (ev_var rfl) (by (repeat' (first | exact ev_var rfl | exact ev_int | exact ev_gint | exact ev_str | exact ev_bool | exact ev_none | exact evs_nil | apply evs_cons | apply ev_add | apply ev_sub | apply ev_lt | apply ev_le | apply ev_gt | apply ev_ge | apply ev_eq | apply ev_ne | apply ev_max' | apply ev_min' | apply ev_mod | apply ev_div | apply ev_neg | apply not_tt | apply ev_tup | apply ev_lst | apply ev_idx | exact it_t0 | exact it_t1 | exact it_t2 | exact it_t3 | exact it_l0 | exact it_l1 | exact it_l2 | apply ev_bint | decide | omega))) (by (repeat' (first | exact ev_var rfl | exact ev_int | exact ev_gint | exact ev_str | exact ev_bool | exact ev_none | exact evs_nil | apply evs_cons | apply ev_add | apply ev_sub | apply ev_lt | apply ev_le | apply ev_gt | apply ev_ge | apply ev_eq | apply ev_ne | apply ev_max' | apply ev_min' | apply ev_mod | apply ev_div | apply ev_neg | apply not_tt | apply ev_tup | apply ev_lst | apply ev_idx | exact it_t0 | exact it_t1 | exact it_t2 | exact it_t3 | exact it_l0 | exact it_l1 | exact it_l2 | apply ev_bint | decide | omega)))) (by decide) hr))))))))
  · rw [decide_eq_false h20] at c1
    have l1 := Txt.slice_le wd none (some 1)
    have l2 := Txt.slice_le wd (some 1) none
    by_cases h12 : way < 12
    · rw [decide_eq_true h12] at c2
      have t0 : execS (pre Pg 16) (.assign 6 (.lst false [.cat (.cstr "+") (.var 4), .cat (.cstr "-") (.var 4), .cat (.cstr "0") (.var 4), .cat (.var 4) (.cstr "a"), .cat (.cat (.sTo (.var 4) (.cint 1)) (.cstr ".")) (.sFrom (.var 4) (.cint 1)), .cstr "", .cat (.cstr " ") (.var 4), .cat (.var 4) (.cstr " ")])) ρ σ₁ = .ok (.next [some (.str line), some (.int k), some (.loc σ.length), some (.int pl), some (.str wd), some (.int way), some (.lst (strsV (listA wd)))]) σ₁ := by
        rw [hρ]
        exact ex_assign (ev_lst (evs_cons (ev_cat ev_str (ev_var rfl) qa (by omega)) (evs_cons (ev_cat ev_str (ev_var rfl) qb (by omega)) (evs_cons (ev_cat ev_str (ev_var rfl) qc (by omega)) (evs_cons (ev_cat (ev_var rfl) ev_str (by omega) qd) (evs_cons (ev_cat (ev_cat (ev_sTo (ev_var rfl) ev_int (by omega)) ev_str (by omega) (by omega)) (ev_sFrom (ev_var rfl) ev_int (by omega)) (by rw [len_app]; omega) (by omega)) (evs_cons ev_str (evs_cons (ev_cat ev_str (ev_var rfl) qf (by omega)) (evs_cons (ev_cat (ev_var rfl) ev_str (by omega) qf) evs_nil)))))))))
      have t1 : execS (pre Pg 16) (.assign 6 (.bin .Add (.var 6) (.lst false [.cat (.var 4) (.cstr "\n"), .strMul "1" (.cint 31), .cat (.var 4) (.cstr "_0"), .cat (.cstr "0x") (.var 4)]))) [some (.str line), some (.int k), some (.loc σ.length), some (.int pl), some (.str wd), some (.int way), some (.lst (strsV (listA wd)))] σ₁ = .ok (.next [some (.str line), some (.int k), some (.loc σ.length), some (.int pl), some (.str wd), some (.int way), some (.lst (strsV (listA wd ++ listB wd)))]) σ₁ := by
        rw [show strsV (listA wd ++ listB wd) = strsV (listA wd) ++ strsV (listB wd) by simp [strsV]]
        exact ex_assign (ev_bin (ev_var rfl) (ev_lst (evs_cons (ev_cat (ev_var rfl) ev_str (by omega) qg) (evs_cons ev_mul31 (evs_cons (ev_cat (ev_var rfl) ev_str (by omega) qh) (evs_cons (ev_cat ev_str (ev_var rfl) qi (by omega)) evs_nil))))) (bin_lists (by simp [listA, listB])))
      obtain ⟨z, hz, hzi⟩ := item_strs (σ := σ₁) (v := .lst (strsV (listA wd ++ listB wd))) (k := way) rfl (fun vs h => by cases h) (by omega) (by simp [listA, listB]; omega) (by simp [listA, listB])
      have hzl := listA_len hz
      obtain ⟨σ₂, hσ₂⟩ : ∃ σ₂, σ₂ = σ ++ [Ob.list (strsV ((wordsL line).set pl.toNat z))] := ⟨_, rfl⟩
      have hset : σ₁.set σ.length (Ob.list ((strsV (wordsL line)).set pl.toNat (.str z))) = σ₂ := by rw [hσ₁, hσ₂, map_set]; simp
      have t2 : execS (pre Pg 16) (.setitem (.var 2) (.var 3) (.idx (.var 6) (.var 5))) [some (.str line), some (.int k), some (.loc σ.length), some (.int pl), some (.str wd), some (.int way), some (.lst (strsV (listA wd ++ listB wd)))] σ₁ = .ok (.next [some (.str line), some (.int k), some (.loc σ.length), some (.int pl), some (.str wd), some (.int way), some (.lst (strsV (listA wd ++ listB wd)))]) σ₂ := by
        have e1 : evalE (pre Pg 16) [some (.str line), some (.int k), some (.loc σ.length), some (.int pl), some (.str wd), some (.int way), some (.lst (strsV (listA wd ++ listB wd)))] (.idx (.var 6) (.var 5)) σ₁ = .ok (.str z) σ₁ := ev_idx (ev_var rfl) (ev_var rfl) hzi
        have e2 : putAt σ₁ (.loc σ.length) (.int pl) (.str z) = some σ₂ := by
          simp only [putAt, ownL, hget, Option.bind_some, V.asInt]
          rw [if_pos ⟨by omega, by rw [List.length_map]; omega, by rw [List.length_map]; omega⟩, hset]
        have e3 : evalE (pre Pg 16) [some (.str line), some (.int k), some (.loc σ.length), some (.int pl), some (.str wd), some (.int way), some (.lst (strsV (listA wd ++ listB wd)))] (.var 2) σ₁ = .ok (.loc σ.length) σ₁ := ev_var rfl
        have e4 : evalE (pre Pg 16) [some (.str line), some (.int k), some (.loc σ.length), some (.int pl), some (.str wd), some (.int way), some (.lst (strsV (listA wd ++ listB wd)))] (.var 3) σ₁ = .ok (.int pl) σ₁ := ev_var rfl
        exact ex_setitem e1 e3 e4 e2
      have hlist2 : listOf σ₂ (.loc σ.length) = some (strsV ((wordsL line).set pl.toNat z)) := by
        have : σ₂[σ.length]? = some (Ob.list (strsV ((wordsL line).set pl.toNat z))) := by rw [hσ₂]; simp
        simp only [listOf, this]
      have hss := sum_set z (wordsL line) pl.toNat
      have hsl : ((wordsL line).set pl.toNat z).length = (wordsL line).length := List.length_set
      refine ⟨Txt.join " " ((wordsL line).set pl.toNat z), [Ob.list (strsV ((wordsL line).set pl.toNat z))], ?_, ?_⟩
      · rw [← hσ₂]
        rw [hρ] at c1 c2 t0
        exact callFn_ret rfl (step s0 (step s1 (step s2 (step s3 (step (ex_ite c1 ex_nil) (ret_step (ex_ite c2 (step t0 (step t1 (step t2 (ex_ret (ev_join (ev_var rfl) hlist2 (by omega)))))))))))))
      · show (Builtin.Str.glued " " ((wordsL line).set pl.toNat z)).length ≤ 9000
        rw [size_glued]
        have e : (" " : Str).length = 1 := by decide
        rw [e]; omega
    · rw [decide_eq_false h12] at c2
      obtain ⟨hd, hhd, hhi⟩ := item_strs (σ := σ₁) (v := .loc σ.length) (k := 0) hlist (fun vs h => by cases h) (by decide) (by omega) (by omega)
      have l3 := Txt.slice_le line none (some 1)
      have l4 := Txt.slice_le line (some 1) none
      have l5 := PyProof.Rows.len_upper (Txt.slice line none (some 1))
      have t0 : execS (pre Pg 16) (.assign 6 (.lst false [.cstr "", .cat (.upper (.sTo (.var 0) (.cint 1))) (.sFrom (.var 0) (.cint 1)), .cat (.var 0) (.cstr " 1"), .upper (.var 0), .cat (.cstr " ") (.var 0), .cat (.var 0) (.cstr " "), .idx (.var 2) (.cint 0)])) ρ σ₁ = .ok (.next [some (.str line), some (.int k), some (.loc σ.length), some (.int pl), some (.str wd), some (.int way), some (.lst (strsV (listC line hd)))]) σ₁ := by
        rw [hρ]
        exact ex_assign (ev_lst (evs_cons ev_str (evs_cons (ev_cat (ev_upper (ev_sTo (ev_var rfl) ev_int (by omega)) (by omega)) (ev_sFrom (ev_var rfl) ev_int (by omega)) (by omega) (by omega)) (evs_cons (ev_cat (ev_var rfl) ev_str (by omega) qj) (evs_cons (ev_upper (ev_var rfl) (by omega)) (evs_cons (ev_cat ev_str (ev_var rfl) qf (by omega)) (evs_cons (ev_cat (ev_var rfl) ev_str (by omega) qf) (evs_cons (ev_idx (ev_var rfl) ev_int hhi) evs_nil))))))))
      have t1 : execS (pre Pg 16) (.assign 6 (.bin .Add (.var 6) (.giveRepl 0))) [some (.str line), some (.int k), some (.loc σ.length), some (.int pl), some (.str wd), some (.int way), some (.lst (strsV (listC line hd)))] σ₁ = .ok (.next [some (.str line), some (.int k), some (.loc σ.length), some (.int pl), some (.str wd), some (.int way), some (.lst (strsV (listC line hd ++ ["give" ++ Txt.slice line (some 3) none, Txt.replace line " " "\t"])))]) σ₁ := by
        rw [show strsV (listC line hd ++ ["give" ++ Txt.slice line (some 3) none, Txt.replace line " " "\t"]) = strsV (listC line hd) ++ strsV ["give" ++ Txt.slice line (some 3) none, Txt.replace line " " "\t"] by simp [strsV]]
        exact ex_assign (ev_bin (ev_var rfl) (ev_give rfl (by omega)) (bin_lists (by simp [listC])))
      obtain ⟨z, hz, hzi⟩ := item_strs (σ := σ₁) (v := .lst (strsV (listC line hd ++ ["give" ++ Txt.slice line (some 3) none, Txt.replace line " " "\t"]))) (k := way - 12) rfl (fun vs h => by cases h) (by omega) (by simp [listC]; omega) (by simp [listC])
      have hzl := listC_len hb (word_len hhd) hz
      refine ⟨z, [Ob.list (strsV (wordsL line))], ?_, by omega⟩
      rw [← hσ₁]
      rw [hρ] at c1 c2 t0
      exact callFn_ret rfl (step s0 (step s1 (step s2 (step s3 (step (ex_ite c1 ex_nil) (step (ex_ite c2 ex_nil) (step t0 (step t1 (ex_ret (ev_idx (ev_var rfl) (ev_sub (ev_var rfl) ev_int) hzi))))))))))
/-- how the line is read in the end -/
theorem law_end (ns : List Int) (x1 x2 x3 x5 x6 : Option V) (line : Str) (hl : line.length ≤ 9000) (σ : Store) : Ends (pre Pg 84) [.assign 7 (.call 56 [.var 4]), .ite (.cmp .Is (.var 7) (.cnone)) [.ret (.call 81 [.var 4])] [], .ret (.call 80 [.call 39 [.var 4], .var 7])] [some (.lst (ns.map .int)), x1, x2, x3, some (.str line), x5, x6, none] σ := by
  have hd := F_due line hl σ
  have hr := F_read line hl σ
  have hf := F_refused line hl
  cases e : dueR (wordsL line) with
  | none =>
    rw [e] at hd
    refine .asg (x_fn (ev1 (ev_var rfl)) (by decide) hd) ?_
    exact .yesRet (ev_cmp (ev_var rfl) ev_none rfl) (.ret (x_fn (ev1 (ev_var rfl)) (by decide) (hf e σ)))
  | some q =>
    rw [e] at hd hr
    refine .asg (x_fn (ev1 (ev_var rfl)) (by decide) hd) ?_
    refine .no (ev_cmp (ev_var rfl) ev_none rfl) ?_
    have hq : (∃ a, q.2 = [a]) ∨ ∃ a b, q.2 = [a, b] := by
      generalize wordsL line = ws at e
      rcases ws with _ | ⟨k, _ | ⟨a, _ | ⟨b, _ | ⟨cc, r⟩⟩⟩⟩
      · cases e
      · cases e
      · rw [due2] at e
        split at e
        · cases e; exact .inl ⟨_, rfl⟩
        · cases e
      · rw [due3] at e
        split at e
        · cases e; exact .inr ⟨_, _, rfl⟩
        · cases e
      · cases e
    obtain ⟨k, us⟩ := q
    dsimp only at hr hd hq ⊢
    rcases hq with ⟨a, rfl⟩ | ⟨a, b, rfl⟩
    · exact .ret (x_fn (ev2 (x_fn (ev1 (ev_var rfl)) (by decide) hr) (ev_var rfl)) (by decide) (F_alike1 k a σ))
    · exact .ret (x_fn (ev2 (x_fn (ev1 (ev_var rfl)) (by decide) hr) (ev_var rfl)) (by decide) (F_alike2 k a b σ))
/-- from the line on -/
theorem law_line (ns : List Int) (hl : ns.length ≤ 63) (x1 x2 x5 : Option V) (note : List V) (line : Str) (h70 : line.length ≤ 70) (hb : 32 ∈ line.cps.toList) (hs : ∀ σ, fn Pg 40 [.tup note] σ = .ok (.str line) σ) (σ : Store) :
    Ends (pre Pg 84) [.assign 6 (.call 40 [.var 3]), .ite (.or [.not (.isi (.var 6) .str), .cmp .NotEq (.var 6) (.var 4)]) [.ret (.cbool false)] [],
      .ite (.cmp .Eq (.bin .Mod (.call 0 [.var 0, .cint 3]) (.cint 2)) (.cint 1)) [.assign 4 (.call 16 [.var 4, .bin .FloorDiv (.call 0 [.var 0, .cint 3]) (.cint 2)])] [],
      .assign 7 (.call 56 [.var 4]), .ite (.cmp .Is (.var 7) (.cnone)) [.ret (.call 81 [.var 4])] [], .ret (.call 80 [.call 39 [.var 4], .var 7])] [some (.lst (ns.map .int)), x1, x2, some (.tup note), some (.str line), x5, none, none] σ := by
  have cell := fun (ρ : Loc) (σ : Store) => ev_cell13 (N := 84) hl (by decide) (ρ := ρ) 3 (by decide) (by decide) rfl σ
  refine .asg (x_fn (ev1 (ev_var rfl)) (by decide) (hs _)) ?_
  refine .no (or_tt (p := false) (q := false) (not_tt (p := true) (ev_isi (ev_var rfl) rfl)) fun _ => (ev_sne (ev_var rfl) (ev_var rfl)).trans (by rw [decide_eq_true rfl]; rfl)) ?_
  have hc : evalE (pre Pg 84) [some (.lst (ns.map .int)), x1, x2, some (.tup note), some (.str line), x5, some (.str line), none] (.cmp .Eq (.bin .Mod (.call 0 [.var 0, .cint 3]) (.cint 2)) (.cint 1)) σ = .ok (.bool (decide (cellAt ns 3 % 2 = 1))) σ := ev_eq (ev_mod (cell _ _) ev_int (by decide)) ev_int
  by_cases h : cellAt ns 3 % 2 = 1
  · rw [decide_eq_true h] at hc
    obtain ⟨r, τ, hr, hrl⟩ := F_altered line h70 hb (cellAt ns 3 / 2) σ
    exact .yes hc (step (ex_assign (x_fn (ev2 (ev_var rfl) (ev_div (cell _ _) ev_int (by decide))) (by decide) hr)) ex_nil) (law_end ns x1 x2 _ x5 _ r hrl _)
  · rw [decide_eq_false h] at hc
    exact .no hc (law_end ns x1 x2 _ x5 _ line (by omega) _)
theorem mem_blank {a b : Str} : 32 ∈ (a ++ " " ++ b).cps.toList := by
  have e : (a ++ " " ++ b).cps = a.cps ++ (" " : Str).cps ++ b.cps := rfl
  rw [e, Array.toList_append, Array.toList_append]
  have : 32 ∈ (" " : Str).cps.toList := by decide
  simp [this]
theorem owe_is (s : Str) : ("owe " : Str) ++ s = "owe" ++ " " ++ s := by
  have e : ("owe " : Str) = "owe" ++ " " := by decide
  rw [e]
theorem law13 (ns : List Int) (hl : ns.length ≤ 63) (hbits : ∀ n ∈ ns, Builtin.Int.intBits n ≤ 2 ^ 20) : ∃ σ', execB (pre Pg 84) b_law (some (.lst (ns.map .int)) :: List.replicate (s_law.length - 1) Option.none) [] = .ok (.ret (.bool true)) σ' := by
  show Ends (pre Pg 84) b_law [some (.lst (ns.map .int)), none, none, none, none, none, none, none] []
  have cell := fun (ρ : Loc) (k : Int) (h0 : 0 ≤ k) (hk : k < 100) (σ : Store) => ev_cell13 (N := 84) hl (by decide) (ρ := ρ) k h0 hk rfl σ
  obtain ⟨n1, hn1, a0, a1⟩ := F_number_by (cellAt ns 1) (bits_cell hbits 1) []
  obtain ⟨n2, hn2, b0, b1⟩ := F_number_by (cellAt ns 2) (bits_cell hbits 2) []
  obtain ⟨l1, g1⟩ := txt_ok a0 a1
  obtain ⟨l2, g2⟩ := txt_ok b0 b1
  obtain ⟨hd, hhd⟩ : ∃ z, z = cellAt ns 0 % 3 := ⟨_, rfl⟩
  have hd3 : hd = 0 ∨ hd = 1 ∨ hd = 2 := by omega
  refine .asg (v := .int hd) (by rw [hhd]; exact ev_mod (cell _ 0 (by decide) (by decide) _) ev_int (by decide)) ?_
  refine .asg (v := .lst [.int n1, .int n2]) (ev_lst (ev2 (x_fn (ev1 (cell _ 1 (by decide) (by decide) _)) (by decide) hn1) (x_fn (ev1 (cell _ 2 (by decide) (by decide) _)) (by decide) hn2))) ?_
  refine .asg (v := .tup [.str "owe", .int n1]) (ev_tup (ev2 ev_str (ev_idx (ev_var rfl) ev_int it_l0))) ?_
  refine .asg (v := .str ("owe" ++ " " ++ txt n1)) (by rw [← owe_is]; exact ev_cat ev_str (ev_strOf (ev_idx (ev_var rfl) ev_int it_l0) g1) (by decide) (show (txt n1).length ≤ 10000 by omega)) ?_
  have hc : evalE (pre Pg 84) [some (.lst (ns.map .int)), some (.int hd), some (.lst [.int n1, .int n2]), some (.tup [.str "owe", .int n1]), some (.str ("owe" ++ " " ++ txt n1)), none, none, none] (.cmp .Gt (.var 1) (.cint 0)) [] = .ok (.bool (decide (0 < hd))) [] := by (repeat' (first | exact ev_var rfl | exact ev_int | exact ev_gint | exact ev_str | exact ev_bool | exact ev_none | exact evs_nil | apply evs_cons | apply ev_add | apply ev_sub | apply ev_lt | apply ev_le | apply ev_gt | apply ev_ge | apply ev_eq | apply ev_ne | apply ev_max' | apply ev_min' | apply ev_mod | apply ev_div | apply ev_neg | apply not_tt | apply ev_tup | apply ev_lst | apply ev_idx | exact it_t0 | exact it_t1 | exact it_t2 | exact it_t3 | exact it_l0 | exact it_l1 | exact it_l2 | apply ev_bint | decide | omega))
  have q1 : (" " : Str).length = 1 ∧ ("owe" : Str).length = 3 ∧ ("pay" : Str).length = 3 ∧ ("rate" : Str).length = 4 := by decide
  obtain ⟨qa, qb, qc, qd⟩ := q1
  by_cases h0 : 0 < hd
  · rw [decide_eq_true h0] at hc
    obtain ⟨w, hw, hwi⟩ : ∃ w : Str, (w = "pay" ∨ w = "rate") ∧ itemV [] (.lst [.str "pay", .str "rate"]) (.int (hd - 1)) = some (.str w) := by
      rcases hd3 with h | h | h
      · omega
      · rw [h]; exact ⟨"pay", .inl rfl, rfl⟩
      · rw [h]; exact ⟨"rate", .inr rfl, rfl⟩
    have hwl : w.length ≤ 4 := by rcases hw with rfl | rfl <;> omega
    refine .yes (ρ' := [some (.lst (ns.map .int)), some (.int hd), some (.lst [.int n1, .int n2]), some (.tup [.str w, .int n1, .int n2]), some (.str (w ++ " " ++ txt n1 ++ " " ++ txt n2)), some (.str w), none, none]) (σ₂ := []) hc (step (ex_assign (ev_idx (ev_lst (ev2 ev_str ev_str)) (ev_sub (ev_var rfl) ev_int) hwi)) (step (ex_assign (ev_tup (ev3 (ev_var rfl) (ev_idx (ev_var rfl) ev_int it_l0) (ev_idx (ev_var rfl) ev_int it_l1)))) (step (ex_assign (ev_cat (ev_cat (ev_cat (ev_cat (ev_var rfl) ev_str (by omega) (by omega)) (ev_strOf (ev_idx (ev_var rfl) ev_int it_l0) g1) (by rw [len_app]; omega) (show (txt n1).length ≤ 10000 by omega)) ev_str (show (w ++ " " ++ txt n1).length ≤ 10000 by rw [len_app, len_app]; omega) (by omega)) (ev_strOf (ev_idx (ev_var rfl) ev_int it_l1) g2) (show (w ++ " " ++ txt n1 ++ " ").length ≤ 10000 by rw [len_app, len_app, len_app]; omega) (show (txt n2).length ≤ 10000 by omega))) ex_nil))) ?_
    exact law_line ns hl _ _ _ [.str w, .int n1, .int n2] _ (by rw [len_app, len_app, len_app, len_app]; omega) mem_blank (fun σ => F_shown2 w n1 n2 a0 a1 b0 b1 (by omega) σ) []
  · rw [decide_eq_false h0] at hc
    refine .no hc ?_
    exact law_line ns hl _ _ _ [.str "owe", .int n1] _ (by rw [len_app, len_app]; omega) mem_blank (fun σ => F_shown1 "owe" n1 a0 a1 (by omega) σ) []
end Mine


open PySem PySem.W PyProof.Rows
set_option Elab.async false
set_option maxRecDepth 100000
set_option maxHeartbeats 8000000
set_option linter.unusedVariables false
namespace Mine
noncomputable def Tt : Tops where
  fns := [("_law_cell_at", 0), ("_law_whole", 1), ("_law_alone", 13), ("_law_number_by", 14), ("_law_one_sign", 15), ("_law_altered", 16), ("_law_number", 17), ("number_of", 38), ("read", 39), ("shown", 40), ("_law_due", 56), ("_law_alike", 80), ("_law_refused", 81)]
  classes := []
  tint := [("MOST_FIGURES", 30)]
  tstr := [("FIGURES", "0123456789")]
  attrs := []
  xs := [("LoanError", 24), ("BadAmount", 37), ("BadRate", 49), ("BadDay", 61), ("BadPay", 73), ("NoNote", 85)]
noncomputable def Zt : Nms := { classes := Pg.classes, attrs := [], nd := by decide }
noncomputable def Mt : Nat → Option Str := fun _ => none
noncomputable def cx (prog : Program) (w : World) (K : Frag) (p : Program) (loose : List Str) (mean : ExcName → Option Value) (mg mb : Str → Option Value) (B : Heap) : Cx := ⟨prog, w, K, p, loose, mean, mg, mb, ⟨B, Tt.xs.map (·.2)⟩, Tt, Mt, Zt⟩
theorem weight_le {l : List PyData} {d : PyData} (h : d ∈ l) : PyData.weight d ≤ PyData.weightAll l := by
  induction l with
  | nil => cases h
  | cons x l ih =>
    rw [PyData.weightAll]
    rcases List.mem_cons.mp h with rfl | h
    · omega
    · have := ih h; omega
theorem bits_ns {ns : List Int} (h : (PyData.list (ns.map PyData.int)).layable0 = true) : ∀ n ∈ ns, Builtin.Int.intBits n ≤ 2 ^ 20 := by
  intro n hn
  simp only [PyData.layable0, Bool.and_eq_true, decide_eq_true_eq] at h
  have hw := h.2
  rw [PyData.weight] at hw
  have := weight_le (List.mem_map_of_mem (f := PyData.int) hn)
  exact Nat.le_trans (show Builtin.Int.intBits n ≤ _ from this) hw
noncomputable def numsOf {vs : List Value} {ns : List Int} (_ : IntsAre vs ns) : List Int := ns
noncomputable def qv : Program := { PySem.Challenge.pw_uf050010_13 with main := { PySem.Challenge.pw_uf050010_13.main with body := picks [1, 2, 3, 4, 5, 6, 8, 9, 10, 11, 12, 14, 15, 16, 17, 18, 19, 20, 21, 22, 23, 24] PySem.Challenge.pw_uf050010_13.main.body } }
noncomputable def lvs : List (Str × WData) := []
noncomputable def xt (s : Shared) : Bool := xlAt qv lvs s && recOk (RowW.records PySem.Challenge.rw_uf050010_13.row.toRowW) s
noncomputable def hk : Hook := lawHook Pg Tt Mt [2, 3, 15, 22, 23, 24, 25, 28, 35, 36, 37, 40, 47, 48, 49, 52, 59, 60, 61, 64, 71, 72, 73, 76, 83, 84, 85, 88, 90, 91, 93, 94, 95, 97, 98, 100, 101, 102, 105, 106, 107, 109, 110, 112, 113, 114, 116, 117, 119, 120, 121, 123, 124, 126, 127, 128, 130, 131, 133, 134, 135, 137, 138, 140, 141, 142, 144, 145, 147, 148, 149, 152, 153, 154, 156, 157, 159, 160, 161, 163, 164, 166, 167, 168, 170, 171, 173, 174, 175, 177, 178, 180, 181]
theorem both {α β γ : Type} {o : Option α} {f : α → β} {g : α → γ} {b : β} {c : γ} (h1 : o.map f = some b) (h2 : o.map g = some c) : o.map (fun s => (f s, g s)) = some (b, c) := by
  cases o with
  | none => cases h1
  | some a => cases h1; cases h2; rfl
/-- the top's run, and what is looked at behind it -/
theorem hl1 (w : World) : (openEnds treeTable PySem.Challenge.rw_uf050010_13.row.prog w 3572).map (fun s => openSeen qv [] (importedModules PySem.Challenge.rw_uf050010_13.row.prog.main.body) xt true s) = some (openGood qv []) := by
  kernel_rfl
theorem hl2 (w : World) : (openEnds treeTable PySem.Challenge.rw_uf050010_13.row.prog w 3572).map (fun s => hk.obs s) = some true := by
  kernel_rfl
theorem hl : LeftO PySem.Challenge.rw_uf050010_13.row.prog qv [] xt hk.obs hk.val 3572 := fun w => both (hl1 w) (hl2 w)
end Mine
theorem PySem.Challenge.cw_uf050010_13_holds : PySem.Challenge.rw_uf050010_13.Holds := by
  w_on
  refine holds_law (by decide +kernel) fun said => ?_
  refine holds_open (q := Mine.qv) (loose := []) (Xt := Mine.xt) (XP := XL Mine.qv Mine.lvs) (YP := Mine.hk.says) (N := 3572) Mine.hl Mine.hk.of Mine.hk.keeps (fun s e => xl_of s (Bool.and_eq_true_iff.mp e).1) XL.keeps (by rfl) (by rfl) (by rfl) (fun s e => recFacts_of (Bool.and_eq_true_iff.mp e).2) (by rfl) (by first | assumption | decide +kernel) (by decide +kernel) ⟨rfl, rfl, rfl, rfl, rfl, by decide +kernel⟩ ?hw ?hc
  case hw => w_witness2
  intro w s₀ s₁ mg mb G Y fa o pm cd doc dV kV ho hd hcd hD hmg hg args vals as hpre hlay hrd hwl hlo
  obtain ⟨K, KX, CK⟩ := Y
  refine Ground.open G ?_
  intro T B D TE TW
  try (refine guard_noD D (by decide +kernel) ?_; clear D)
  obtain ⟨_, _, M⟩ := bmod_of_top T
  have TA := at_of_top T
  try (obtain ⟨_, _, he, B0⟩ := based_of_top T rfl hmg ho hd; have he' : cd = _ := he; subst he'; clear he)
  clear hmg
  wrow_args hpre hlay hrd hwl hlo
  all_goals (
    first | refine callC_kw (enter_call ?_) | refine enter_call ?_ | refine callC_kw (enter_callW ?_) | refine enter_callW ?_ | w_how
    w_top on
    try refine codeAny_mono ?_ (fun _ _ g => GoodW.toG g)
    have K0 := below_caller (Top.heap T)
    w_call any ho hd hcd hD T F
    clear hd TA
    k_drop
    skip)
  rename Top _ _ _ _ _ _ => T
  rename Below _ _ _ _ => K0
  rename Fr _ _ _ _ => F
  rename IntsAre _ _ => hI
  rename Heap.IsList _ _ _ => hL
  rename PyData.layable0 _ = true => hW
  obtain ⟨σ', res⟩ := Mine.law13 (Mine.numsOf hI) (by unfold Mine.numsOf; omega) (Mine.bits_ns hW)
  refine Mine.run_chk (n := 84) (c := Mine.cx _ _ K Mine.qv _ _ _ _ _) rfl rfl rfl CK rfl T KX K0 F rfl hL hI (S := Mine.s_law) rfl rfl (by decide) (by decide) rfl rfl rfl (show importsNone Mine.qv = true by decide +kernel) (by rfl) (by rfl) (by decide) res ?_
  intro h' tk m' F'
  wrow_close
