import PyProof.Rows.All
import PyProof.Rows.SumAny
import Imp.Common
import KE.KIsAll
import KE.KItem
import KE.KSlice
import KE.KSliceW
import KE.KTryDeep
import KE.KTryMore
import ObjForm.Claim3
import Open.Claim
import Open.Head
import Open.Line
import Open.Row
import OpenK.KCall
import OpenK.KDescr
import OpenK.KFacts
import OpenK.KFor
import OpenK.KGet
import OpenK.KLine
import OpenK.KList
import OpenK.KMake
import OpenK.KOwn
import OpenK.KRaise
import OpenK.KWalk
import OpenK.Peek
import OpenK.TopRead
import Wide.Bridge
import Wide.BridgeG
import Wide.Claim
import Wide.Data
import Wide.Ends
import Wide.FinOn
import Wide.Head
import Wide.Lay
import Wide.Line
import Wide.Loose
import Wide.ObjOpen
import Wide.OfPy
import Wide.OfTm
import Wide.OneHead
import Wide.Pins
import Wide.Reads
import Wide.Row
import Wide.Tac
import Wide.Tm
import Wide.Vals
import Wide.Well
import PySem.Challenge.RW_uf050010_11
set_option Elab.async false
set_option maxRecDepth 100000
namespace Mine
open PySem PySem.W PyProof.Rows
noncomputable def picks {α : Type} (is : List Nat) (l : List α) : List α := is.filterMap fun i => l[i]?
noncomputable def qv : Program := { PySem.Challenge.pw_uf050010_11 with main := { PySem.Challenge.pw_uf050010_11.main with body := picks [1, 2, 3, 4, 5, 7, 8, 9, 10, 11, 12, 14, 15, 16, 17, 18, 19, 20, 21, 23, 24, 25, 27, 28, 29, 30, 31, 32, 33, 34, 35, 36, 37, 38, 39, 40, 41, 42, 43, 44, 45, 46, 47] PySem.Challenge.pw_uf050010_11.main.body } }
noncomputable def lvs : List (Str × WData) := [("MOST_AMOUNT", WData.int 1000000000000)]
noncomputable def xt (s : Shared) : Bool := xlAt qv lvs s && recOk (RowW.records PySem.Challenge.rw_uf050010_11.row.toRowW) s
set_option maxHeartbeats 8000000 in
theorem hl1 (w : World) : (openEnds treeTable PySem.Challenge.rw_uf050010_11.row.prog w 5272).map (fun s => openSeen qv ["MOST_AMOUNT"] (importedModules PySem.Challenge.rw_uf050010_11.row.prog.main.body) xt true s) = some (openGood qv ["MOST_AMOUNT"]) := by
  kernel_rfl
end Mine
set_option Elab.async false
set_option linter.all false
set_option maxRecDepth 100000
set_option genSizeOf false
namespace Mine
open PySem

/-- values of the small interpreter -/
inductive V where
  | none
  | bool (b : Bool)
  | int (i : Int)
  | str (s : Str)
  | tup (vs : List V)
  | lst (vs : List V)
  | loc (i : Nat)
  | exc (c : Addr)

/-- objects that the run owns and may change -/
inductive Ob where
  | list (vs : List V)
  | inst (c : Nat) (fs : List (Nat × V))

noncomputable abbrev Store := List Ob
noncomputable abbrev Loc := List (Option V)

inductive R (α : Type) where
  | ok (a : α) (σ : Store)
  | exn (c : Addr) (σ : Store)
  | stuck

noncomputable def R.bind {α β : Type} (r : R α) (f : α → Store → R β) : R β :=
  match r with
  | .ok a σ => f a σ
  | .exn c σ => .exn c σ
  | .stuck => .stuck

/-- the same, but no exception may come -/
noncomputable def R.got {α β : Type} (r : R α) (f : α → Store → R β) : R β :=
  match r with
  | .ok a σ => f a σ
  | _ => .stuck

/-- built-in functions of plain arguments -/
inductive BI where
  | len | max2 | min2 | sorted | int
  deriving DecidableEq

/-- what isinstance asks -/
inductive TY where
  | int | bool | tuple | list | str
  | exc (x : Str) (j : Nat)
  | verr
  deriving DecidableEq

inductive ME where
  | var (i : Nat)
  | cint (k : Int)
  | cstr (s : Str)
  | cnone
  | cbool (b : Bool)
  | gint (x : Str) (k : Int)
  | gstr (x : Str) (s : Str)
  | bin (op : Operator) (a b : ME)
  | neg (a : ME)
  | not (a : ME)
  | and (es : List ME)
  | or (es : List ME)
  | cmp (op : CmpOp) (a b : ME)
  | cmp2 (op₁ op₂ : CmpOp) (a b c : ME)
  | call (f : Nat) (args : List ME)
  | bi (b : BI) (args : List ME)
  | copy (own : Bool) (e : ME)
  | isi (e : ME) (t : TY)
  | make (c : Nat) (args : List ME)
  | meth (o : ME) (f : Nat) (args : List ME)
  | attr (o : ME) (k : Nat)
  | idx (a i : ME)
  | sliceTo (own : Bool) (a k : ME)
  | sliceFrom (own : Bool) (a k : ME)
  | tup (es : List ME)
  | lst (own : Bool) (es : List ME)
  | sumAt (k i : Nat)
  | rev (e : ME)
  | strMul (s : Str) (e : ME)

inductive MS where
  | expr (e : ME)
  | append (o e : ME)
  | assign (i : Nat) (e : ME)
  | unpack (is : List Nat) (e : ME)
  | setattr (o : ME) (k : Nat) (e : ME)
  | setitem (o k e : ME)
  | unpackSub (i : Nat) (o k e : ME)
  | unpackL (is : List Nat) (e : ME)
  | ite (c : ME) (a b : List MS)
  | forIn (i : Nat) (it : ME) (body : List MS)
  | forRange (i : Nat) (args : List ME) (body : List MS)
  | while (fuel : Nat) (c : ME) (body : List MS)
  | forTup (is : List Nat) (it : ME) (body : List MS)
  | ret (e : ME)
  | retNone
  | brk
  | cont
  | pass
  | raise (x : Str) (k : Nat) (s : Str)
  | try (body hs : List MS)
  | hand (j : Nat) (as : Option Nat) (suite : List MS)

/-- what lies in a list -/
noncomputable def listOf (σ : Store) : V → Option (List V)
  | .lst vs => some vs
  | .loc i => match σ[i]? with
    | some (.list vs) => some vs
    | _ => Option.none
  | _ => Option.none
noncomputable def seqOf (σ : Store) : V → Option (List V)
  | .tup vs => some vs
  | v => listOf σ v

noncomputable def truth : V → Option Bool
  | .bool b => some b
  | .none => some false
  | .int i => some (i != 0)
  | _ => Option.none

/-- plain data: ints, None, strs and lists and tuples of them, so deep at most -/
noncomputable def plain : Nat → V → Bool
  | _, .none => true
  | _, .int _ => true
  | n + 1, .tup vs => vs.all (plain n)
  | n + 1, .lst vs => vs.all (plain n)
  | _, _ => false

/-- a value as == sees it: a list that is owned is looked at -/
noncomputable def seen (σ : Store) (v : V) : V := match listOf σ v with | some vs => V.lst vs | Option.none => v

open Classical in
/-- == : structural on plain data -/
noncomputable def eqV (σ : Store) (a b : V) : Option Bool :=
  match a, b with
  | .str x, .str y => some (decide (x = y))
  | a, b => if plain 8 (seen σ a) = true ∧ plain 8 (seen σ b) = true then some (decide (seen σ a = seen σ b)) else Option.none

/-- the int that a value is -/
noncomputable def V.asInt (v : V) : Option Int := match v with | .int i => some i | _ => Option.none
theorem asInt_inv {v : V} {i : Int} (h : v.asInt = some i) : v = .int i := by
  cases v with
  | int k => exact congrArg V.int (Option.some.inj h)
  | _ => cases h
/-- of two ints -/
noncomputable def on2 (a b : V) (f : Int → Int → Option V) : Option V := a.asInt.bind fun x => b.asInt.bind fun y => f x y
theorem on2_inv {a b : V} {f : Int → Int → Option V} {r : V} (h : on2 a b f = some r) : ∃ x y, a = .int x ∧ b = .int y ∧ f x y = some r := by
  obtain ⟨x, h1, h⟩ := Option.bind_eq_some_iff.mp h
  obtain ⟨y, h2, h⟩ := Option.bind_eq_some_iff.mp h
  exact ⟨x, y, asInt_inv h1, asInt_inv h2, h⟩
noncomputable def addL (σ : Store) (a b : V) : Option V := (listOf σ a).bind fun xs => (listOf σ b).bind fun ys => if xs.length + ys.length ≤ 1000000 then some (.lst (xs ++ ys)) else Option.none
noncomputable def mulF (x y : Int) : Option V := if (Builtin.Int.intBits x ≤ 64 ∨ Builtin.Int.intBits y ≤ 64) ∨ (Builtin.Int.intBits x ≤ 2 ^ 20 ∧ Builtin.Int.intBits y ≤ 2 ^ 20) then some (.int (x * y)) else Option.none
noncomputable def divF (x y : Int) : Option V := if y = 0 then Option.none else some (.int (x.fdiv y))
noncomputable def modF (x y : Int) : Option V := if y = 0 then Option.none else some (.int (x.fmod y))
noncomputable def powF (x y : Int) : Option V := if 0 ≤ y ∧ (Builtin.Int.intBits x : Int) * y ≤ 2 ^ 27 then some (.int (x ^ y.toNat)) else Option.none
noncomputable def binV (σ : Store) (op : Operator) (a b : V) : Option V :=
  match op with
  | .Add => (on2 a b fun x y => some (.int (x + y))).or (addL σ a b)
  | .Sub => on2 a b fun x y => some (.int (x - y))
  | .Mult => on2 a b mulF
  | .FloorDiv => on2 a b divF
  | .Mod => on2 a b modF
  | .Pow => on2 a b powF
  | _ => Option.none

noncomputable def isNone (v : V) : Bool := match v with | .none => true | _ => false
theorem isNone_inv {v : V} (h : isNone v = true) : v = .none := by
  cases v with
  | none => rfl
  | _ => cases h
noncomputable def cmpV (σ : Store) (op : CmpOp) (a b : V) : Option V :=
  match op with
  | .Lt => on2 a b fun x y => some (.bool (decide (x < y)))
  | .LtE => on2 a b fun x y => some (.bool (decide (x ≤ y)))
  | .Gt => on2 a b fun x y => some (.bool (decide (y < x)))
  | .GtE => on2 a b fun x y => some (.bool (decide (y ≤ x)))
  | .Eq => (eqV σ a b).map .bool
  | .NotEq => (eqV σ a b).map fun r => .bool (!r)
  | .Is => if isNone b = true then some (.bool (isNone a)) else Option.none
  | .IsNot => if isNone b = true then some (.bool (!isNone a)) else Option.none
  | _ => Option.none

/-- an item by an int, from the end where it is below nought -/
noncomputable def itemV (σ : Store) (a i : V) : Option V := (seqOf σ a).bind fun vs => i.asInt.bind fun k =>
  if 0 ≤ k then (if k < 1000000 then vs[k.toNat]? else Option.none) else if 0 ≤ k + vs.length ∧ -1000000 ≤ k then vs[(k + vs.length).toNat]? else Option.none

noncomputable def cutT (upto : Bool) (k : Int) (a : V) : Option V := match a with
  | .tup vs => if upto = false ∧ 1 ≤ k ∧ k ≤ vs.length ∧ vs.length ≤ 1000000 then some (.tup (vs.drop k.toNat)) else Option.none
  | _ => Option.none
/-- a part of a list or a tuple -/
noncomputable def cutV (σ : Store) (upto : Bool) (a i : V) : Option V :=
  match i with
  | .int k => if 0 ≤ k ∧ k < 1000000 then (match listOf σ a with
      | some vs => if vs.length ≤ 1000000 then some (.lst (if upto then vs.take k.toNat else vs.drop k.toNat)) else Option.none
      | Option.none => cutT upto k a) else Option.none
  | _ => Option.none
/-- a new list: an owned one or not -/
noncomputable def newL (own : Bool) (v : V) (σ : Store) : R V := match own, v with
  | true, .lst vs => .ok (.loc σ.length) (σ ++ [.list vs])
  | _, v => .ok v σ

noncomputable def intsOf : List V → Option (List Int)
  | [] => some []
  | .int i :: r => (intsOf r).map (i :: ·)
  | _ => Option.none

noncomputable def insertI (a : Int) : List Int → List Int
  | [] => [a]
  | b :: r => if a ≤ b then a :: b :: r else b :: insertI a r
noncomputable def sortI : List Int → List Int
  | [] => []
  | a :: r => insertI a (sortI r)

/-- the exception classes by number: the first is above all -/
noncomputable def subX (k j : Nat) : Bool := j.beq 0 || k.beq j
noncomputable def isI (v : V) : Option Bool := match v with | .int _ => some true | .bool _ => some true | _ => Option.none
noncomputable def isB (v : V) : Option Bool := match v with | .int _ => some false | .bool _ => some true | _ => Option.none
noncomputable def isT (v : V) : Option Bool := match v with | .tup _ => some true | _ => Option.none
noncomputable def isS (v : V) : Option Bool := match v with | .str _ => some true | _ => Option.none
noncomputable def asX (v : V) : Option Nat := match v with | .exc k => some k | _ => Option.none
theorem isT_inv {v : V} {b : Bool} (h : isT v = some b) : (∃ vs, v = .tup vs) ∧ b = true := by
  cases v with
  | tup vs => exact ⟨⟨vs, rfl⟩, (Option.some.inj h).symm⟩
  | _ => cases h
theorem isS_inv {v : V} {b : Bool} (h : isS v = some b) : (∃ s, v = .str s) ∧ b = true := by
  cases v with
  | str s => exact ⟨⟨s, rfl⟩, (Option.some.inj h).symm⟩
  | _ => cases h
theorem asX_inv {v : V} {k : Nat} (h : asX v = some k) : v = .exc k := by
  cases v with
  | exc j => exact congrArg V.exc (Option.some.inj h)
  | _ => cases h
noncomputable def isiV (σ : Store) (v : V) (t : TY) : Option Bool :=
  match t with
  | .int => isI v
  | .bool => isB v
  | .tuple => isT v
  | .list => (listOf σ v).map fun _ => true
  | .str => isS v
  | .exc _ j => (asX v).map fun k => subX k j
  | .verr => (asX v).map fun _ => true

noncomputable def bi1 (vs : List V) (f : V → Option V) : Option V := match vs with
  | [v] => f v
  | _ => Option.none
noncomputable def bi2 (vs : List V) (f : Int → Int → V) : Option V := match vs with
  | [a, b] => on2 a b fun x y => some (f x y)
  | _ => Option.none
theorem bi1_inv {vs : List V} {f : V → Option V} {v : V} (h : bi1 vs f = some v) : ∃ w, vs = [w] ∧ f w = some v := by
  unfold bi1 at h
  split at h
  · exact ⟨_, rfl, h⟩
  · cases h
theorem bi2_inv {vs : List V} {f : Int → Int → V} {v : V} (h : bi2 vs f = some v) : ∃ a b, vs = [.int a, .int b] ∧ v = f a b := by
  unfold bi2 at h
  split at h
  · obtain ⟨x, y, rfl, rfl, e⟩ := on2_inv h
    exact ⟨x, y, rfl, (Option.some.inj e).symm⟩
  · cases h

noncomputable def intOf (v : V) : Option V := match v with | .bool b => some (.int (if b then 1 else 0)) | _ => Option.none
theorem intOf_inv {v r : V} (h : intOf v = some r) : ∃ b, v = .bool b ∧ r = .int (if b then 1 else 0) := by
  cases v with
  | bool b => exact ⟨b, rfl, (Option.some.inj h).symm⟩
  | _ => cases h
noncomputable def biV (σ : Store) (b : BI) (vs : List V) : Option V :=
  match b with
  | .len => bi1 vs fun v => (seqOf σ v).bind fun l => if l.length ≤ 1000000 then some (.int (l.length : Int)) else Option.none
  | .max2 => bi2 vs fun a b => .int (if a < b then b else a)
  | .min2 => bi2 vs fun a b => .int (if b < a then b else a)
  | .sorted => bi1 vs fun v => ((listOf σ v).bind intsOf).bind fun l => if l.length < 64 then some (.lst ((sortI l).map .int)) else Option.none
  | .int => bi1 vs intOf

/-- the sum of the ints that lie at a place of tuples -/
noncomputable def tupOf (v : V) : Option (List V) := match v with
  | .tup vs => some vs
  | _ => Option.none
noncomputable def colOf (k : Nat) : List V → Option (List Int)
  | [] => some []
  | v :: r => (tupOf v).bind fun ws => (ws[k]?).bind fun w => w.asInt.bind fun i => (colOf k r).map (i :: ·)
noncomputable def sumAtV (σ : Store) (k : Nat) (v : V) : Option V := (listOf σ v).bind fun vs => (colOf k vs).bind fun is => if vs.length ≤ 1000000 ∧ k < 1000000 then some (.int is.sum) else Option.none

/-- four items turned round -/
noncomputable def rev4 (vs : List V) : Option V := match vs with
  | [a, b, c, d] => some (.lst [d, c, b, a])
  | _ => Option.none
/-- a str, as often as a bool says -/
noncomputable def strMulV (s : Str) (n : Int) : Option V := if n = 0 then some (.str "") else if n = 1 then some (.str s) else Option.none

noncomputable def fieldOf (x : Nat) : List (Nat × V) → Option V
  | [] => Option.none
  | (y, v) :: r => if x = y then some v else fieldOf x r
noncomputable def putField (x : Nat) (v : V) : List (Nat × V) → List (Nat × V)
  | [] => [(x, v)]
  | (y, w) :: r => if x = y then (y, v) :: r else (y, w) :: putField x v r

/-- what the defs mean: by number; classes: the number of __init__; which defs are a class's methods, which names its fields -/
structure Fns where
  fn : Nat → List V → Store → R V
  init : Nat → Option Nat
  methOk : Nat → Nat → Bool
  attrOk : Nat → Nat → Bool

noncomputable def ofOpt {α : Type} (o : Option α) (σ : Store) : R α := match o with
  | some a => .ok a σ
  | Option.none => .stuck

mutual
noncomputable def evalE (Φ : Fns) (ρ : Loc) : ME → Store → R V
  | .var i, σ => match ρ[i]? with
    | some (some v) => .ok v σ
    | _ => .stuck
  | .cint k, σ => .ok (.int k) σ
  | .cstr s, σ => .ok (.str s) σ
  | .cnone, σ => .ok .none σ
  | .cbool b, σ => .ok (.bool b) σ
  | .gint _ k, σ => .ok (.int k) σ
  | .gstr _ s, σ => .ok (.str s) σ
  | .bin op a b, σ => (evalE Φ ρ a σ).bind fun x σ => (evalE Φ ρ b σ).bind fun y σ => ofOpt (binV σ op x y) σ
  | .neg a, σ => (evalE Φ ρ a σ).bind fun x σ => match x with
    | .int i => .ok (.int (-i)) σ
    | _ => .stuck
  | .not a, σ => (evalE Φ ρ a σ).bind fun x σ => ofOpt ((truth x).map fun b => .bool (!b)) σ
  | .and es, σ => evalAnd Φ ρ es σ
  | .or es, σ => evalOr Φ ρ es σ
  | .cmp op a b, σ => (evalE Φ ρ a σ).bind fun x σ => (evalE Φ ρ b σ).bind fun y σ => ofOpt (cmpV σ op x y) σ
  | .cmp2 op₁ op₂ a b c, σ => (evalE Φ ρ a σ).bind fun x σ => (evalE Φ ρ b σ).bind fun y σ => (ofOpt (cmpV σ op₁ x y) σ).bind fun r σ => (ofOpt (truth r) σ).bind fun t σ =>
      if t then (evalE Φ ρ c σ).bind fun z σ => ofOpt (cmpV σ op₂ y z) σ else .ok r σ
  | .call f args, σ => (evalEs Φ ρ args σ).bind fun vs σ => Φ.fn f vs σ
  | .bi b args, σ => (evalEs Φ ρ args σ).bind fun vs σ => ofOpt (biV σ b vs) σ
  | .copy own e, σ => (evalE Φ ρ e σ).bind fun v σ => match listOf σ v with
    | some vs => if vs.length ≤ 1000000 then (if own then .ok (.loc σ.length) (σ ++ [.list vs]) else .ok (.lst vs) σ) else .stuck
    | Option.none => .stuck
  | .isi e t, σ => (evalE Φ ρ e σ).bind fun x σ => ofOpt ((isiV σ x t).map .bool) σ
  | .make c args, σ => (evalEs Φ ρ args σ).bind fun vs σ => match Φ.init c with
    | some f => (Φ.fn f (.loc σ.length :: vs) (σ ++ [.inst c []])).bind fun r σ' => match r with
      | .none => .ok (.loc σ.length) σ'
      | _ => .stuck
    | _ => .stuck
  | .meth o f args, σ => (evalE Φ ρ o σ).bind fun x σ₁ => match x with
    | .loc i => (evalEs Φ ρ args σ₁).got fun vs σ => match σ[i]?, σ₁[i]? with
      | some (.inst c _), some (.inst c' _) => if c' = c ∧ Φ.methOk c f = true then Φ.fn f (.loc i :: vs) σ else .stuck
      | _, _ => .stuck
    | _ => .stuck
  | .attr o x, σ => (evalE Φ ρ o σ).bind fun v σ => match v with
    | .loc i => match σ[i]? with
      | some (.inst c fs) => if Φ.attrOk c x = true then ofOpt (fieldOf x fs) σ else .stuck
      | _ => .stuck
    | _ => .stuck
  | .idx a i, σ => (evalE Φ ρ a σ).bind fun x σ => (evalE Φ ρ i σ).bind fun y σ => ofOpt (itemV σ x y) σ
  | .sliceTo own a k, σ => (evalE Φ ρ a σ).bind fun x σ => (evalE Φ ρ k σ).bind fun y σ => (ofOpt (cutV σ true x y) σ).bind fun v σ => newL own v σ
  | .sliceFrom own a k, σ => (evalE Φ ρ a σ).bind fun x σ => (evalE Φ ρ k σ).bind fun y σ => (ofOpt (cutV σ false x y) σ).bind fun v σ => newL own v σ
  | .tup es, σ => (evalEs Φ ρ es σ).bind fun vs σ => .ok (.tup vs) σ
  | .lst own es, σ => (evalEs Φ ρ es σ).bind fun vs σ => if own then .ok (.loc σ.length) (σ ++ [.list vs]) else .ok (.lst vs) σ
  | .sumAt k i, σ => match ρ[i]? with
    | some (some v) => ofOpt (sumAtV σ k v) σ
    | _ => .stuck
  | .rev e, σ => (evalE Φ ρ e σ).bind fun v σ => ofOpt ((listOf σ v).bind rev4) σ
  | .strMul s e, σ => (evalE Φ ρ e σ).bind fun v σ => ofOpt (v.asInt.bind (strMulV s)) σ
noncomputable def evalEs (Φ : Fns) (ρ : Loc) : List ME → Store → R (List V)
  | [], σ => .ok [] σ
  | e :: es, σ => (evalE Φ ρ e σ).bind fun v σ => (evalEs Φ ρ es σ).bind fun vs σ => .ok (v :: vs) σ
noncomputable def evalAnd (Φ : Fns) (ρ : Loc) : List ME → Store → R V
  | [], _ => .stuck
  | e :: es, σ => (evalE Φ ρ e σ).bind fun v σ => match es with
    | [] => .ok v σ
    | _ :: _ => (ofOpt (truth v) σ).bind fun t σ => if t then evalAnd Φ ρ es σ else .ok v σ
noncomputable def evalOr (Φ : Fns) (ρ : Loc) : List ME → Store → R V
  | [], _ => .stuck
  | e :: es, σ => (evalE Φ ρ e σ).bind fun v σ => match es with
    | [] => .ok v σ
    | _ :: _ => (ofOpt (truth v) σ).bind fun t σ => if t then .ok v σ else evalOr Φ ρ es σ
end

inductive Fl where
  | next (ρ : Loc)
  | brk (ρ : Loc)
  | cont (ρ : Loc)
  | ret (v : V)

inductive SR where
  | ok (f : Fl) (σ : Store)
  | exn (made : Bool) (c : Addr) (ρ : Loc) (σ : Store)
  | stuck

/-- the same, but no exception may come -/
noncomputable def R.son {α : Type} (r : R α) (f : α → Store → SR) : SR :=
  match r with
  | .ok a σ => f a σ
  | _ => .stuck
/-- an expression's outcome within a statement -/
noncomputable def R.on {α : Type} (r : R α) (ρ : Loc) (f : α → Store → SR) : SR :=
  match r with
  | .ok a σ => f a σ
  | .exn c σ => .exn false c ρ σ
  | .stuck => .stuck

open Classical in
noncomputable def forL (src : V) (all : List V) (body : Loc → Store → SR) (i : Nat) : List V → Loc → Store → SR
  | [], ρ, σ => .ok (.next ρ) σ
  | v :: r, ρ, σ => match body (ρ.set i (some v)) σ with
    | .ok (.next ρ') σ' => if listOf σ' src = some all then forL src all body i r ρ' σ' else .stuck
    | .ok (.cont ρ') σ' => if listOf σ' src = some all then forL src all body i r ρ' σ' else .stuck
    | .ok (.brk ρ') σ' => .ok (.next ρ') σ'
    | .ok (.ret v) σ' => .ok (.ret v) σ'
    | .exn b c ρ' σ' => .exn b c ρ' σ'
    | .stuck => .stuck

open Classical in
/-- the same with any way of binding -/
noncomputable def forG (src : V) (all : List V) (body : Loc → Store → SR) (bnd : V → Loc → Option Loc) : List V → Loc → Store → SR
  | [], ρ, σ => .ok (.next ρ) σ
  | v :: r, ρ, σ => match bnd v ρ with
    | Option.none => .stuck
    | some ρ₁ => match body ρ₁ σ with
      | .ok (.next ρ') σ' => if listOf σ' src = some all then forG src all body bnd r ρ' σ' else .stuck
      | .ok (.cont ρ') σ' => if listOf σ' src = some all then forG src all body bnd r ρ' σ' else .stuck
      | .ok (.brk ρ') σ' => .ok (.next ρ') σ'
      | .ok (.ret v) σ' => .ok (.ret v) σ'
      | .exn b c ρ' σ' => .exn b c ρ' σ'
      | .stuck => .stuck
noncomputable def forR (body : Loc → Store → SR) (i : Nat) : Nat → Int → Loc → Store → SR
  | 0, _, ρ, σ => .ok (.next ρ) σ
  | n + 1, k, ρ, σ => match body (ρ.set i (some (.int k))) σ with
    | .ok (.next ρ') σ' => forR body i n (k + 1) ρ' σ'
    | .ok (.cont ρ') σ' => forR body i n (k + 1) ρ' σ'
    | .ok (.brk ρ') σ' => .ok (.next ρ') σ'
    | .ok (.ret v) σ' => .ok (.ret v) σ'
    | .exn b c ρ' σ' => .exn b c ρ' σ'
    | .stuck => .stuck

noncomputable def whileL (test : Loc → Store → R V) (body : Loc → Store → SR) : Nat → Loc → Store → SR
  | 0, _, _ => .stuck
  | n + 1, ρ, σ => (test ρ σ).on ρ fun v σ => match truth v with
    | some true => match body ρ σ with
      | .ok (.next ρ') σ' => whileL test body n ρ' σ'
      | .ok (.cont ρ') σ' => whileL test body n ρ' σ'
      | .ok (.brk ρ') σ' => .ok (.next ρ') σ'
      | .ok (.ret v) σ' => .ok (.ret v) σ'
      | .exn b c ρ' σ' => .exn b c ρ' σ'
      | .stuck => .stuck
    | some false => .ok (.next ρ) σ
    | Option.none => .stuck

/-- names bound to the items of a tuple -/
noncomputable def setAll : List Nat → List V → Loc → Option Loc
  | [], [], ρ => some ρ
  | i :: is, v :: vs, ρ => setAll is vs (ρ.set i (some v))
  | _, _, _ => Option.none

noncomputable def bindT (is : List Nat) (v : V) (ρ : Loc) : Option Loc := match v with
  | .tup vs => setAll is vs ρ
  | _ => Option.none
noncomputable def rangeOf (vs : List V) : Option (Int × Nat) := match vs with
  | [a] => a.asInt.bind fun b => if -1000000 < b ∧ b < 1000000 then some (0, b.toNat) else Option.none
  | [x, y] => x.asInt.bind fun a => y.asInt.bind fun b => if (-1000000 < a ∧ a < 1000000) ∧ (-1000000 < b ∧ b < 1000000) then some (a, (b - a).toNat) else Option.none
  | _ => Option.none

/-- the name of a caught exception -/
noncomputable def putX (as : Option Nat) (k : Nat) (ρ : Loc) : Loc := match as with
  | some i => ρ.set i (some (.exc k))
  | Option.none => ρ
noncomputable def clr (as : Option Nat) (ρ : Loc) : Loc := match as with
  | some i => ρ.set i Option.none
  | Option.none => ρ
noncomputable def endF (as : Option Nat) : Fl → Fl
  | .next ρ => .next (clr as ρ)
  | .brk ρ => .brk (clr as ρ)
  | .cont ρ => .cont (clr as ρ)
  | .ret v => .ret v
noncomputable def endH (as : Option Nat) : SR → SR
  | .ok f σ => .ok (endF as f) σ
  | _ => .stuck

/-- an owned list -/
noncomputable def ownL (σ : Store) (w : V) : Option (Nat × List V) := match w with
  | .loc i => match σ[i]? with
    | some (.list vs) => some (i, vs)
    | _ => Option.none
  | _ => Option.none
/-- an item of an owned list is put -/
noncomputable def putAt (σ : Store) (w j v : V) : Option Store := (ownL σ w).bind fun q => j.asInt.bind fun n => if 0 ≤ n ∧ n.toNat < q.2.length ∧ q.2.length ≤ 1000000 then some (σ.set q.1 (.list (q.2.set n.toNat v))) else Option.none
noncomputable def sofO (ρ : Loc) (o : Option Store) : SR := match o with
  | some σ => .ok (.next ρ) σ
  | Option.none => .stuck
noncomputable def lstOf (v : V) : Option (List V) := match v with
  | .lst vs => some vs
  | _ => Option.none
noncomputable def nextO (o : Option Loc) (σ : Store) : SR := match o with
  | some ρ => .ok (.next ρ) σ
  | Option.none => .stuck
noncomputable def pairOf (v : V) : Option (V × V) := match v with
  | .tup vs => match vs with
    | [a, b] => some (a, b)
    | _ => Option.none
  | _ => Option.none

mutual
noncomputable def execS (Φ : Fns) : MS → Loc → Store → SR
  | .expr e, ρ, σ => (evalE Φ ρ e σ).on ρ fun _ σ => .ok (.next ρ) σ
  | .append o e, ρ, σ => (evalE Φ ρ o σ).on ρ fun x σ₁ => match x with
    | .loc i => (evalE Φ ρ e σ₁).son fun v σ => match σ[i]?, σ₁[i]? with
      | some (.list vs), some (.list _) => if vs.length < 1000000 then .ok (.next ρ) (σ.set i (.list (vs ++ [v]))) else .stuck
      | _, _ => .stuck
    | _ => .stuck
  | .assign i e, ρ, σ => (evalE Φ ρ e σ).on ρ fun v σ => .ok (.next (ρ.set i (some v))) σ
  | .unpack is e, ρ, σ => (evalE Φ ρ e σ).on ρ fun v σ => match v with
    | .tup vs => match setAll is vs ρ with
      | some ρ' => .ok (.next ρ') σ
      | Option.none => .stuck
    | _ => .stuck
  | .setattr o x e, ρ, σ => (evalE Φ ρ e σ).on ρ fun v σ => (evalE Φ ρ o σ).on ρ fun w σ => match w with
    | .loc i => match σ[i]? with
      | some (.inst c fs) => if Φ.attrOk c x = true ∧ fs.length < 900 then .ok (.next ρ) (σ.set i (.inst c (putField x v fs))) else .stuck
      | _ => .stuck
    | _ => .stuck
  | .setitem o k e, ρ, σ => (evalE Φ ρ e σ).on ρ fun v σ => (evalE Φ ρ o σ).on ρ fun w σ => (evalE Φ ρ k σ).on ρ fun j σ => sofO ρ (putAt σ w j v)
  | .unpackSub i o k e, ρ, σ => (evalE Φ ρ e σ).on ρ fun v σ => match pairOf v with
    | some q => (evalE Φ (ρ.set i (some q.1)) o σ).on (ρ.set i (some q.1)) fun w σ => (evalE Φ (ρ.set i (some q.1)) k σ).on (ρ.set i (some q.1)) fun j σ => sofO (ρ.set i (some q.1)) (putAt σ w j q.2)
    | Option.none => .stuck
  | .unpackL is e, ρ, σ => (evalE Φ ρ e σ).on ρ fun v σ => nextO ((lstOf v).bind fun vs => setAll is vs ρ) σ
  | .ite c a b, ρ, σ => (evalE Φ ρ c σ).on ρ fun v σ => match truth v with
    | some true => execB Φ a ρ σ
    | some false => execB Φ b ρ σ
    | Option.none => .stuck
  | .forIn i it body, ρ, σ => (evalE Φ ρ it σ).on ρ fun v σ => match listOf σ v with
    | some vs => forL v vs (execB Φ body) i vs ρ σ
    | Option.none => .stuck
  | .forRange i args body, ρ, σ => (evalEs Φ ρ args σ).on ρ fun vs σ => match rangeOf vs with
    | some (a, n) => forR (execB Φ body) i n a ρ σ
    | Option.none => .stuck
  | .forTup is it body, ρ, σ => (evalE Φ ρ it σ).on ρ fun v σ => match listOf σ v with
    | some vs => forG v vs (execB Φ body) (bindT is) vs ρ σ
    | Option.none => .stuck
  | .while fuel c body, ρ, σ => whileL (fun ρ σ => evalE Φ ρ c σ) (execB Φ body) fuel ρ σ
  | .ret e, ρ, σ => (evalE Φ ρ e σ).on ρ fun v σ => .ok (.ret v) σ
  | .retNone, _, σ => .ok (.ret .none) σ
  | .brk, ρ, σ => .ok (.brk ρ) σ
  | .cont, ρ, σ => .ok (.cont ρ) σ
  | .pass, ρ, σ => .ok (.next ρ) σ
  | .raise _ k _, ρ, σ => .exn true k ρ σ
  | .try body hs, ρ, σ => match execB Φ body ρ σ with
    | .ok f σ' => .ok f σ'
    | .exn false k ρ' σ' => execH Φ hs k ρ' σ'
    | _ => .stuck
  | .hand _ _ _, _, _ => .stuck
noncomputable def execH (Φ : Fns) : List MS → Nat → Loc → Store → SR
  | .hand j as suite :: hs, k, ρ, σ => if subX k j = true then endH as (execB Φ suite (putX as k ρ) σ) else execH Φ hs k ρ σ
  | _, _, _, _ => .stuck
noncomputable def execB (Φ : Fns) : List MS → Loc → Store → SR
  | [], ρ, σ => .ok (.next ρ) σ
  | s :: r, ρ, σ => match execS Φ s ρ σ with
    | .ok (.next ρ') σ' => execB Φ r ρ' σ'
    | x => x
end

/-- a def -/
structure Fn where
  addr : Addr
  name : Str
  slots : List Str
  nargs : Nat
  body : List MS
  quiet : Bool := false

noncomputable def callFn (Φ : Fns) (f : Fn) (vs : List V) (σ : Store) : R V :=
  if vs.length = f.nargs then
    match execB Φ f.body (vs.map some ++ List.replicate (f.slots.length - f.nargs) Option.none) σ with
    | .ok (.ret v) σ' => .ok v σ'
    | .ok (.next _) σ' => .ok .none σ'
    | .exn _ c _ σ' => .exn c σ'
    | _ => .stuck
  else .stuck

structure Prog where
  fns : List (Nat × Fn)
  classes : List (Addr × Nat)
  meths : List (Nat × Nat)
  attrs : List (Nat × Nat)

noncomputable def mkFns (p : Prog) (f : Nat → List V → Store → R V) : Fns :=
  { fn := f, init := fun c => (p.classes[c]?).map (·.2), methOk := fun c f => p.meths.contains (c, f), attrOk := fun c k => p.attrs.contains (c, k) }

/-- the defs below n -/
noncomputable def upTo (p : Prog) : Nat → Nat → List V → Store → R V
  | 0, _, _, _ => .stuck
  | n + 1, f, vs, σ => if f < n then upTo p n f vs σ else if f = n then
      (match p.fns.lookup n with
       | some d => callFn (mkFns p (upTo p n)) d vs σ
       | Option.none => .stuck) else .stuck

/-- a def by its number -/
noncomputable def fn (p : Prog) (f : Nat) (vs : List V) (σ : Store) : R V := upTo p (f + 1) f vs σ
/-- the defs that def n may call -/
noncomputable def pre (p : Prog) (n : Nat) : Fns := mkFns p (upTo p n)

theorem upTo_fn (p : Prog) : ∀ (n f : Nat) (vs : List V) (σ : Store), f < n → upTo p n f vs σ = fn p f vs σ
  | 0, _, _, _, h => absurd h (Nat.not_lt_zero _)
  | n + 1, f, vs, σ, h => by
    by_cases e : f < n
    · rw [upTo, if_pos e]; exact upTo_fn p n f vs σ e
    · have : f = n := by omega
      subst this; rfl
theorem fn_def {p : Prog} {f : Nat} {d : Fn} (h : p.fns.lookup f = some d) (vs : List V) (σ : Store) : fn p f vs σ = callFn (pre p f) d vs σ := by
  unfold fn
  rw [upTo, if_neg (Nat.lt_irrefl _), if_pos rfl, h]
  rfl
theorem pre_fn {p : Prog} {n f : Nat} (h : f < n) (vs : List V) (σ : Store) : (pre p n).fn f vs σ = fn p f vs σ := upTo_fn p n f vs σ h
end Mine
set_option maxRecDepth 100000
namespace Mine
open PySem
theorem ee_var {Φ : Fns} {ρ : Loc} {σ : Store} {i : Nat} : evalE Φ ρ (.var i) σ = (match ρ[i]? with
    | some (some v) => .ok v σ
    | _ => .stuck) := rfl
theorem ee_cint {Φ : Fns} {ρ : Loc} {σ : Store} {k : Int} : evalE Φ ρ (.cint k) σ = (.ok (.int k) σ) := rfl
theorem ee_cstr {Φ : Fns} {ρ : Loc} {σ : Store} {s : Str} : evalE Φ ρ (.cstr s) σ = (.ok (.str s) σ) := rfl
theorem ee_cnone {Φ : Fns} {ρ : Loc} {σ : Store} : evalE Φ ρ (.cnone) σ = (.ok .none σ) := rfl
theorem ee_cbool {Φ : Fns} {ρ : Loc} {σ : Store} {b : Bool} : evalE Φ ρ (.cbool b) σ = (.ok (.bool b) σ) := rfl
theorem ee_gint {Φ : Fns} {ρ : Loc} {σ : Store} {z1 : Str} {k : Int} : evalE Φ ρ (.gint z1 k) σ = (.ok (.int k) σ) := rfl
theorem ee_gstr {Φ : Fns} {ρ : Loc} {σ : Store} {z1 : Str} {s : Str} : evalE Φ ρ (.gstr z1 s) σ = (.ok (.str s) σ) := rfl
theorem ee_bin {Φ : Fns} {ρ : Loc} {σ : Store} {op : Operator} {a : ME} {b : ME} : evalE Φ ρ (.bin op a b) σ = ((evalE Φ ρ a σ).bind fun x σ => (evalE Φ ρ b σ).bind fun y σ => ofOpt (binV σ op x y) σ) := rfl
theorem ee_neg {Φ : Fns} {ρ : Loc} {σ : Store} {a : ME} : evalE Φ ρ (.neg a) σ = ((evalE Φ ρ a σ).bind fun x σ => match x with
    | .int i => .ok (.int (-i)) σ
    | _ => .stuck) := rfl
theorem ee_not {Φ : Fns} {ρ : Loc} {σ : Store} {a : ME} : evalE Φ ρ (.not a) σ = ((evalE Φ ρ a σ).bind fun x σ => ofOpt ((truth x).map fun b => .bool (!b)) σ) := rfl
theorem ee_and {Φ : Fns} {ρ : Loc} {σ : Store} {es : List ME} : evalE Φ ρ (.and es) σ = (evalAnd Φ ρ es σ) := rfl
theorem ee_or {Φ : Fns} {ρ : Loc} {σ : Store} {es : List ME} : evalE Φ ρ (.or es) σ = (evalOr Φ ρ es σ) := rfl
theorem ee_cmp {Φ : Fns} {ρ : Loc} {σ : Store} {op : CmpOp} {a : ME} {b : ME} : evalE Φ ρ (.cmp op a b) σ = ((evalE Φ ρ a σ).bind fun x σ => (evalE Φ ρ b σ).bind fun y σ => ofOpt (cmpV σ op x y) σ) := rfl
theorem ee_cmp2 {Φ : Fns} {ρ : Loc} {σ : Store} {op₁ : CmpOp} {op₂ : CmpOp} {a : ME} {b : ME} {c : ME} : evalE Φ ρ (.cmp2 op₁ op₂ a b c) σ = ((evalE Φ ρ a σ).bind fun x σ => (evalE Φ ρ b σ).bind fun y σ => (ofOpt (cmpV σ op₁ x y) σ).bind fun r σ => (ofOpt (truth r) σ).bind fun t σ =>
      if t then (evalE Φ ρ c σ).bind fun z σ => ofOpt (cmpV σ op₂ y z) σ else .ok r σ) := rfl
theorem ee_call {Φ : Fns} {ρ : Loc} {σ : Store} {f : Nat} {args : List ME} : evalE Φ ρ (.call f args) σ = ((evalEs Φ ρ args σ).bind fun vs σ => Φ.fn f vs σ) := rfl
theorem ee_bi {Φ : Fns} {ρ : Loc} {σ : Store} {b : BI} {args : List ME} : evalE Φ ρ (.bi b args) σ = ((evalEs Φ ρ args σ).bind fun vs σ => ofOpt (biV σ b vs) σ) := rfl
theorem ee_copy {Φ : Fns} {ρ : Loc} {σ : Store} {own : Bool} {e : ME} : evalE Φ ρ (.copy own e) σ = ((evalE Φ ρ e σ).bind fun v σ => match listOf σ v with
    | some vs => if vs.length ≤ 1000000 then (if own then .ok (.loc σ.length) (σ ++ [.list vs]) else .ok (.lst vs) σ) else .stuck
    | Option.none => .stuck) := rfl
theorem ee_isi {Φ : Fns} {ρ : Loc} {σ : Store} {e : ME} {t : TY} : evalE Φ ρ (.isi e t) σ = ((evalE Φ ρ e σ).bind fun x σ => ofOpt ((isiV σ x t).map .bool) σ) := rfl
theorem ee_make {Φ : Fns} {ρ : Loc} {σ : Store} {c : Nat} {args : List ME} : evalE Φ ρ (.make c args) σ = ((evalEs Φ ρ args σ).bind fun vs σ => match Φ.init c with
    | some f => (Φ.fn f (.loc σ.length :: vs) (σ ++ [.inst c []])).bind fun r σ' => match r with
      | .none => .ok (.loc σ.length) σ'
      | _ => .stuck
    | _ => .stuck) := rfl
theorem ee_meth {Φ : Fns} {ρ : Loc} {σ : Store} {o : ME} {f : Nat} {args : List ME} : evalE Φ ρ (.meth o f args) σ = ((evalE Φ ρ o σ).bind fun x σ₁ => match x with
    | .loc i => (evalEs Φ ρ args σ₁).got fun vs σ => match σ[i]?, σ₁[i]? with
      | some (.inst c _), some (.inst c' _) => if c' = c ∧ Φ.methOk c f = true then Φ.fn f (.loc i :: vs) σ else .stuck
      | _, _ => .stuck
    | _ => .stuck) := rfl
theorem ee_attr {Φ : Fns} {ρ : Loc} {σ : Store} {o : ME} {x : Nat} : evalE Φ ρ (.attr o x) σ = ((evalE Φ ρ o σ).bind fun v σ => match v with
    | .loc i => match σ[i]? with
      | some (.inst c fs) => if Φ.attrOk c x = true then ofOpt (fieldOf x fs) σ else .stuck
      | _ => .stuck
    | _ => .stuck) := rfl
theorem ee_idx {Φ : Fns} {ρ : Loc} {σ : Store} {a : ME} {i : ME} : evalE Φ ρ (.idx a i) σ = ((evalE Φ ρ a σ).bind fun x σ => (evalE Φ ρ i σ).bind fun y σ => ofOpt (itemV σ x y) σ) := rfl
theorem ee_sliceTo {Φ : Fns} {ρ : Loc} {σ : Store} {own : Bool} {a : ME} {k : ME} : evalE Φ ρ (.sliceTo own a k) σ = ((evalE Φ ρ a σ).bind fun x σ => (evalE Φ ρ k σ).bind fun y σ => (ofOpt (cutV σ true x y) σ).bind fun v σ => newL own v σ) := rfl
theorem ee_sliceFrom {Φ : Fns} {ρ : Loc} {σ : Store} {own : Bool} {a : ME} {k : ME} : evalE Φ ρ (.sliceFrom own a k) σ = ((evalE Φ ρ a σ).bind fun x σ => (evalE Φ ρ k σ).bind fun y σ => (ofOpt (cutV σ false x y) σ).bind fun v σ => newL own v σ) := rfl
theorem ee_tup {Φ : Fns} {ρ : Loc} {σ : Store} {es : List ME} : evalE Φ ρ (.tup es) σ = ((evalEs Φ ρ es σ).bind fun vs σ => .ok (.tup vs) σ) := rfl
theorem ee_lst {Φ : Fns} {ρ : Loc} {σ : Store} {own : Bool} {es : List ME} : evalE Φ ρ (.lst own es) σ = ((evalEs Φ ρ es σ).bind fun vs σ => if own then .ok (.loc σ.length) (σ ++ [.list vs]) else .ok (.lst vs) σ) := rfl
theorem ee_sumAt {Φ : Fns} {ρ : Loc} {σ : Store} {k : Nat} {i : Nat} : evalE Φ ρ (.sumAt k i) σ = (match ρ[i]? with
    | some (some v) => ofOpt (sumAtV σ k v) σ
    | _ => .stuck) := rfl
theorem ee_rev {Φ : Fns} {ρ : Loc} {σ : Store} {e : ME} : evalE Φ ρ (.rev e) σ = ((evalE Φ ρ e σ).bind fun v σ => ofOpt ((listOf σ v).bind rev4) σ) := rfl
theorem ee_strMul {Φ : Fns} {ρ : Loc} {σ : Store} {s : Str} {e : ME} : evalE Φ ρ (.strMul s e) σ = ((evalE Φ ρ e σ).bind fun v σ => ofOpt (v.asInt.bind (strMulV s)) σ) := rfl
theorem es_0 {Φ : Fns} {ρ : Loc} {σ : Store} : evalEs Φ ρ ([]) σ = (.ok [] σ) := rfl
theorem es_1 {Φ : Fns} {ρ : Loc} {σ : Store} {e : ME} {es : List ME} : evalEs Φ ρ (e :: es) σ = ((evalE Φ ρ e σ).bind fun v σ => (evalEs Φ ρ es σ).bind fun vs σ => .ok (v :: vs) σ) := rfl
theorem ea_0 {Φ : Fns} {ρ : Loc} {z1 : Store} : evalAnd Φ ρ ([]) z1 = (.stuck) := rfl
theorem ea_1 {Φ : Fns} {ρ : Loc} {σ : Store} {e : ME} {es : List ME} : evalAnd Φ ρ (e :: es) σ = ((evalE Φ ρ e σ).bind fun v σ => match es with
    | [] => .ok v σ
    | _ :: _ => (ofOpt (truth v) σ).bind fun t σ => if t then evalAnd Φ ρ es σ else .ok v σ) := rfl
theorem eo_0 {Φ : Fns} {ρ : Loc} {z1 : Store} : evalOr Φ ρ ([]) z1 = (.stuck) := rfl
theorem eo_1 {Φ : Fns} {ρ : Loc} {σ : Store} {e : ME} {es : List ME} : evalOr Φ ρ (e :: es) σ = ((evalE Φ ρ e σ).bind fun v σ => match es with
    | [] => .ok v σ
    | _ :: _ => (ofOpt (truth v) σ).bind fun t σ => if t then .ok v σ else evalOr Φ ρ es σ) := rfl
open Classical in
theorem fl_0 {src : V} {all : List V} {body : Loc → Store → SR} {i : Nat} {ρ : Loc} {σ : Store} : forL src all body i ([]) ρ σ = (.ok (.next ρ) σ) := rfl
open Classical in
theorem fl_1 {src : V} {all : List V} {body : Loc → Store → SR} {i : Nat} {v : V} {r : List V} {ρ : Loc} {σ : Store} : forL src all body i (v :: r) ρ σ = (match body (ρ.set i (some v)) σ with
    | .ok (.next ρ') σ' => if listOf σ' src = some all then forL src all body i r ρ' σ' else .stuck
    | .ok (.cont ρ') σ' => if listOf σ' src = some all then forL src all body i r ρ' σ' else .stuck
    | .ok (.brk ρ') σ' => .ok (.next ρ') σ'
    | .ok (.ret v) σ' => .ok (.ret v) σ'
    | .exn b c ρ' σ' => .exn b c ρ' σ'
    | .stuck => .stuck) := rfl
open Classical in
theorem fg_0 {src : V} {all : List V} {body : Loc → Store → SR} {bnd : V → Loc → Option Loc} {ρ : Loc} {σ : Store} : forG src all body bnd ([]) ρ σ = (.ok (.next ρ) σ) := rfl
open Classical in
theorem fg_1 {src : V} {all : List V} {body : Loc → Store → SR} {bnd : V → Loc → Option Loc} {v : V} {r : List V} {ρ : Loc} {σ : Store} : forG src all body bnd (v :: r) ρ σ = (match bnd v ρ with
    | Option.none => .stuck
    | some ρ₁ => match body ρ₁ σ with
      | .ok (.next ρ') σ' => if listOf σ' src = some all then forG src all body bnd r ρ' σ' else .stuck
      | .ok (.cont ρ') σ' => if listOf σ' src = some all then forG src all body bnd r ρ' σ' else .stuck
      | .ok (.brk ρ') σ' => .ok (.next ρ') σ'
      | .ok (.ret v) σ' => .ok (.ret v) σ'
      | .exn b c ρ' σ' => .exn b c ρ' σ'
      | .stuck => .stuck) := rfl
theorem fr_0 {body : Loc → Store → SR} {i : Nat} {ρ : Loc} {σ : Store} {z1 : Int} : forR body i (0) z1 ρ σ = (.ok (.next ρ) σ) := rfl
theorem fr_1 {body : Loc → Store → SR} {i n : Nat} {k : Int} {ρ : Loc} {σ : Store} : forR body i (n + 1) k ρ σ = (match body (ρ.set i (some (.int k))) σ with
    | .ok (.next ρ') σ' => forR body i n (k + 1) ρ' σ'
    | .ok (.cont ρ') σ' => forR body i n (k + 1) ρ' σ'
    | .ok (.brk ρ') σ' => .ok (.next ρ') σ'
    | .ok (.ret v) σ' => .ok (.ret v) σ'
    | .exn b c ρ' σ' => .exn b c ρ' σ'
    | .stuck => .stuck) := rfl
theorem wl_0 {test : Loc → Store → R V} {body : Loc → Store → SR} {z1 : Loc} {z2 : Store} : whileL test body (0) z1 z2 = (.stuck) := rfl
theorem wl_1 {test : Loc → Store → R V} {body : Loc → Store → SR} {n : Nat} {ρ : Loc} {σ : Store} : whileL test body (n + 1) ρ σ = ((test ρ σ).on ρ fun v σ => match truth v with
    | some true => match body ρ σ with
      | .ok (.next ρ') σ' => whileL test body n ρ' σ'
      | .ok (.cont ρ') σ' => whileL test body n ρ' σ'
      | .ok (.brk ρ') σ' => .ok (.next ρ') σ'
      | .ok (.ret v) σ' => .ok (.ret v) σ'
      | .exn b c ρ' σ' => .exn b c ρ' σ'
      | .stuck => .stuck
    | some false => .ok (.next ρ) σ
    | Option.none => .stuck) := rfl
theorem sa_0 {ρ : Loc} : setAll ([]) ([]) ρ = (some ρ) := rfl
theorem sa_1 {i : Nat} {is : List Nat} {v : V} {vs : List V} {ρ : Loc} : setAll (i :: is) (v :: vs) ρ = (setAll is vs (ρ.set i (some v))) := rfl
theorem xs_expr {Φ : Fns} {ρ : Loc} {σ : Store} {e : ME} : execS Φ (.expr e) ρ σ = ((evalE Φ ρ e σ).on ρ fun _ σ => .ok (.next ρ) σ) := rfl
theorem xs_append {Φ : Fns} {ρ : Loc} {σ : Store} {o : ME} {e : ME} : execS Φ (.append o e) ρ σ = ((evalE Φ ρ o σ).on ρ fun x σ₁ => match x with
    | .loc i => (evalE Φ ρ e σ₁).son fun v σ => match σ[i]?, σ₁[i]? with
      | some (.list vs), some (.list _) => if vs.length < 1000000 then .ok (.next ρ) (σ.set i (.list (vs ++ [v]))) else .stuck
      | _, _ => .stuck
    | _ => .stuck) := rfl
theorem xs_assign {Φ : Fns} {ρ : Loc} {σ : Store} {i : Nat} {e : ME} : execS Φ (.assign i e) ρ σ = ((evalE Φ ρ e σ).on ρ fun v σ => .ok (.next (ρ.set i (some v))) σ) := rfl
theorem xs_unpack {Φ : Fns} {ρ : Loc} {σ : Store} {is : List Nat} {e : ME} : execS Φ (.unpack is e) ρ σ = ((evalE Φ ρ e σ).on ρ fun v σ => match v with
    | .tup vs => match setAll is vs ρ with
      | some ρ' => .ok (.next ρ') σ
      | Option.none => .stuck
    | _ => .stuck) := rfl
theorem xs_setattr {Φ : Fns} {ρ : Loc} {σ : Store} {o : ME} {x : Nat} {e : ME} : execS Φ (.setattr o x e) ρ σ = ((evalE Φ ρ e σ).on ρ fun v σ => (evalE Φ ρ o σ).on ρ fun w σ => match w with
    | .loc i => match σ[i]? with
      | some (.inst c fs) => if Φ.attrOk c x = true ∧ fs.length < 900 then .ok (.next ρ) (σ.set i (.inst c (putField x v fs))) else .stuck
      | _ => .stuck
    | _ => .stuck) := rfl
theorem xs_setitem {Φ : Fns} {ρ : Loc} {σ : Store} {o : ME} {k : ME} {e : ME} : execS Φ (.setitem o k e) ρ σ = ((evalE Φ ρ e σ).on ρ fun v σ => (evalE Φ ρ o σ).on ρ fun w σ => (evalE Φ ρ k σ).on ρ fun j σ => sofO ρ (putAt σ w j v)) := rfl
theorem xs_unpackSub {Φ : Fns} {ρ : Loc} {σ : Store} {i : Nat} {o : ME} {k : ME} {e : ME} : execS Φ (.unpackSub i o k e) ρ σ = ((evalE Φ ρ e σ).on ρ fun v σ => match pairOf v with
    | some q => (evalE Φ (ρ.set i (some q.1)) o σ).on (ρ.set i (some q.1)) fun w σ => (evalE Φ (ρ.set i (some q.1)) k σ).on (ρ.set i (some q.1)) fun j σ => sofO (ρ.set i (some q.1)) (putAt σ w j q.2)
    | Option.none => .stuck) := rfl
theorem xs_unpackL {Φ : Fns} {ρ : Loc} {σ : Store} {is : List Nat} {e : ME} : execS Φ (.unpackL is e) ρ σ = ((evalE Φ ρ e σ).on ρ fun v σ => nextO ((lstOf v).bind fun vs => setAll is vs ρ) σ) := rfl
theorem xs_ite {Φ : Fns} {ρ : Loc} {σ : Store} {c : ME} {a : List MS} {b : List MS} : execS Φ (.ite c a b) ρ σ = ((evalE Φ ρ c σ).on ρ fun v σ => match truth v with
    | some true => execB Φ a ρ σ
    | some false => execB Φ b ρ σ
    | Option.none => .stuck) := rfl
theorem xs_forIn {Φ : Fns} {ρ : Loc} {σ : Store} {i : Nat} {it : ME} {body : List MS} : execS Φ (.forIn i it body) ρ σ = ((evalE Φ ρ it σ).on ρ fun v σ => match listOf σ v with
    | some vs => forL v vs (execB Φ body) i vs ρ σ
    | Option.none => .stuck) := rfl
theorem xs_forRange {Φ : Fns} {ρ : Loc} {σ : Store} {i : Nat} {args : List ME} {body : List MS} : execS Φ (.forRange i args body) ρ σ = ((evalEs Φ ρ args σ).on ρ fun vs σ => match rangeOf vs with
    | some (a, n) => forR (execB Φ body) i n a ρ σ
    | Option.none => .stuck) := rfl
theorem xs_forTup {Φ : Fns} {ρ : Loc} {σ : Store} {is : List Nat} {it : ME} {body : List MS} : execS Φ (.forTup is it body) ρ σ = ((evalE Φ ρ it σ).on ρ fun v σ => match listOf σ v with
    | some vs => forG v vs (execB Φ body) (bindT is) vs ρ σ
    | Option.none => .stuck) := rfl
theorem xs_while {Φ : Fns} {ρ : Loc} {σ : Store} {fuel : Nat} {c : ME} {body : List MS} : execS Φ (.while fuel c body) ρ σ = (whileL (fun ρ σ => evalE Φ ρ c σ) (execB Φ body) fuel ρ σ) := rfl
theorem xs_ret {Φ : Fns} {ρ : Loc} {σ : Store} {e : ME} : execS Φ (.ret e) ρ σ = ((evalE Φ ρ e σ).on ρ fun v σ => .ok (.ret v) σ) := rfl
theorem xs_retNone {Φ : Fns} {σ : Store} {z1 : Loc} : execS Φ (.retNone) z1 σ = (.ok (.ret .none) σ) := rfl
theorem xs_brk {Φ : Fns} {ρ : Loc} {σ : Store} : execS Φ (.brk) ρ σ = (.ok (.brk ρ) σ) := rfl
theorem xs_cont {Φ : Fns} {ρ : Loc} {σ : Store} : execS Φ (.cont) ρ σ = (.ok (.cont ρ) σ) := rfl
theorem xs_pass {Φ : Fns} {ρ : Loc} {σ : Store} : execS Φ (.pass) ρ σ = (.ok (.next ρ) σ) := rfl
theorem xs_raise {Φ : Fns} {ρ : Loc} {σ : Store} {z1 : Str} {k : Nat} {z2 : Str} : execS Φ (.raise z1 k z2) ρ σ = (.exn true k ρ σ) := rfl
theorem xs_try {Φ : Fns} {ρ : Loc} {σ : Store} {body : List MS} {hs : List MS} : execS Φ (.try body hs) ρ σ = (match execB Φ body ρ σ with
    | .ok f σ' => .ok f σ'
    | .exn false k ρ' σ' => execH Φ hs k ρ' σ'
    | _ => .stuck) := rfl
theorem xs_hand {Φ : Fns} {z1 : Nat} {z2 : Option Nat} {z3 : List MS} {z4 : Loc} {z5 : Store} : execS Φ (.hand z1 z2 z3) z4 z5 = (.stuck) := rfl
theorem xh_0 {Φ : Fns} {j k : Nat} {as : Option Nat} {suite hs : List MS} {ρ : Loc} {σ : Store} : execH Φ (.hand j as suite :: hs) k ρ σ = (if subX k j = true then endH as (execB Φ suite (putX as k ρ) σ) else execH Φ hs k ρ σ) := rfl
theorem xb_0 {Φ : Fns} {ρ : Loc} {σ : Store} : execB Φ ([]) ρ σ = (.ok (.next ρ) σ) := rfl
theorem xb_1 {Φ : Fns} {s : MS} {r : List MS} {ρ : Loc} {σ : Store} : execB Φ (s :: r) ρ σ = (match execS Φ s ρ σ with
    | .ok (.next ρ') σ' => execB Φ r ρ' σ'
    | x => x) := rfl
theorem sa_8 {v : V} {vs : List V} {ρ : Loc} : setAll [] (v :: vs) ρ = Option.none := rfl
theorem sa_9 {i : Nat} {is : List Nat} {ρ : Loc} : setAll (i :: is) [] ρ = Option.none := rfl
theorem xh_9 {Φ : Fns} {k : Nat} {ρ : Loc} {σ : Store} : execH Φ [] k ρ σ = .stuck := rfl
theorem forL_eq (src : V) (all : List V) (body : Loc → Store → SR) (i : Nat) : ∀ (l : List V) (ρ : Loc) (σ : Store), forL src all body i l ρ σ = forG src all body (fun v ρ => some (ρ.set i (some v))) l ρ σ
  | [], _, _ => rfl
  | v :: r, ρ, σ => by
    rw [fl_1, fg_1]
    dsimp only
    cases body (ρ.set i (some v)) σ with
    | ok f σ' => cases f <;> simp only [forL_eq src all body i r]
    | exn _ _ _ _ => rfl
    | stuck => rfl
end Mine
set_option maxRecDepth 100000
namespace Mine
open PySem

/-- what a name of the top's stands for -/
structure Tops where
  fns : List (Str × Nat)
  classes : List (Str × Nat)
  tint : List (Str × Int)
  tstr : List (Str × Str)
  attrs : List Str
  xs : List (Str × Addr)

noncomputable def BI.name (b : BI) : Str := match b with
  | .len => "len" | .max2 => "max" | .min2 => "min" | .sorted => "sorted" | .int => "int"
noncomputable def TY.name (t : TY) : Str := match t with
  | .int => "int" | .bool => "bool" | .tuple => "tuple" | .list => "list" | .str => "str"
  | .exc x _ => x
  | .verr => "ValueError"

theorem any_inv {α : Type} {o : Option α} {f : α → Bool} (h : o.any f = true) : ∃ a, o = some a ∧ f a = true := by
  cases o with
  | none => cases h
  | some a => exact ⟨a, rfl, h⟩
theorem and_inv {a b : Bool} (h : (a && b) = true) : a = true ∧ b = true := by
  cases a
  · cases h
  · exact ⟨rfl, h⟩
noncomputable def one {α : Type} (l : List α) : Option α := match l with
  | [a] => some a
  | _ => none
noncomputable def two {α : Type} (l : List α) : Option (α × α) := match l with
  | [a, b] => some (a, b)
  | _ => none
theorem one_inv {α : Type} {l : List α} {a : α} (h : one l = some a) : l = [a] := by
  cases l with
  | nil => cases h
  | cons b r => cases r with
    | nil => cases h; rfl
    | cons c r => cases h
theorem two_inv {α : Type} {l : List α} {a : α × α} (h : two l = some a) : l = [a.1, a.2] := by
  cases l with
  | nil => cases h
  | cons b r => cases r with
    | nil => cases h
    | cons c r => cases r with
      | nil => cases h; rfl
      | cons d r => cases h
theorem nil_inv {α : Type} {l : List α} (h : l.isEmpty = true) : l = [] := by
  cases l with
  | nil => rfl
  | cons a r => cases h
theorem non_inv {α : Type} {l : Option α} (h : l.isNone = true) : l = none := by
  cases l with
  | none => rfl
  | some a => cases h
noncomputable def vName (z : Expr) : Option (Str × Pos) := if h : z.ctorIdx = 23 then @Expr.Name.elim (fun _ => Option (Str × Pos)) z h (fun a b => some (a, b)) else none
theorem vName_inv {z : Expr} {q : Str × Pos} (h : vName z = some q) : z = .Name q.1 q.2 := by
  refine dite (z.ctorIdx = 23) (fun c => ?_) (fun c => ?_)
  · exact @Expr.Name.elim (fun z => vName z = some q → z = .Name q.1 q.2) z c (fun _ _ h => Option.some.inj h ▸ rfl) h
  · exact absurd ((show vName z = none from dif_neg c).symm.trans h) nofun
noncomputable def vConstant (z : Expr) : Option (Const × Nat × Pos) := if h : z.ctorIdx = 19 then @Expr.Constant.elim (fun _ => Option (Const × Nat × Pos)) z h (fun a b c => some (a, b, c)) else none
theorem vConstant_inv {z : Expr} {q : Const × Nat × Pos} (h : vConstant z = some q) : z = .Constant q.1 q.2.1 q.2.2 := by
  refine dite (z.ctorIdx = 19) (fun c => ?_) (fun c => ?_)
  · exact @Expr.Constant.elim (fun z => vConstant z = some q → z = .Constant q.1 q.2.1 q.2.2) z c (fun _ _ _ h => Option.some.inj h ▸ rfl) h
  · exact absurd ((show vConstant z = none from dif_neg c).symm.trans h) nofun
noncomputable def vBinOp (z : Expr) : Option (Expr × Operator × Expr × Pos) := if h : z.ctorIdx = 2 then @Expr.BinOp.elim (fun _ => Option (Expr × Operator × Expr × Pos)) z h (fun a b c d => some (a, b, c, d)) else none
theorem vBinOp_inv {z : Expr} {q : Expr × Operator × Expr × Pos} (h : vBinOp z = some q) : z = .BinOp q.1 q.2.1 q.2.2.1 q.2.2.2 := by
  refine dite (z.ctorIdx = 2) (fun c => ?_) (fun c => ?_)
  · exact @Expr.BinOp.elim (fun z => vBinOp z = some q → z = .BinOp q.1 q.2.1 q.2.2.1 q.2.2.2) z c (fun _ _ _ _ h => Option.some.inj h ▸ rfl) h
  · exact absurd ((show vBinOp z = none from dif_neg c).symm.trans h) nofun
noncomputable def vUnaryOp (z : Expr) : Option (UnaryOp × Expr × Pos) := if h : z.ctorIdx = 3 then @Expr.UnaryOp.elim (fun _ => Option (UnaryOp × Expr × Pos)) z h (fun a b c => some (a, b, c)) else none
theorem vUnaryOp_inv {z : Expr} {q : UnaryOp × Expr × Pos} (h : vUnaryOp z = some q) : z = .UnaryOp q.1 q.2.1 q.2.2 := by
  refine dite (z.ctorIdx = 3) (fun c => ?_) (fun c => ?_)
  · exact @Expr.UnaryOp.elim (fun z => vUnaryOp z = some q → z = .UnaryOp q.1 q.2.1 q.2.2) z c (fun _ _ _ h => Option.some.inj h ▸ rfl) h
  · exact absurd ((show vUnaryOp z = none from dif_neg c).symm.trans h) nofun
noncomputable def vBoolOp (z : Expr) : Option (BoolOp × (List Expr) × Pos) := if h : z.ctorIdx = 0 then @Expr.BoolOp.elim (fun _ => Option (BoolOp × (List Expr) × Pos)) z h (fun a b c => some (a, b, c)) else none
theorem vBoolOp_inv {z : Expr} {q : BoolOp × (List Expr) × Pos} (h : vBoolOp z = some q) : z = .BoolOp q.1 q.2.1 q.2.2 := by
  refine dite (z.ctorIdx = 0) (fun c => ?_) (fun c => ?_)
  · exact @Expr.BoolOp.elim (fun z => vBoolOp z = some q → z = .BoolOp q.1 q.2.1 q.2.2) z c (fun _ _ _ h => Option.some.inj h ▸ rfl) h
  · exact absurd ((show vBoolOp z = none from dif_neg c).symm.trans h) nofun
noncomputable def vCompare (z : Expr) : Option (Expr × (List CmpOp) × (List Expr) × Pos) := if h : z.ctorIdx = 15 then @Expr.Compare.elim (fun _ => Option (Expr × (List CmpOp) × (List Expr) × Pos)) z h (fun a b c d => some (a, b, c, d)) else none
theorem vCompare_inv {z : Expr} {q : Expr × (List CmpOp) × (List Expr) × Pos} (h : vCompare z = some q) : z = .Compare q.1 q.2.1 q.2.2.1 q.2.2.2 := by
  refine dite (z.ctorIdx = 15) (fun c => ?_) (fun c => ?_)
  · exact @Expr.Compare.elim (fun z => vCompare z = some q → z = .Compare q.1 q.2.1 q.2.2.1 q.2.2.2) z c (fun _ _ _ _ h => Option.some.inj h ▸ rfl) h
  · exact absurd ((show vCompare z = none from dif_neg c).symm.trans h) nofun
noncomputable def vCall (z : Expr) : Option (Expr × (List Expr) × (List Keyword) × Pos) := if h : z.ctorIdx = 16 then @Expr.Call.elim (fun _ => Option (Expr × (List Expr) × (List Keyword) × Pos)) z h (fun a b c d => some (a, b, c, d)) else none
theorem vCall_inv {z : Expr} {q : Expr × (List Expr) × (List Keyword) × Pos} (h : vCall z = some q) : z = .Call q.1 q.2.1 q.2.2.1 q.2.2.2 := by
  refine dite (z.ctorIdx = 16) (fun c => ?_) (fun c => ?_)
  · exact @Expr.Call.elim (fun z => vCall z = some q → z = .Call q.1 q.2.1 q.2.2.1 q.2.2.2) z c (fun _ _ _ _ h => Option.some.inj h ▸ rfl) h
  · exact absurd ((show vCall z = none from dif_neg c).symm.trans h) nofun
noncomputable def vAttribute (z : Expr) : Option (Expr × Str × Pos) := if h : z.ctorIdx = 20 then @Expr.Attribute.elim (fun _ => Option (Expr × Str × Pos)) z h (fun a b c => some (a, b, c)) else none
theorem vAttribute_inv {z : Expr} {q : Expr × Str × Pos} (h : vAttribute z = some q) : z = .Attribute q.1 q.2.1 q.2.2 := by
  refine dite (z.ctorIdx = 20) (fun c => ?_) (fun c => ?_)
  · exact @Expr.Attribute.elim (fun z => vAttribute z = some q → z = .Attribute q.1 q.2.1 q.2.2) z c (fun _ _ _ h => Option.some.inj h ▸ rfl) h
  · exact absurd ((show vAttribute z = none from dif_neg c).symm.trans h) nofun
noncomputable def vSubscript (z : Expr) : Option (Expr × Expr × Pos) := if h : z.ctorIdx = 21 then @Expr.Subscript.elim (fun _ => Option (Expr × Expr × Pos)) z h (fun a b c => some (a, b, c)) else none
theorem vSubscript_inv {z : Expr} {q : Expr × Expr × Pos} (h : vSubscript z = some q) : z = .Subscript q.1 q.2.1 q.2.2 := by
  refine dite (z.ctorIdx = 21) (fun c => ?_) (fun c => ?_)
  · exact @Expr.Subscript.elim (fun z => vSubscript z = some q → z = .Subscript q.1 q.2.1 q.2.2) z c (fun _ _ _ h => Option.some.inj h ▸ rfl) h
  · exact absurd ((show vSubscript z = none from dif_neg c).symm.trans h) nofun
noncomputable def vSlice (z : Expr) : Option ((Option Expr) × (Option Expr) × (Option Expr) × Pos) := if h : z.ctorIdx = 26 then @Expr.Slice.elim (fun _ => Option ((Option Expr) × (Option Expr) × (Option Expr) × Pos)) z h (fun a b c d => some (a, b, c, d)) else none
theorem vSlice_inv {z : Expr} {q : (Option Expr) × (Option Expr) × (Option Expr) × Pos} (h : vSlice z = some q) : z = .Slice q.1 q.2.1 q.2.2.1 q.2.2.2 := by
  refine dite (z.ctorIdx = 26) (fun c => ?_) (fun c => ?_)
  · exact @Expr.Slice.elim (fun z => vSlice z = some q → z = .Slice q.1 q.2.1 q.2.2.1 q.2.2.2) z c (fun _ _ _ _ h => Option.some.inj h ▸ rfl) h
  · exact absurd ((show vSlice z = none from dif_neg c).symm.trans h) nofun
noncomputable def vTuple (z : Expr) : Option ((List Expr) × Nat × Pos) := if h : z.ctorIdx = 25 then @Expr.Tuple.elim (fun _ => Option ((List Expr) × Nat × Pos)) z h (fun a b c => some (a, b, c)) else none
theorem vTuple_inv {z : Expr} {q : (List Expr) × Nat × Pos} (h : vTuple z = some q) : z = .Tuple q.1 q.2.1 q.2.2 := by
  refine dite (z.ctorIdx = 25) (fun c => ?_) (fun c => ?_)
  · exact @Expr.Tuple.elim (fun z => vTuple z = some q → z = .Tuple q.1 q.2.1 q.2.2) z c (fun _ _ _ h => Option.some.inj h ▸ rfl) h
  · exact absurd ((show vTuple z = none from dif_neg c).symm.trans h) nofun
noncomputable def vList (z : Expr) : Option ((List Expr) × Pos) := if h : z.ctorIdx = 24 then @Expr.List.elim (fun _ => Option ((List Expr) × Pos)) z h (fun a b => some (a, b)) else none
theorem vList_inv {z : Expr} {q : (List Expr) × Pos} (h : vList z = some q) : z = .List q.1 q.2 := by
  refine dite (z.ctorIdx = 24) (fun c => ?_) (fun c => ?_)
  · exact @Expr.List.elim (fun z => vList z = some q → z = .List q.1 q.2) z c (fun _ _ h => Option.some.inj h ▸ rfl) h
  · exact absurd ((show vList z = none from dif_neg c).symm.trans h) nofun
noncomputable def vListComp (z : Expr) : Option (Expr × (List Comprehension) × Scope × Pos) := if h : z.ctorIdx = 8 then @Expr.ListComp.elim (fun _ => Option (Expr × (List Comprehension) × Scope × Pos)) z h (fun a b c d => some (a, b, c, d)) else none
theorem vListComp_inv {z : Expr} {q : Expr × (List Comprehension) × Scope × Pos} (h : vListComp z = some q) : z = .ListComp q.1 q.2.1 q.2.2.1 q.2.2.2 := by
  refine dite (z.ctorIdx = 8) (fun c => ?_) (fun c => ?_)
  · exact @Expr.ListComp.elim (fun z => vListComp z = some q → z = .ListComp q.1 q.2.1 q.2.2.1 q.2.2.2) z c (fun _ _ _ _ h => Option.some.inj h ▸ rfl) h
  · exact absurd ((show vListComp z = none from dif_neg c).symm.trans h) nofun
noncomputable def wExpr (z : Stmt) : Option (Expr × Pos) := if h : z.ctorIdx = 24 then @Stmt.Expr.elim (fun _ => Option (Expr × Pos)) z h (fun a b => some (a, b)) else none
theorem wExpr_inv {z : Stmt} {q : Expr × Pos} (h : wExpr z = some q) : z = .Expr q.1 q.2 := by
  refine dite (z.ctorIdx = 24) (fun c => ?_) (fun c => ?_)
  · exact @Stmt.Expr.elim (fun z => wExpr z = some q → z = .Expr q.1 q.2) z c (fun _ _ h => Option.some.inj h ▸ rfl) h
  · exact absurd ((show wExpr z = none from dif_neg c).symm.trans h) nofun
noncomputable def wAssign (z : Stmt) : Option ((List Expr) × Expr × Pos) := if h : z.ctorIdx = 5 then @Stmt.Assign.elim (fun _ => Option ((List Expr) × Expr × Pos)) z h (fun a b c => some (a, b, c)) else none
theorem wAssign_inv {z : Stmt} {q : (List Expr) × Expr × Pos} (h : wAssign z = some q) : z = .Assign q.1 q.2.1 q.2.2 := by
  refine dite (z.ctorIdx = 5) (fun c => ?_) (fun c => ?_)
  · exact @Stmt.Assign.elim (fun z => wAssign z = some q → z = .Assign q.1 q.2.1 q.2.2) z c (fun _ _ _ h => Option.some.inj h ▸ rfl) h
  · exact absurd ((show wAssign z = none from dif_neg c).symm.trans h) nofun
noncomputable def wIf (z : Stmt) : Option (Expr × (List Stmt) × (List Stmt) × Pos) := if h : z.ctorIdx = 12 then @Stmt.If.elim (fun _ => Option (Expr × (List Stmt) × (List Stmt) × Pos)) z h (fun a b c d => some (a, b, c, d)) else none
theorem wIf_inv {z : Stmt} {q : Expr × (List Stmt) × (List Stmt) × Pos} (h : wIf z = some q) : z = .If q.1 q.2.1 q.2.2.1 q.2.2.2 := by
  refine dite (z.ctorIdx = 12) (fun c => ?_) (fun c => ?_)
  · exact @Stmt.If.elim (fun z => wIf z = some q → z = .If q.1 q.2.1 q.2.2.1 q.2.2.2) z c (fun _ _ _ _ h => Option.some.inj h ▸ rfl) h
  · exact absurd ((show wIf z = none from dif_neg c).symm.trans h) nofun
noncomputable def wFor (z : Stmt) : Option (Expr × Expr × (List Stmt) × (List Stmt) × Pos) := if h : z.ctorIdx = 9 then @Stmt.For.elim (fun _ => Option (Expr × Expr × (List Stmt) × (List Stmt) × Pos)) z h (fun a b c d e => some (a, b, c, d, e)) else none
theorem wFor_inv {z : Stmt} {q : Expr × Expr × (List Stmt) × (List Stmt) × Pos} (h : wFor z = some q) : z = .For q.1 q.2.1 q.2.2.1 q.2.2.2.1 q.2.2.2.2 := by
  refine dite (z.ctorIdx = 9) (fun c => ?_) (fun c => ?_)
  · exact @Stmt.For.elim (fun z => wFor z = some q → z = .For q.1 q.2.1 q.2.2.1 q.2.2.2.1 q.2.2.2.2) z c (fun _ _ _ _ _ h => Option.some.inj h ▸ rfl) h
  · exact absurd ((show wFor z = none from dif_neg c).symm.trans h) nofun
noncomputable def wWhile (z : Stmt) : Option (Expr × (List Stmt) × (List Stmt) × Pos) := if h : z.ctorIdx = 11 then @Stmt.While.elim (fun _ => Option (Expr × (List Stmt) × (List Stmt) × Pos)) z h (fun a b c d => some (a, b, c, d)) else none
theorem wWhile_inv {z : Stmt} {q : Expr × (List Stmt) × (List Stmt) × Pos} (h : wWhile z = some q) : z = .While q.1 q.2.1 q.2.2.1 q.2.2.2 := by
  refine dite (z.ctorIdx = 11) (fun c => ?_) (fun c => ?_)
  · exact @Stmt.While.elim (fun z => wWhile z = some q → z = .While q.1 q.2.1 q.2.2.1 q.2.2.2) z c (fun _ _ _ _ h => Option.some.inj h ▸ rfl) h
  · exact absurd ((show wWhile z = none from dif_neg c).symm.trans h) nofun
noncomputable def wReturn (z : Stmt) : Option ((Option Expr) × Pos) := if h : z.ctorIdx = 3 then @Stmt.Return.elim (fun _ => Option ((Option Expr) × Pos)) z h (fun a b => some (a, b)) else none
theorem wReturn_inv {z : Stmt} {q : (Option Expr) × Pos} (h : wReturn z = some q) : z = .Return q.1 q.2 := by
  refine dite (z.ctorIdx = 3) (fun c => ?_) (fun c => ?_)
  · exact @Stmt.Return.elim (fun z => wReturn z = some q → z = .Return q.1 q.2) z c (fun _ _ h => Option.some.inj h ▸ rfl) h
  · exact absurd ((show wReturn z = none from dif_neg c).symm.trans h) nofun
noncomputable def wBreak (z : Stmt) : Option (Pos) := if h : z.ctorIdx = 26 then @Stmt.Break.elim (fun _ => Option (Pos)) z h (fun a => some a) else none
theorem wBreak_inv {z : Stmt} {q : Pos} (h : wBreak z = some q) : z = .Break q := by
  refine dite (z.ctorIdx = 26) (fun c => ?_) (fun c => ?_)
  · exact @Stmt.Break.elim (fun z => wBreak z = some q → z = .Break q) z c (fun _ h => Option.some.inj h ▸ rfl) h
  · exact absurd ((show wBreak z = none from dif_neg c).symm.trans h) nofun
noncomputable def wContinue (z : Stmt) : Option (Pos) := if h : z.ctorIdx = 27 then @Stmt.Continue.elim (fun _ => Option (Pos)) z h (fun a => some a) else none
theorem wContinue_inv {z : Stmt} {q : Pos} (h : wContinue z = some q) : z = .Continue q := by
  refine dite (z.ctorIdx = 27) (fun c => ?_) (fun c => ?_)
  · exact @Stmt.Continue.elim (fun z => wContinue z = some q → z = .Continue q) z c (fun _ h => Option.some.inj h ▸ rfl) h
  · exact absurd ((show wContinue z = none from dif_neg c).symm.trans h) nofun
noncomputable def wPass (z : Stmt) : Option (Pos) := if h : z.ctorIdx = 25 then @Stmt.Pass.elim (fun _ => Option (Pos)) z h (fun a => some a) else none
theorem wPass_inv {z : Stmt} {q : Pos} (h : wPass z = some q) : z = .Pass q := by
  refine dite (z.ctorIdx = 25) (fun c => ?_) (fun c => ?_)
  · exact @Stmt.Pass.elim (fun z => wPass z = some q → z = .Pass q) z c (fun _ h => Option.some.inj h ▸ rfl) h
  · exact absurd ((show wPass z = none from dif_neg c).symm.trans h) nofun
noncomputable def wRaise (z : Stmt) : Option ((Option Expr) × (Option Expr) × Pos) := if h : z.ctorIdx = 16 then @Stmt.Raise.elim (fun _ => Option ((Option Expr) × (Option Expr) × Pos)) z h (fun a b c => some (a, b, c)) else none
theorem wRaise_inv {z : Stmt} {q : (Option Expr) × (Option Expr) × Pos} (h : wRaise z = some q) : z = .Raise q.1 q.2.1 q.2.2 := by
  refine dite (z.ctorIdx = 16) (fun c => ?_) (fun c => ?_)
  · exact @Stmt.Raise.elim (fun z => wRaise z = some q → z = .Raise q.1 q.2.1 q.2.2) z c (fun _ _ _ h => Option.some.inj h ▸ rfl) h
  · exact absurd ((show wRaise z = none from dif_neg c).symm.trans h) nofun
noncomputable def wTry (z : Stmt) : Option ((List Stmt) × (List ExceptHandler) × (List Stmt) × (List Stmt) × Pos) := if h : z.ctorIdx = 17 then @Stmt.Try.elim (fun _ => Option ((List Stmt) × (List ExceptHandler) × (List Stmt) × (List Stmt) × Pos)) z h (fun a b c d e => some (a, b, c, d, e)) else none
theorem wTry_inv {z : Stmt} {q : (List Stmt) × (List ExceptHandler) × (List Stmt) × (List Stmt) × Pos} (h : wTry z = some q) : z = .Try q.1 q.2.1 q.2.2.1 q.2.2.2.1 q.2.2.2.2 := by
  refine dite (z.ctorIdx = 17) (fun c => ?_) (fun c => ?_)
  · exact @Stmt.Try.elim (fun z => wTry z = some q → z = .Try q.1 q.2.1 q.2.2.1 q.2.2.2.1 q.2.2.2.2) z c (fun _ _ _ _ _ h => Option.some.inj h ▸ rfl) h
  · exact absurd ((show wTry z = none from dif_neg c).symm.trans h) nofun

noncomputable def nmX (T : Tops) (k : Nat) (x : Str) : Bool := (T.xs[k]?).any fun q => q.1 == x
noncomputable def okT (T : Tops) (t : TY) : Bool := match t with
  | .exc x j => nmX T j x
  | _ => true
noncomputable def hType (z : ExceptHandler) : Option Expr := match z with | .ExceptHandler t _ _ _ => t
noncomputable def hName (z : ExceptHandler) : Option Str := match z with | .ExceptHandler _ n _ _ => n
noncomputable def hBody (z : ExceptHandler) : List Stmt := match z with | .ExceptHandler _ _ b _ => b
noncomputable def hPos (z : ExceptHandler) : Pos := match z with | .ExceptHandler _ _ _ p => p
theorem hand_eta (z : ExceptHandler) : z = .ExceptHandler (hType z) (hName z) (hBody z) (hPos z) := by cases z; rfl
/-- the name that a clause binds -/
noncomputable def asOk (S : List Str) (as : Option Nat) (n : Option Str) : Bool := match as with
  | some i => n.any fun x => S[i]? == some x
  | none => n.isNone

/-- a comprehension over a name, with names of its own alone -/
noncomputable def scOk (y : Str) (sc : Scope) : Bool := decide (sc.kind = .function) && (decide (sc.names.lookup y = some .local) && sc.names.all fun p => decide (p.2 = .local) && decide (sc.names.lookup p.1 = some .local))
noncomputable def gOk (y : Str) (g : Comprehension) : Bool := ((vName g.target).any fun q => q.1 == y) && (g.ifs.isEmpty && decide (g.is_async = 0))
section
variable (T : Tops) (G : Str → Bool) (S : List Str) (M : Nat → Option Str)
mutual
/-- the mini expression says this expression of the model's: G the names that are the top's here, S the slots, M the methods' names -/
noncomputable def mt : ME → Expr → Bool
  | .var i, e => (vName e).any fun z1 => (S[i]? == some z1.1 && z1.1 != ("__debug__" : Str))
  | .cint k, e => (vConstant e).any fun z1 => decide (z1.1 = (.int k)) && ((true))
  | .cstr s, e => (vConstant e).any fun z1 => decide (z1.1 = (.str s)) && ((true))
  | .cnone, e => (vConstant e).any fun z1 => decide (z1.1 = .none) && ((true))
  | .cbool b, e => (vConstant e).any fun z1 => decide (z1.1 = (.bool b)) && ((true))
  | .gint x k, e => (vName e).any fun z1 => (x == z1.1 && G z1.1 && x != ("__debug__" : Str) && T.tint.lookup x == some k)
  | .gstr x s, e => (vName e).any fun z1 => (x == z1.1 && G z1.1 && x != ("__debug__" : Str) && T.tstr.lookup x == some s)
  | .bin op a b, e => (vBinOp e).any fun z1 => (op == z1.2.1 && mt a z1.1 && mt b z1.2.2.1)
  | .neg a, e => (vUnaryOp e).any fun z1 => decide (z1.1 = .USub) && ((mt a z1.2.1))
  | .not a, e => (vUnaryOp e).any fun z1 => decide (z1.1 = .Not) && ((mt a z1.2.1))
  | .and es, e => (vBoolOp e).any fun z1 => decide (z1.1 = .And) && ((mts es z1.2.1 && !es.isEmpty))
  | .or es, e => (vBoolOp e).any fun z1 => decide (z1.1 = .Or) && ((mts es z1.2.1 && !es.isEmpty))
  | .cmp op a b, e => (vCompare e).any fun z1 => (one z1.2.1).any fun z2 => (one z1.2.2.1).any fun z3 => (op == z2 && mt a z1.1 && mt b z3)
  | .cmp2 op₁ op₂ a b c, e => (vCompare e).any fun z1 => (two z1.2.1).any fun z2 => (two z1.2.2.1).any fun z3 => (op₁ == z2.1 && op₂ == z2.2 && mt a z1.1 && mt b z3.1 && mt c z3.2)
  | .call f args, e => (vCall e).any fun z1 => (vName z1.1).any fun z2 => z1.2.2.1.isEmpty && ((T.fns.lookup z2.1 == some f && G z2.1 && z2.1 != ("__debug__" : Str) && mts args z1.2.1 && !args.isEmpty))
  | .bi b args, e => (vCall e).any fun z1 => (vName z1.1).any fun z2 => z1.2.2.1.isEmpty && ((b.name == z2.1 && G z2.1 && mts args z1.2.1 && !args.isEmpty))
  | .copy own e₁, e => (vCall e).any fun z1 => (vName z1.1).any fun z2 => (one z1.2.1).any fun z3 => z1.2.2.1.isEmpty && ((z2.1 == ("list" : Str) && G z2.1 && mt e₁ z3))
  | .isi e₁ t, e => (vCall e).any fun z1 => (vName z1.1).any fun z2 => (two z1.2.1).any fun z3 => (vName z3.2).any fun z4 => z1.2.2.1.isEmpty && ((z2.1 == ("isinstance" : Str) && G z2.1 && G z4.1 && t.name == z4.1 && z4.1 != ("__debug__" : Str) && mt e₁ z3.1 && okT T t))
  | .make c args, e => (vCall e).any fun z1 => (vName z1.1).any fun z2 => z1.2.2.1.isEmpty && ((T.classes.lookup z2.1 == some c && G z2.1 && z2.1 != ("__debug__" : Str) && mts args z1.2.1 && !args.isEmpty))
  | .meth o f args, e => (vCall e).any fun z1 => (vAttribute z1.1).any fun z2 => z1.2.2.1.isEmpty && ((M f == some z2.2.1 && mt o z2.1 && mts args z1.2.1 && z2.2.2.endLine == z1.2.2.2.line && decide (z1.2.1.length < 20)))
  | .attr o k, e => (vAttribute e).any fun z1 => (T.attrs[k]? == some z1.2.1 && mt o z1.1)
  | .idx a i, e => (vSubscript e).any fun z1 => (mt a z1.1 && mt i z1.2.1)
  | .sliceTo own a k, e => (vSubscript e).any fun z1 => (vSlice z1.2.1).any fun z2 => z2.1.isNone && ((z2.2.1).any fun z3 => z2.2.2.1.isNone && ((mt a z1.1 && mt k z3)))
  | .sliceFrom own a k, e => (vSubscript e).any fun z1 => (vSlice z1.2.1).any fun z2 => (z2.1).any fun z3 => z2.2.1.isNone && (z2.2.2.1.isNone && ((mt a z1.1 && mt k z3)))
  | .tup es, e => (vTuple e).any fun z1 => (mts es z1.1 && decide (z1.1.length ≤ 1000))
  | .lst own es, e => (vList e).any fun z1 => (mts es z1.1 && decide (z1.1.length ≤ 1000))
  | .sumAt k i, e => (vCall e).any fun z1 => (vName z1.1).any fun z2 => (one z1.2.1).any fun z3 => (vListComp z3).any fun z4 => (vSubscript z4.1).any fun z5 => (vName z5.1).any fun z6 => (vConstant z5.2.1).any fun z7 => z1.2.2.1.isEmpty && ((z2.1 == ("sum" : Str) && G z2.1 && z6.1 != ("__debug__" : Str) && decide (z7.1 = .int (k : Int)) && scOk z6.1 z4.2.2.1 && (one z4.2.1).any fun g => gOk z6.1 g && (vName g.iter).any fun q => S[i]? == some q.1 && q.1 != (("__debug__" : Str) : Str)))
  | .rev e₁, e => (vSubscript e).any fun z1 => (vSlice z1.2.1).any fun z2 => z2.1.isNone && (z2.2.1.isNone && ((z2.2.2.1).any fun z3 => (vUnaryOp z3).any fun z4 => decide (z4.1 = .USub) && ((vConstant z4.2.1).any fun z5 => decide (z5.1 = (.int 1)) && ((mt e₁ z1.1)))))
  | .strMul s e₁, e => (vBinOp e).any fun z1 => (vConstant z1.1).any fun z2 => decide (z2.1 = (.str s)) && (decide (z1.2.1 = .Mult) && ((mt e₁ z1.2.2.1)))
noncomputable def mts : List ME → List Expr → Bool
  | [], l => l.isEmpty
  | e :: es, l => l.head?.any fun x => mt e x && mts es l.tail
end

noncomputable def nm0 (e : Expr) : Option Str := (vName e).map (·.1)
noncomputable def onLine (l : Nat) (e : Expr) : Bool := (vName e).any fun q => q.2.line == l
noncomputable def isStar (e : Expr) : Bool := match e with | .Starred .. => true | _ => false
/-- a tuple that is written out: two or three names of one line get its items -/
noncomputable def tupOk (is : List Nat) (ts : List Expr) (y : Expr) : Bool := (vTuple y).all fun z =>
  (ts.length == 2 || ts.length == 3) && (z.1.length == ts.length && (decide is.Nodup && (ts.all (onLine ((ts.head?.map (·.pos.line)).getD 0)) &&
    (decide ((ts.filterMap nm0).eraseDups.length = (ts.filterMap nm0).length) && (!z.1.any isStar && (!z.1.all (foldedForSure 8) && !z.1.all (constantsAlone 8)))))))
noncomputable def targets : List Nat → List Expr → Bool
  | [], l => l.isEmpty
  | i :: is, l => l.head?.any fun e => (vName e).any (fun q => S[i]? == some q.1) && targets is l.tail

mutual
noncomputable def ms : MS → Stmt → Bool
  | .expr e₁, e => (wExpr e).any fun z1 => (mt T G S M e₁ z1.1)
  | .append o e₁, e => (wExpr e).any fun z1 => (vCall z1.1).any fun z2 => (vAttribute z2.1).any fun z3 => (one z2.2.1).any fun z4 => z2.2.2.1.isEmpty && ((z3.2.1 == ("append" : Str) && mt T G S M o z3.1 && mt T G S M e₁ z4 && z3.2.2.endLine == z2.2.2.2.line))
  | .assign i e₁, e => (wAssign e).any fun z1 => (one z1.1).any fun z2 => (vName z2).any fun z3 => (S[i]? == some z3.1 && mt T G S M e₁ z1.2.1)
  | .unpack is e₁, e => (wAssign e).any fun z1 => (one z1.1).any fun z2 => (vTuple z2).any fun z3 => (targets S is z3.1 && mt T G S M e₁ z1.2.1 && tupOk is z3.1 z1.2.1)
  | .setattr o k e₁, e => (wAssign e).any fun z1 => (one z1.1).any fun z2 => (vAttribute z2).any fun z3 => (T.attrs[k]? == some z3.2.1 && mt T G S M o z3.1 && mt T G S M e₁ z1.2.1)
  | .setitem o k e₁, e => (wAssign e).any fun z1 => (one z1.1).any fun z2 => (vSubscript z2).any fun z3 => (mt T G S M o z3.1 && mt T G S M k z3.2.1 && mt T G S M e₁ z1.2.1)
  | .unpackSub i o k e₁, e => (wAssign e).any fun z1 => (one z1.1).any fun z2 => (vTuple z2).any fun z3 => (two z3.1).any fun z4 => (vName z4.1).any fun z5 => (vSubscript z4.2).any fun z6 => (S[i]? == some z5.1 && mt T G S M o z6.1 && mt T G S M k z6.2.1 && mt T G S M e₁ z1.2.1 && (vTuple z1.2.1).isNone)
  | .unpackL is e₁, e => (wAssign e).any fun z1 => (one z1.1).any fun z2 => (vTuple z2).any fun z3 => (targets S is z3.1 && mt T G S M e₁ z1.2.1 && (vTuple z1.2.1).isNone)
  | .ite c a b, e => (wIf e).any fun z1 => (mt T G S M c z1.1 && mss a z1.2.1 && mss b z1.2.2.1)
  | .forIn i it body, e => (wFor e).any fun z1 => (vName z1.1).any fun z2 => z1.2.2.2.1.isEmpty && ((S[i]? == some z2.1 && mt T G S M it z1.2.1 && mss body z1.2.2.1))
  | .forRange i args body, e => (wFor e).any fun z1 => (vName z1.1).any fun z2 => (vCall z1.2.1).any fun z3 => (vName z3.1).any fun z4 => z3.2.2.1.isEmpty && (z1.2.2.2.1.isEmpty && ((S[i]? == some z2.1 && z4.1 == ("range" : Str) && G z4.1 && mts T G S M args z3.2.1 && !args.isEmpty && mss body z1.2.2.1)))
  | .forTup is it body, e => (wFor e).any fun z1 => (vTuple z1.1).any fun z2 => z1.2.2.2.1.isEmpty && ((targets S is z2.1 && mt T G S M it z1.2.1 && mss body z1.2.2.1))
  | .while fuel c body, e => (wWhile e).any fun z1 => z1.2.2.1.isEmpty && ((mt T G S M c z1.1 && mss body z1.2.1))
  | .ret e₁, e => (wReturn e).any fun z1 => (z1.1).any fun z2 => (mt T G S M e₁ z2)
  | .retNone, e => (wReturn e).any fun z1 => z1.1.isNone && ((true))
  | .brk, e => (wBreak e).any fun z1 => (true)
  | .cont, e => (wContinue e).any fun z1 => (true)
  | .pass, e => (wPass e).any fun z1 => (true)
  | .raise x k s, e => (wRaise e).any fun z1 => (z1.1).any fun z2 => (vCall z2).any fun z3 => (vName z3.1).any fun z4 => (one z3.2.1).any fun z5 => (vConstant z5).any fun z6 => decide (z6.1 = (.str s)) && (z3.2.2.1.isEmpty && (z1.2.1.isNone && ((x == z4.1 && G z4.1 && x != ("__debug__" : Str) && nmX T k x))))
  | .try body hs, e => (wTry e).any fun z1 => z1.2.2.1.isEmpty && (z1.2.2.2.1.isEmpty && ((mss body z1.1 && msh hs z1.2.1 && !hs.isEmpty)))
  | .hand _ _ _, _ => false
noncomputable def mss : List MS → List Stmt → Bool
  | [], l => l.isEmpty
  | s :: r, l => l.head?.any fun x => ms s x && mss r l.tail
noncomputable def msh : List MS → List ExceptHandler → Bool
  | [], l => l.isEmpty
  | .hand j as suite :: hs, l => l.head?.any fun z => (hType z).any fun t => (vName t).any fun q => G q.1 && (q.1 != ("__debug__" : Str) && (nmX T j q.1 && (asOk S as (hName z) && (!suite.isEmpty && (mss suite (hBody z) && msh hs l.tail)))))
  | _ :: _, _ => false
end
end

section inv
variable {T : Tops} {G : Str → Bool} {S : List Str} {M : Nat → Option Str}
theorem mts_n {l : List Expr} (h : mts T G S M [] l = true) : l = [] := nil_inv h
theorem mss_n {l : List Stmt} (h : mss T G S M [] l = true) : l = [] := nil_inv h
theorem mss_c {e : MS} {es : List MS} {l : List Stmt} (h : mss T G S M (e :: es) l = true) : ∃ x xs, l = x :: xs ∧ ms T G S M e x = true ∧ mss T G S M es xs = true := by
  cases l with
  | nil => cases h
  | cons x xs => exact ⟨x, xs, rfl, and_inv h⟩
theorem msh_c {j : Nat} {as : Option Nat} {suite hs : List MS} {l : List ExceptHandler} (h : msh T G S M (.hand j as suite :: hs) l = true) : ∃ x p n b pos r, l = .ExceptHandler (some (.Name x p)) n b pos :: r ∧ G x = true ∧ (x != ("__debug__" : Str)) = true ∧ nmX T j x = true ∧ asOk S as n = true ∧ (!suite.isEmpty) = true ∧ mss T G S M suite b = true ∧ msh T G S M hs r = true := by
  cases l with
  | nil => cases h
  | cons z r =>
    obtain ⟨t, h1, h⟩ := any_inv (show ((hType z).any _) = true from h)
    obtain ⟨q, h2, h⟩ := any_inv h
    obtain ⟨h3, h⟩ := and_inv h
    obtain ⟨h4, h⟩ := and_inv h
    obtain ⟨h5, h⟩ := and_inv h
    obtain ⟨h6, h⟩ := and_inv h
    obtain ⟨h7, h⟩ := and_inv h
    obtain ⟨h8, h9⟩ := and_inv h
    exact ⟨q.1, q.2, hName z, hBody z, hPos z, r, by rw [← vName_inv h2, ← h1, ← hand_eta], h3, h4, h5, h6, h7, h8, h9⟩
theorem targets_n {l : List Expr} (h : targets S [] l = true) : l = [] := nil_inv h
theorem targets_c {i : Nat} {is : List Nat} {l : List Expr} (h : targets S (i :: is) l = true) : ∃ x p xs, l = .Name x p :: xs ∧ (S[i]? == some x) = true ∧ targets S is xs = true := by
  cases l with
  | nil => cases h
  | cons e xs =>
    obtain ⟨h1, h2⟩ := and_inv h
    obtain ⟨q, h3, h4⟩ := any_inv h1
    exact ⟨q.1, q.2, xs, by rw [vName_inv h3], h4, h2⟩
theorem mt_var {i : Nat} {e : Expr} (h : mt T G S M (.var i) e = true) : ∃ x p1, e = .Name x p1 ∧ (S[i]? == some x && x != "__debug__") = true := by
  have h : ((vName e).any fun z1 => (S[i]? == some z1.1 && z1.1 != ("__debug__" : Str))) = true := h
  obtain ⟨z1, h0, h⟩ := any_inv h
  exact ⟨z1.1, z1.2, by rw [vName_inv h0], h⟩
theorem mt_cint {k : Int} {e : Expr} (h : mt T G S M (.cint k) e = true) : ∃ p1 p2, e = .Constant (.int k) p1 p2 ∧ (true) = true := by
  have h : ((vConstant e).any fun z1 => decide (z1.1 = (.int k)) && ((true))) = true := h
  obtain ⟨z1, h0, h⟩ := any_inv h
  obtain ⟨h1, h⟩ := and_inv h
  exact ⟨z1.2.1, z1.2.2, by rw [vConstant_inv h0, of_decide_eq_true h1], h⟩
theorem mt_cstr {s : Str} {e : Expr} (h : mt T G S M (.cstr s) e = true) : ∃ p1 p2, e = .Constant (.str s) p1 p2 ∧ (true) = true := by
  have h : ((vConstant e).any fun z1 => decide (z1.1 = (.str s)) && ((true))) = true := h
  obtain ⟨z1, h0, h⟩ := any_inv h
  obtain ⟨h1, h⟩ := and_inv h
  exact ⟨z1.2.1, z1.2.2, by rw [vConstant_inv h0, of_decide_eq_true h1], h⟩
theorem mt_cnone  {e : Expr} (h : mt T G S M (.cnone) e = true) : ∃ p1 p2, e = .Constant .none p1 p2 ∧ (true) = true := by
  have h : ((vConstant e).any fun z1 => decide (z1.1 = .none) && ((true))) = true := h
  obtain ⟨z1, h0, h⟩ := any_inv h
  obtain ⟨h1, h⟩ := and_inv h
  exact ⟨z1.2.1, z1.2.2, by rw [vConstant_inv h0, of_decide_eq_true h1], h⟩
theorem mt_cbool {b : Bool} {e : Expr} (h : mt T G S M (.cbool b) e = true) : ∃ p1 p2, e = .Constant (.bool b) p1 p2 ∧ (true) = true := by
  have h : ((vConstant e).any fun z1 => decide (z1.1 = (.bool b)) && ((true))) = true := h
  obtain ⟨z1, h0, h⟩ := any_inv h
  obtain ⟨h1, h⟩ := and_inv h
  exact ⟨z1.2.1, z1.2.2, by rw [vConstant_inv h0, of_decide_eq_true h1], h⟩
theorem mt_gint {x : Str} {k : Int} {e : Expr} (h : mt T G S M (.gint x k) e = true) : ∃ y p1, e = .Name y p1 ∧ (x == y && G y && x != "__debug__" && T.tint.lookup x == some k) = true := by
  have h : ((vName e).any fun z1 => (x == z1.1 && G z1.1 && x != ("__debug__" : Str) && T.tint.lookup x == some k)) = true := h
  obtain ⟨z1, h0, h⟩ := any_inv h
  exact ⟨z1.1, z1.2, by rw [vName_inv h0], h⟩
theorem mt_gstr {x s : Str} {e : Expr} (h : mt T G S M (.gstr x s) e = true) : ∃ y p1, e = .Name y p1 ∧ (x == y && G y && x != "__debug__" && T.tstr.lookup x == some s) = true := by
  have h : ((vName e).any fun z1 => (x == z1.1 && G z1.1 && x != ("__debug__" : Str) && T.tstr.lookup x == some s)) = true := h
  obtain ⟨z1, h0, h⟩ := any_inv h
  exact ⟨z1.1, z1.2, by rw [vName_inv h0], h⟩
theorem mt_bin {op : Operator} {a b : ME} {e : Expr} (h : mt T G S M (.bin op a b) e = true) : ∃ l o r p1, e = .BinOp l o r p1 ∧ (op == o && mt T G S M a l && mt T G S M b r) = true := by
  have h : ((vBinOp e).any fun z1 => (op == z1.2.1 && mt T G S M a z1.1 && mt T G S M b z1.2.2.1)) = true := h
  obtain ⟨z1, h0, h⟩ := any_inv h
  exact ⟨z1.1, z1.2.1, z1.2.2.1, z1.2.2.2, by rw [vBinOp_inv h0], h⟩
theorem mt_neg {a : ME} {e : Expr} (h : mt T G S M (.neg a) e = true) : ∃ l p1, e = .UnaryOp .USub l p1 ∧ (mt T G S M a l) = true := by
  have h : ((vUnaryOp e).any fun z1 => decide (z1.1 = .USub) && ((mt T G S M a z1.2.1))) = true := h
  obtain ⟨z1, h0, h⟩ := any_inv h
  obtain ⟨h1, h⟩ := and_inv h
  exact ⟨z1.2.1, z1.2.2, by rw [vUnaryOp_inv h0, of_decide_eq_true h1], h⟩
theorem mt_not {a : ME} {e : Expr} (h : mt T G S M (.not a) e = true) : ∃ l p1, e = .UnaryOp .Not l p1 ∧ (mt T G S M a l) = true := by
  have h : ((vUnaryOp e).any fun z1 => decide (z1.1 = .Not) && ((mt T G S M a z1.2.1))) = true := h
  obtain ⟨z1, h0, h⟩ := any_inv h
  obtain ⟨h1, h⟩ := and_inv h
  exact ⟨z1.2.1, z1.2.2, by rw [vUnaryOp_inv h0, of_decide_eq_true h1], h⟩
theorem mt_and {es : List ME} {e : Expr} (h : mt T G S M (.and es) e = true) : ∃ l p1, e = .BoolOp .And l p1 ∧ (mts T G S M es l && !es.isEmpty) = true := by
  have h : ((vBoolOp e).any fun z1 => decide (z1.1 = .And) && ((mts T G S M es z1.2.1 && !es.isEmpty))) = true := h
  obtain ⟨z1, h0, h⟩ := any_inv h
  obtain ⟨h1, h⟩ := and_inv h
  exact ⟨z1.2.1, z1.2.2, by rw [vBoolOp_inv h0, of_decide_eq_true h1], h⟩
theorem mt_or {es : List ME} {e : Expr} (h : mt T G S M (.or es) e = true) : ∃ l p1, e = .BoolOp .Or l p1 ∧ (mts T G S M es l && !es.isEmpty) = true := by
  have h : ((vBoolOp e).any fun z1 => decide (z1.1 = .Or) && ((mts T G S M es z1.2.1 && !es.isEmpty))) = true := h
  obtain ⟨z1, h0, h⟩ := any_inv h
  obtain ⟨h1, h⟩ := and_inv h
  exact ⟨z1.2.1, z1.2.2, by rw [vBoolOp_inv h0, of_decide_eq_true h1], h⟩
theorem mt_cmp {op : CmpOp} {a b : ME} {e : Expr} (h : mt T G S M (.cmp op a b) e = true) : ∃ l o r p1, e = .Compare l [o] [r] p1 ∧ (op == o && mt T G S M a l && mt T G S M b r) = true := by
  have h : ((vCompare e).any fun z1 => (one z1.2.1).any fun z2 => (one z1.2.2.1).any fun z3 => (op == z2 && mt T G S M a z1.1 && mt T G S M b z3)) = true := h
  obtain ⟨z1, h0, h⟩ := any_inv h
  obtain ⟨z2, h1, h⟩ := any_inv h
  obtain ⟨z3, h2, h⟩ := any_inv h
  exact ⟨z1.1, z2, z3, z1.2.2.2, by rw [vCompare_inv h0, one_inv h1, one_inv h2], h⟩
theorem mt_cmp2 {op₁ op₂ : CmpOp} {a b c : ME} {e : Expr} (h : mt T G S M (.cmp2 op₁ op₂ a b c) e = true) : ∃ l o₁ o₂ r₁ r₂ p1, e = .Compare l [o₁, o₂] [r₁, r₂] p1 ∧ (op₁ == o₁ && op₂ == o₂ && mt T G S M a l && mt T G S M b r₁ && mt T G S M c r₂) = true := by
  have h : ((vCompare e).any fun z1 => (two z1.2.1).any fun z2 => (two z1.2.2.1).any fun z3 => (op₁ == z2.1 && op₂ == z2.2 && mt T G S M a z1.1 && mt T G S M b z3.1 && mt T G S M c z3.2)) = true := h
  obtain ⟨z1, h0, h⟩ := any_inv h
  obtain ⟨z2, h1, h⟩ := any_inv h
  obtain ⟨z3, h2, h⟩ := any_inv h
  exact ⟨z1.1, z2.1, z2.2, z3.1, z3.2, z1.2.2.2, by rw [vCompare_inv h0, two_inv h1, two_inv h2], h⟩
theorem mt_call {f : Nat} {args : List ME} {e : Expr} (h : mt T G S M (.call f args) e = true) : ∃ x p1 es p2, e = .Call (.Name x p1) es [] p2 ∧ (T.fns.lookup x == some f && G x && x != "__debug__" && mts T G S M args es && !args.isEmpty) = true := by
  have h : ((vCall e).any fun z1 => (vName z1.1).any fun z2 => z1.2.2.1.isEmpty && ((T.fns.lookup z2.1 == some f && G z2.1 && z2.1 != ("__debug__" : Str) && mts T G S M args z1.2.1 && !args.isEmpty))) = true := h
  obtain ⟨z1, h0, h⟩ := any_inv h
  obtain ⟨z2, h1, h⟩ := any_inv h
  obtain ⟨h2, h⟩ := and_inv h
  exact ⟨z2.1, z2.2, z1.2.1, z1.2.2.2, by rw [vCall_inv h0, vName_inv h1, nil_inv h2], h⟩
theorem mt_bi {b : BI} {args : List ME} {e : Expr} (h : mt T G S M (.bi b args) e = true) : ∃ x p1 es p2, e = .Call (.Name x p1) es [] p2 ∧ (b.name == x && G x && mts T G S M args es && !args.isEmpty) = true := by
  have h : ((vCall e).any fun z1 => (vName z1.1).any fun z2 => z1.2.2.1.isEmpty && ((b.name == z2.1 && G z2.1 && mts T G S M args z1.2.1 && !args.isEmpty))) = true := h
  obtain ⟨z1, h0, h⟩ := any_inv h
  obtain ⟨z2, h1, h⟩ := any_inv h
  obtain ⟨h2, h⟩ := and_inv h
  exact ⟨z2.1, z2.2, z1.2.1, z1.2.2.2, by rw [vCall_inv h0, vName_inv h1, nil_inv h2], h⟩
theorem mt_copy {own : Bool} {e₁ : ME} {e : Expr} (h : mt T G S M (.copy own e₁) e = true) : ∃ x p1 a p2, e = .Call (.Name x p1) [a] [] p2 ∧ (x == "list" && G x && mt T G S M e₁ a) = true := by
  have h : ((vCall e).any fun z1 => (vName z1.1).any fun z2 => (one z1.2.1).any fun z3 => z1.2.2.1.isEmpty && ((z2.1 == ("list" : Str) && G z2.1 && mt T G S M e₁ z3))) = true := h
  obtain ⟨z1, h0, h⟩ := any_inv h
  obtain ⟨z2, h1, h⟩ := any_inv h
  obtain ⟨z3, h2, h⟩ := any_inv h
  obtain ⟨h3, h⟩ := and_inv h
  exact ⟨z2.1, z2.2, z3, z1.2.2.2, by rw [vCall_inv h0, vName_inv h1, one_inv h2, nil_inv h3], h⟩
theorem mt_isi {e₁ : ME} {t : TY} {e : Expr} (h : mt T G S M (.isi e₁ t) e = true) : ∃ x p1 a y p2 p3, e = .Call (.Name x p1) [a, (.Name y p2)] [] p3 ∧ (x == "isinstance" && G x && G y && t.name == y && y != "__debug__" && mt T G S M e₁ a && okT T t) = true := by
  have h : ((vCall e).any fun z1 => (vName z1.1).any fun z2 => (two z1.2.1).any fun z3 => (vName z3.2).any fun z4 => z1.2.2.1.isEmpty && ((z2.1 == ("isinstance" : Str) && G z2.1 && G z4.1 && t.name == z4.1 && z4.1 != ("__debug__" : Str) && mt T G S M e₁ z3.1 && okT T t))) = true := h
  obtain ⟨z1, h0, h⟩ := any_inv h
  obtain ⟨z2, h1, h⟩ := any_inv h
  obtain ⟨z3, h2, h⟩ := any_inv h
  obtain ⟨z4, h3, h⟩ := any_inv h
  obtain ⟨h4, h⟩ := and_inv h
  exact ⟨z2.1, z2.2, z3.1, z4.1, z4.2, z1.2.2.2, by rw [vCall_inv h0, vName_inv h1, two_inv h2, vName_inv h3, nil_inv h4], h⟩
theorem mt_make {c : Nat} {args : List ME} {e : Expr} (h : mt T G S M (.make c args) e = true) : ∃ x p1 es p2, e = .Call (.Name x p1) es [] p2 ∧ (T.classes.lookup x == some c && G x && x != "__debug__" && mts T G S M args es && !args.isEmpty) = true := by
  have h : ((vCall e).any fun z1 => (vName z1.1).any fun z2 => z1.2.2.1.isEmpty && ((T.classes.lookup z2.1 == some c && G z2.1 && z2.1 != ("__debug__" : Str) && mts T G S M args z1.2.1 && !args.isEmpty))) = true := h
  obtain ⟨z1, h0, h⟩ := any_inv h
  obtain ⟨z2, h1, h⟩ := any_inv h
  obtain ⟨h2, h⟩ := and_inv h
  exact ⟨z2.1, z2.2, z1.2.1, z1.2.2.2, by rw [vCall_inv h0, vName_inv h1, nil_inv h2], h⟩
theorem mt_meth {o : ME} {f : Nat} {args : List ME} {e : Expr} (h : mt T G S M (.meth o f args) e = true) : ∃ l x pa es pc, e = .Call (.Attribute l x pa) es [] pc ∧ (M f == some x && mt T G S M o l && mts T G S M args es && pa.endLine == pc.line && decide (es.length < 20)) = true := by
  have h : ((vCall e).any fun z1 => (vAttribute z1.1).any fun z2 => z1.2.2.1.isEmpty && ((M f == some z2.2.1 && mt T G S M o z2.1 && mts T G S M args z1.2.1 && z2.2.2.endLine == z1.2.2.2.line && decide (z1.2.1.length < 20)))) = true := h
  obtain ⟨z1, h0, h⟩ := any_inv h
  obtain ⟨z2, h1, h⟩ := any_inv h
  obtain ⟨h2, h⟩ := and_inv h
  exact ⟨z2.1, z2.2.1, z2.2.2, z1.2.1, z1.2.2.2, by rw [vCall_inv h0, vAttribute_inv h1, nil_inv h2], h⟩
theorem mt_attr {o : ME} {k : Nat} {e : Expr} (h : mt T G S M (.attr o k) e = true) : ∃ l y p1, e = .Attribute l y p1 ∧ (T.attrs[k]? == some y && mt T G S M o l) = true := by
  have h : ((vAttribute e).any fun z1 => (T.attrs[k]? == some z1.2.1 && mt T G S M o z1.1)) = true := h
  obtain ⟨z1, h0, h⟩ := any_inv h
  exact ⟨z1.1, z1.2.1, z1.2.2, by rw [vAttribute_inv h0], h⟩
theorem mt_idx {a i : ME} {e : Expr} (h : mt T G S M (.idx a i) e = true) : ∃ l r p1, e = .Subscript l r p1 ∧ (mt T G S M a l && mt T G S M i r) = true := by
  have h : ((vSubscript e).any fun z1 => (mt T G S M a z1.1 && mt T G S M i z1.2.1)) = true := h
  obtain ⟨z1, h0, h⟩ := any_inv h
  exact ⟨z1.1, z1.2.1, z1.2.2, by rw [vSubscript_inv h0], h⟩
theorem mt_sliceTo {own : Bool} {a k : ME} {e : Expr} (h : mt T G S M (.sliceTo own a k) e = true) : ∃ l r p1 p2, e = .Subscript l (.Slice none (some r) none p1) p2 ∧ (mt T G S M a l && mt T G S M k r) = true := by
  have h : ((vSubscript e).any fun z1 => (vSlice z1.2.1).any fun z2 => z2.1.isNone && ((z2.2.1).any fun z3 => z2.2.2.1.isNone && ((mt T G S M a z1.1 && mt T G S M k z3)))) = true := h
  obtain ⟨z1, h0, h⟩ := any_inv h
  obtain ⟨z2, h1, h⟩ := any_inv h
  obtain ⟨h2, h⟩ := and_inv h
  obtain ⟨z3, h3, h⟩ := any_inv h
  obtain ⟨h4, h⟩ := and_inv h
  exact ⟨z1.1, z3, z2.2.2.2, z1.2.2, by rw [vSubscript_inv h0, vSlice_inv h1, non_inv h2, h3, non_inv h4], h⟩
theorem mt_sliceFrom {own : Bool} {a k : ME} {e : Expr} (h : mt T G S M (.sliceFrom own a k) e = true) : ∃ l r p1 p2, e = .Subscript l (.Slice (some r) none none p1) p2 ∧ (mt T G S M a l && mt T G S M k r) = true := by
  have h : ((vSubscript e).any fun z1 => (vSlice z1.2.1).any fun z2 => (z2.1).any fun z3 => z2.2.1.isNone && (z2.2.2.1.isNone && ((mt T G S M a z1.1 && mt T G S M k z3)))) = true := h
  obtain ⟨z1, h0, h⟩ := any_inv h
  obtain ⟨z2, h1, h⟩ := any_inv h
  obtain ⟨z3, h2, h⟩ := any_inv h
  obtain ⟨h3, h⟩ := and_inv h
  obtain ⟨h4, h⟩ := and_inv h
  exact ⟨z1.1, z3, z2.2.2.2, z1.2.2, by rw [vSubscript_inv h0, vSlice_inv h1, h2, non_inv h3, non_inv h4], h⟩
theorem mt_tup {es : List ME} {e : Expr} (h : mt T G S M (.tup es) e = true) : ∃ l p1 p2, e = .Tuple l p1 p2 ∧ (mts T G S M es l && decide (l.length ≤ 1000)) = true := by
  have h : ((vTuple e).any fun z1 => (mts T G S M es z1.1 && decide (z1.1.length ≤ 1000))) = true := h
  obtain ⟨z1, h0, h⟩ := any_inv h
  exact ⟨z1.1, z1.2.1, z1.2.2, by rw [vTuple_inv h0], h⟩
theorem mt_lst {own : Bool} {es : List ME} {e : Expr} (h : mt T G S M (.lst own es) e = true) : ∃ l p1, e = .List l p1 ∧ (mts T G S M es l && decide (l.length ≤ 1000)) = true := by
  have h : ((vList e).any fun z1 => (mts T G S M es z1.1 && decide (z1.1.length ≤ 1000))) = true := h
  obtain ⟨z1, h0, h⟩ := any_inv h
  exact ⟨z1.1, z1.2, by rw [vList_inv h0], h⟩
theorem mt_sumAt {k i : Nat} {e : Expr} (h : mt T G S M (.sumAt k i) e = true) : ∃ x p1 y p2 cc p3 p4 p5 gs sc p6 p7, e = .Call (.Name x p1) [(.ListComp (.Subscript (.Name y p2) (.Constant cc p3 p4) p5) gs sc p6)] [] p7 ∧ (x == "sum" && G x && y != "__debug__" && decide (cc = .int (k : Int)) && scOk y sc && (one gs).any fun g => gOk y g && (vName g.iter).any fun q => S[i]? == some q.1 && q.1 != ("__debug__" : Str)) = true := by
  have h : ((vCall e).any fun z1 => (vName z1.1).any fun z2 => (one z1.2.1).any fun z3 => (vListComp z3).any fun z4 => (vSubscript z4.1).any fun z5 => (vName z5.1).any fun z6 => (vConstant z5.2.1).any fun z7 => z1.2.2.1.isEmpty && ((z2.1 == ("sum" : Str) && G z2.1 && z6.1 != ("__debug__" : Str) && decide (z7.1 = .int (k : Int)) && scOk z6.1 z4.2.2.1 && (one z4.2.1).any fun g => gOk z6.1 g && (vName g.iter).any fun q => S[i]? == some q.1 && q.1 != (("__debug__" : Str) : Str)))) = true := h
  obtain ⟨z1, h0, h⟩ := any_inv h
  obtain ⟨z2, h1, h⟩ := any_inv h
  obtain ⟨z3, h2, h⟩ := any_inv h
  obtain ⟨z4, h3, h⟩ := any_inv h
  obtain ⟨z5, h4, h⟩ := any_inv h
  obtain ⟨z6, h5, h⟩ := any_inv h
  obtain ⟨z7, h6, h⟩ := any_inv h
  obtain ⟨h7, h⟩ := and_inv h
  exact ⟨z2.1, z2.2, z6.1, z6.2, z7.1, z7.2.1, z7.2.2, z5.2.2, z4.2.1, z4.2.2.1, z4.2.2.2, z1.2.2.2, by rw [vCall_inv h0, vName_inv h1, one_inv h2, vListComp_inv h3, vSubscript_inv h4, vName_inv h5, vConstant_inv h6, nil_inv h7], h⟩
theorem mt_rev {e₁ : ME} {e : Expr} (h : mt T G S M (.rev e₁) e = true) : ∃ l p1 p2 p3 p4 p5, e = .Subscript l (.Slice none none (some (.UnaryOp .USub (.Constant (.int 1) p1 p2) p3)) p4) p5 ∧ (mt T G S M e₁ l) = true := by
  have h : ((vSubscript e).any fun z1 => (vSlice z1.2.1).any fun z2 => z2.1.isNone && (z2.2.1.isNone && ((z2.2.2.1).any fun z3 => (vUnaryOp z3).any fun z4 => decide (z4.1 = .USub) && ((vConstant z4.2.1).any fun z5 => decide (z5.1 = (.int 1)) && ((mt T G S M e₁ z1.1)))))) = true := h
  obtain ⟨z1, h0, h⟩ := any_inv h
  obtain ⟨z2, h1, h⟩ := any_inv h
  obtain ⟨h2, h⟩ := and_inv h
  obtain ⟨h3, h⟩ := and_inv h
  obtain ⟨z3, h4, h⟩ := any_inv h
  obtain ⟨z4, h5, h⟩ := any_inv h
  obtain ⟨h6, h⟩ := and_inv h
  obtain ⟨z5, h7, h⟩ := any_inv h
  obtain ⟨h8, h⟩ := and_inv h
  exact ⟨z1.1, z5.2.1, z5.2.2, z4.2.2, z2.2.2.2, z1.2.2, by rw [vSubscript_inv h0, vSlice_inv h1, non_inv h2, non_inv h3, h4, vUnaryOp_inv h5, of_decide_eq_true h6, vConstant_inv h7, of_decide_eq_true h8], h⟩
theorem mt_strMul {s : Str} {e₁ : ME} {e : Expr} (h : mt T G S M (.strMul s e₁) e = true) : ∃ p1 p2 r p3, e = .BinOp (.Constant (.str s) p1 p2) .Mult r p3 ∧ (mt T G S M e₁ r) = true := by
  have h : ((vBinOp e).any fun z1 => (vConstant z1.1).any fun z2 => decide (z2.1 = (.str s)) && (decide (z1.2.1 = .Mult) && ((mt T G S M e₁ z1.2.2.1)))) = true := h
  obtain ⟨z1, h0, h⟩ := any_inv h
  obtain ⟨z2, h1, h⟩ := any_inv h
  obtain ⟨h2, h⟩ := and_inv h
  obtain ⟨h3, h⟩ := and_inv h
  exact ⟨z2.2.1, z2.2.2, z1.2.2.1, z1.2.2.2, by rw [vBinOp_inv h0, vConstant_inv h1, of_decide_eq_true h2, of_decide_eq_true h3], h⟩
theorem ms_expr {e₁ : ME} {e : Stmt} (h : ms T G S M (.expr e₁) e = true) : ∃ y p1, e = .Expr y p1 ∧ (mt T G S M e₁ y) = true := by
  have h : ((wExpr e).any fun z1 => (mt T G S M e₁ z1.1)) = true := h
  obtain ⟨z1, h0, h⟩ := any_inv h
  exact ⟨z1.1, z1.2, by rw [wExpr_inv h0], h⟩
theorem ms_append {o e₁ : ME} {e : Stmt} (h : ms T G S M (.append o e₁) e = true) : ∃ l x pa y pc p1, e = .Expr (.Call (.Attribute l x pa) [y] [] pc) p1 ∧ (x == "append" && mt T G S M o l && mt T G S M e₁ y && pa.endLine == pc.line) = true := by
  have h : ((wExpr e).any fun z1 => (vCall z1.1).any fun z2 => (vAttribute z2.1).any fun z3 => (one z2.2.1).any fun z4 => z2.2.2.1.isEmpty && ((z3.2.1 == ("append" : Str) && mt T G S M o z3.1 && mt T G S M e₁ z4 && z3.2.2.endLine == z2.2.2.2.line))) = true := h
  obtain ⟨z1, h0, h⟩ := any_inv h
  obtain ⟨z2, h1, h⟩ := any_inv h
  obtain ⟨z3, h2, h⟩ := any_inv h
  obtain ⟨z4, h3, h⟩ := any_inv h
  obtain ⟨h4, h⟩ := and_inv h
  exact ⟨z3.1, z3.2.1, z3.2.2, z4, z2.2.2.2, z1.2, by rw [wExpr_inv h0, vCall_inv h1, vAttribute_inv h2, one_inv h3, nil_inv h4], h⟩
theorem ms_assign {i : Nat} {e₁ : ME} {e : Stmt} (h : ms T G S M (.assign i e₁) e = true) : ∃ x p1 y p2, e = .Assign [(.Name x p1)] y p2 ∧ (S[i]? == some x && mt T G S M e₁ y) = true := by
  have h : ((wAssign e).any fun z1 => (one z1.1).any fun z2 => (vName z2).any fun z3 => (S[i]? == some z3.1 && mt T G S M e₁ z1.2.1)) = true := h
  obtain ⟨z1, h0, h⟩ := any_inv h
  obtain ⟨z2, h1, h⟩ := any_inv h
  obtain ⟨z3, h2, h⟩ := any_inv h
  exact ⟨z3.1, z3.2, z1.2.1, z1.2.2, by rw [wAssign_inv h0, one_inv h1, vName_inv h2], h⟩
theorem ms_unpack {is : List Nat} {e₁ : ME} {e : Stmt} (h : ms T G S M (.unpack is e₁) e = true) : ∃ ts p1 p2 y p3, e = .Assign [(.Tuple ts p1 p2)] y p3 ∧ (targets S is ts && mt T G S M e₁ y && tupOk is ts y) = true := by
  have h : ((wAssign e).any fun z1 => (one z1.1).any fun z2 => (vTuple z2).any fun z3 => (targets S is z3.1 && mt T G S M e₁ z1.2.1 && tupOk is z3.1 z1.2.1)) = true := h
  obtain ⟨z1, h0, h⟩ := any_inv h
  obtain ⟨z2, h1, h⟩ := any_inv h
  obtain ⟨z3, h2, h⟩ := any_inv h
  exact ⟨z3.1, z3.2.1, z3.2.2, z1.2.1, z1.2.2, by rw [wAssign_inv h0, one_inv h1, vTuple_inv h2], h⟩
theorem ms_setattr {o : ME} {k : Nat} {e₁ : ME} {e : Stmt} (h : ms T G S M (.setattr o k e₁) e = true) : ∃ l y p1 r p2, e = .Assign [(.Attribute l y p1)] r p2 ∧ (T.attrs[k]? == some y && mt T G S M o l && mt T G S M e₁ r) = true := by
  have h : ((wAssign e).any fun z1 => (one z1.1).any fun z2 => (vAttribute z2).any fun z3 => (T.attrs[k]? == some z3.2.1 && mt T G S M o z3.1 && mt T G S M e₁ z1.2.1)) = true := h
  obtain ⟨z1, h0, h⟩ := any_inv h
  obtain ⟨z2, h1, h⟩ := any_inv h
  obtain ⟨z3, h2, h⟩ := any_inv h
  exact ⟨z3.1, z3.2.1, z3.2.2, z1.2.1, z1.2.2, by rw [wAssign_inv h0, one_inv h1, vAttribute_inv h2], h⟩
theorem ms_setitem {o k e₁ : ME} {e : Stmt} (h : ms T G S M (.setitem o k e₁) e = true) : ∃ l r p1 y p2, e = .Assign [(.Subscript l r p1)] y p2 ∧ (mt T G S M o l && mt T G S M k r && mt T G S M e₁ y) = true := by
  have h : ((wAssign e).any fun z1 => (one z1.1).any fun z2 => (vSubscript z2).any fun z3 => (mt T G S M o z3.1 && mt T G S M k z3.2.1 && mt T G S M e₁ z1.2.1)) = true := h
  obtain ⟨z1, h0, h⟩ := any_inv h
  obtain ⟨z2, h1, h⟩ := any_inv h
  obtain ⟨z3, h2, h⟩ := any_inv h
  exact ⟨z3.1, z3.2.1, z3.2.2, z1.2.1, z1.2.2, by rw [wAssign_inv h0, one_inv h1, vSubscript_inv h2], h⟩
theorem ms_unpackSub {i : Nat} {o k e₁ : ME} {e : Stmt} (h : ms T G S M (.unpackSub i o k e₁) e = true) : ∃ x p1 l r p2 p3 p4 y p5, e = .Assign [(.Tuple [(.Name x p1), (.Subscript l r p2)] p3 p4)] y p5 ∧ (S[i]? == some x && mt T G S M o l && mt T G S M k r && mt T G S M e₁ y && (vTuple y).isNone) = true := by
  have h : ((wAssign e).any fun z1 => (one z1.1).any fun z2 => (vTuple z2).any fun z3 => (two z3.1).any fun z4 => (vName z4.1).any fun z5 => (vSubscript z4.2).any fun z6 => (S[i]? == some z5.1 && mt T G S M o z6.1 && mt T G S M k z6.2.1 && mt T G S M e₁ z1.2.1 && (vTuple z1.2.1).isNone)) = true := h
  obtain ⟨z1, h0, h⟩ := any_inv h
  obtain ⟨z2, h1, h⟩ := any_inv h
  obtain ⟨z3, h2, h⟩ := any_inv h
  obtain ⟨z4, h3, h⟩ := any_inv h
  obtain ⟨z5, h4, h⟩ := any_inv h
  obtain ⟨z6, h5, h⟩ := any_inv h
  exact ⟨z5.1, z5.2, z6.1, z6.2.1, z6.2.2, z3.2.1, z3.2.2, z1.2.1, z1.2.2, by rw [wAssign_inv h0, one_inv h1, vTuple_inv h2, two_inv h3, vName_inv h4, vSubscript_inv h5], h⟩
theorem ms_unpackL {is : List Nat} {e₁ : ME} {e : Stmt} (h : ms T G S M (.unpackL is e₁) e = true) : ∃ ts p1 p2 y p3, e = .Assign [(.Tuple ts p1 p2)] y p3 ∧ (targets S is ts && mt T G S M e₁ y && (vTuple y).isNone) = true := by
  have h : ((wAssign e).any fun z1 => (one z1.1).any fun z2 => (vTuple z2).any fun z3 => (targets S is z3.1 && mt T G S M e₁ z1.2.1 && (vTuple z1.2.1).isNone)) = true := h
  obtain ⟨z1, h0, h⟩ := any_inv h
  obtain ⟨z2, h1, h⟩ := any_inv h
  obtain ⟨z3, h2, h⟩ := any_inv h
  exact ⟨z3.1, z3.2.1, z3.2.2, z1.2.1, z1.2.2, by rw [wAssign_inv h0, one_inv h1, vTuple_inv h2], h⟩
theorem ms_ite {c : ME} {a b : List MS} {e : Stmt} (h : ms T G S M (.ite c a b) e = true) : ∃ t x y p1, e = .If t x y p1 ∧ (mt T G S M c t && mss T G S M a x && mss T G S M b y) = true := by
  have h : ((wIf e).any fun z1 => (mt T G S M c z1.1 && mss T G S M a z1.2.1 && mss T G S M b z1.2.2.1)) = true := h
  obtain ⟨z1, h0, h⟩ := any_inv h
  exact ⟨z1.1, z1.2.1, z1.2.2.1, z1.2.2.2, by rw [wIf_inv h0], h⟩
theorem ms_forIn {i : Nat} {it : ME} {body : List MS} {e : Stmt} (h : ms T G S M (.forIn i it body) e = true) : ∃ x p1 y b p2, e = .For (.Name x p1) y b [] p2 ∧ (S[i]? == some x && mt T G S M it y && mss T G S M body b) = true := by
  have h : ((wFor e).any fun z1 => (vName z1.1).any fun z2 => z1.2.2.2.1.isEmpty && ((S[i]? == some z2.1 && mt T G S M it z1.2.1 && mss T G S M body z1.2.2.1))) = true := h
  obtain ⟨z1, h0, h⟩ := any_inv h
  obtain ⟨z2, h1, h⟩ := any_inv h
  obtain ⟨h2, h⟩ := and_inv h
  exact ⟨z2.1, z2.2, z1.2.1, z1.2.2.1, z1.2.2.2.2, by rw [wFor_inv h0, vName_inv h1, nil_inv h2], h⟩
theorem ms_forRange {i : Nat} {args : List ME} {body : List MS} {e : Stmt} (h : ms T G S M (.forRange i args body) e = true) : ∃ x p1 y p2 es p3 b p4, e = .For (.Name x p1) (.Call (.Name y p2) es [] p3) b [] p4 ∧ (S[i]? == some x && y == "range" && G y && mts T G S M args es && !args.isEmpty && mss T G S M body b) = true := by
  have h : ((wFor e).any fun z1 => (vName z1.1).any fun z2 => (vCall z1.2.1).any fun z3 => (vName z3.1).any fun z4 => z3.2.2.1.isEmpty && (z1.2.2.2.1.isEmpty && ((S[i]? == some z2.1 && z4.1 == ("range" : Str) && G z4.1 && mts T G S M args z3.2.1 && !args.isEmpty && mss T G S M body z1.2.2.1)))) = true := h
  obtain ⟨z1, h0, h⟩ := any_inv h
  obtain ⟨z2, h1, h⟩ := any_inv h
  obtain ⟨z3, h2, h⟩ := any_inv h
  obtain ⟨z4, h3, h⟩ := any_inv h
  obtain ⟨h4, h⟩ := and_inv h
  obtain ⟨h5, h⟩ := and_inv h
  exact ⟨z2.1, z2.2, z4.1, z4.2, z3.2.1, z3.2.2.2, z1.2.2.1, z1.2.2.2.2, by rw [wFor_inv h0, vName_inv h1, vCall_inv h2, vName_inv h3, nil_inv h4, nil_inv h5], h⟩
theorem ms_forTup {is : List Nat} {it : ME} {body : List MS} {e : Stmt} (h : ms T G S M (.forTup is it body) e = true) : ∃ ts p1 p2 y b p3, e = .For (.Tuple ts p1 p2) y b [] p3 ∧ (targets S is ts && mt T G S M it y && mss T G S M body b) = true := by
  have h : ((wFor e).any fun z1 => (vTuple z1.1).any fun z2 => z1.2.2.2.1.isEmpty && ((targets S is z2.1 && mt T G S M it z1.2.1 && mss T G S M body z1.2.2.1))) = true := h
  obtain ⟨z1, h0, h⟩ := any_inv h
  obtain ⟨z2, h1, h⟩ := any_inv h
  obtain ⟨h2, h⟩ := and_inv h
  exact ⟨z2.1, z2.2.1, z2.2.2, z1.2.1, z1.2.2.1, z1.2.2.2.2, by rw [wFor_inv h0, vTuple_inv h1, nil_inv h2], h⟩
theorem ms_while {fuel : Nat} {c : ME} {body : List MS} {e : Stmt} (h : ms T G S M (.while fuel c body) e = true) : ∃ t b p1, e = .While t b [] p1 ∧ (mt T G S M c t && mss T G S M body b) = true := by
  have h : ((wWhile e).any fun z1 => z1.2.2.1.isEmpty && ((mt T G S M c z1.1 && mss T G S M body z1.2.1))) = true := h
  obtain ⟨z1, h0, h⟩ := any_inv h
  obtain ⟨h1, h⟩ := and_inv h
  exact ⟨z1.1, z1.2.1, z1.2.2.2, by rw [wWhile_inv h0, nil_inv h1], h⟩
theorem ms_ret {e₁ : ME} {e : Stmt} (h : ms T G S M (.ret e₁) e = true) : ∃ x p1, e = .Return (some x) p1 ∧ (mt T G S M e₁ x) = true := by
  have h : ((wReturn e).any fun z1 => (z1.1).any fun z2 => (mt T G S M e₁ z2)) = true := h
  obtain ⟨z1, h0, h⟩ := any_inv h
  obtain ⟨z2, h1, h⟩ := any_inv h
  exact ⟨z2, z1.2, by rw [wReturn_inv h0, h1], h⟩
theorem ms_retNone  {e : Stmt} (h : ms T G S M (.retNone) e = true) : ∃ p1, e = .Return none p1 ∧ (true) = true := by
  have h : ((wReturn e).any fun z1 => z1.1.isNone && ((true))) = true := h
  obtain ⟨z1, h0, h⟩ := any_inv h
  obtain ⟨h1, h⟩ := and_inv h
  exact ⟨z1.2, by rw [wReturn_inv h0, non_inv h1], h⟩
theorem ms_brk  {e : Stmt} (h : ms T G S M (.brk) e = true) : ∃ p1, e = .Break p1 ∧ (true) = true := by
  have h : ((wBreak e).any fun z1 => (true)) = true := h
  obtain ⟨z1, h0, h⟩ := any_inv h
  exact ⟨z1, by rw [wBreak_inv h0], h⟩
theorem ms_cont  {e : Stmt} (h : ms T G S M (.cont) e = true) : ∃ p1, e = .Continue p1 ∧ (true) = true := by
  have h : ((wContinue e).any fun z1 => (true)) = true := h
  obtain ⟨z1, h0, h⟩ := any_inv h
  exact ⟨z1, by rw [wContinue_inv h0], h⟩
theorem ms_pass  {e : Stmt} (h : ms T G S M (.pass) e = true) : ∃ p1, e = .Pass p1 ∧ (true) = true := by
  have h : ((wPass e).any fun z1 => (true)) = true := h
  obtain ⟨z1, h0, h⟩ := any_inv h
  exact ⟨z1, by rw [wPass_inv h0], h⟩
theorem ms_raise {x : Str} {k : Nat} {s : Str} {e : Stmt} (h : ms T G S M (.raise x k s) e = true) : ∃ y p1 p2 p3 p4 p5, e = .Raise (some (.Call (.Name y p1) [(.Constant (.str s) p2 p3)] [] p4)) none p5 ∧ (x == y && G y && x != "__debug__" && nmX T k x) = true := by
  have h : ((wRaise e).any fun z1 => (z1.1).any fun z2 => (vCall z2).any fun z3 => (vName z3.1).any fun z4 => (one z3.2.1).any fun z5 => (vConstant z5).any fun z6 => decide (z6.1 = (.str s)) && (z3.2.2.1.isEmpty && (z1.2.1.isNone && ((x == z4.1 && G z4.1 && x != ("__debug__" : Str) && nmX T k x))))) = true := h
  obtain ⟨z1, h0, h⟩ := any_inv h
  obtain ⟨z2, h1, h⟩ := any_inv h
  obtain ⟨z3, h2, h⟩ := any_inv h
  obtain ⟨z4, h3, h⟩ := any_inv h
  obtain ⟨z5, h4, h⟩ := any_inv h
  obtain ⟨z6, h5, h⟩ := any_inv h
  obtain ⟨h6, h⟩ := and_inv h
  obtain ⟨h7, h⟩ := and_inv h
  obtain ⟨h8, h⟩ := and_inv h
  exact ⟨z4.1, z4.2, z6.2.1, z6.2.2, z3.2.2.2, z1.2.2, by rw [wRaise_inv h0, h1, vCall_inv h2, vName_inv h3, one_inv h4, vConstant_inv h5, of_decide_eq_true h6, nil_inv h7, non_inv h8], h⟩
theorem ms_try {body hs : List MS} {e : Stmt} (h : ms T G S M (.try body hs) e = true) : ∃ b l p1, e = .Try b l [] [] p1 ∧ (mss T G S M body b && msh T G S M hs l && !hs.isEmpty) = true := by
  have h : ((wTry e).any fun z1 => z1.2.2.1.isEmpty && (z1.2.2.2.1.isEmpty && ((mss T G S M body z1.1 && msh T G S M hs z1.2.1 && !hs.isEmpty)))) = true := h
  obtain ⟨z1, h0, h⟩ := any_inv h
  obtain ⟨h1, h⟩ := and_inv h
  obtain ⟨h2, h⟩ := and_inv h
  exact ⟨z1.1, z1.2.1, z1.2.2.2.2, by rw [wTry_inv h0, nil_inv h1, nil_inv h2], h⟩
noncomputable def okI (n : Nat) : Bool := n.beq 0 || n.beq 2 || n.beq 3 || n.beq 15 || n.beq 16 || n.beq 19 || n.beq 20 || n.beq 21 || n.beq 23 || n.beq 24 || n.beq 25
theorem mt_ok {me : ME} {e : Expr} (h : mt T G S M me e = true) : okI e.ctorIdx = true := by
  cases me with
  | var _ => obtain ⟨_, _, rfl, _⟩ := mt_var h; rfl
  | cint _ => obtain ⟨_, _, rfl, _⟩ := mt_cint h; rfl
  | cstr _ => obtain ⟨_, _, rfl, _⟩ := mt_cstr h; rfl
  | cnone => obtain ⟨_, _, rfl, _⟩ := mt_cnone h; rfl
  | cbool _ => obtain ⟨_, _, rfl, _⟩ := mt_cbool h; rfl
  | gint _ _ => obtain ⟨_, _, rfl, _⟩ := mt_gint h; rfl
  | gstr _ _ => obtain ⟨_, _, rfl, _⟩ := mt_gstr h; rfl
  | bin _ _ _ => obtain ⟨_, _, _, _, rfl, _⟩ := mt_bin h; rfl
  | neg _ => obtain ⟨_, _, rfl, _⟩ := mt_neg h; rfl
  | not _ => obtain ⟨_, _, rfl, _⟩ := mt_not h; rfl
  | and _ => obtain ⟨_, _, rfl, _⟩ := mt_and h; rfl
  | or _ => obtain ⟨_, _, rfl, _⟩ := mt_or h; rfl
  | cmp _ _ _ => obtain ⟨_, _, _, _, rfl, _⟩ := mt_cmp h; rfl
  | cmp2 _ _ _ _ _ => obtain ⟨_, _, _, _, _, _, rfl, _⟩ := mt_cmp2 h; rfl
  | call _ _ => obtain ⟨_, _, _, _, rfl, _⟩ := mt_call h; rfl
  | bi _ _ => obtain ⟨_, _, _, _, rfl, _⟩ := mt_bi h; rfl
  | copy _ _ => obtain ⟨_, _, _, _, rfl, _⟩ := mt_copy h; rfl
  | isi _ _ => obtain ⟨_, _, _, _, _, _, rfl, _⟩ := mt_isi h; rfl
  | make _ _ => obtain ⟨_, _, _, _, rfl, _⟩ := mt_make h; rfl
  | meth _ _ _ => obtain ⟨_, _, _, _, _, rfl, _⟩ := mt_meth h; rfl
  | attr _ _ => obtain ⟨_, _, _, rfl, _⟩ := mt_attr h; rfl
  | idx _ _ => obtain ⟨_, _, _, rfl, _⟩ := mt_idx h; rfl
  | sliceTo _ _ _ => obtain ⟨_, _, _, _, rfl, _⟩ := mt_sliceTo h; rfl
  | sliceFrom _ _ _ => obtain ⟨_, _, _, _, rfl, _⟩ := mt_sliceFrom h; rfl
  | tup _ => obtain ⟨_, _, _, rfl, _⟩ := mt_tup h; rfl
  | lst _ _ => obtain ⟨_, _, rfl, _⟩ := mt_lst h; rfl
  | sumAt _ _ => obtain ⟨_, _, _, _, _, _, _, _, _, _, _, _, rfl, _⟩ := mt_sumAt h; rfl
  | rev _ => obtain ⟨_, _, _, _, _, _, rfl, _⟩ := mt_rev h; rfl
  | strMul _ _ => obtain ⟨_, _, _, _, rfl, _⟩ := mt_strMul h; rfl
end inv
end Mine
set_option maxRecDepth 100000
namespace Mine
open PySem PySem.W PyProof.Rows

noncomputable abbrev Led := List (Addr × Obj)
noncomputable abbrev tupObj (xs : List Value) (n : Nat) : Obj := { cls := .type "tuple", data := .seq xs.toArray n }
noncomputable abbrev lstObj (xs : List Value) (n : Nat) : Obj := { cls := .type "list", data := .seq xs.toArray n }

/-- the heap that the law found, and where its exception classes lie -/
structure Bas where
  h : Heap
  xs : List Addr

mutual
/-- the value of the model's that a value of ours stands for: B the heap that the law found, imm the unchanging objects made since, ι where the owned ones lie -/
inductive Rep (B : Bas) (imm : Led) (ι : List Addr) : V → Value → Prop where
  | none : Rep B imm ι .none .none
  | bool (b : Bool) : Rep B imm ι (.bool b) (.bool b)
  | int (i : Int) (t : Tok) : Rep B imm ι (.int i) (.int i t)
  | str (s : Str) (t : Tok) : Rep B imm ι (.str s) (.str s t)
  | tup {a : Addr} {vs : List V} {xs : List Value} {n : Nat} : (a, tupObj xs n) ∈ imm → Reps B imm ι vs xs → Rep B imm ι (.tup vs) (.ref a)
  | lst {a : Addr} {vs : List V} {xs : List Value} {n : Nat} : (a, lstObj xs n) ∈ imm → Reps B imm ι vs xs → Rep B imm ι (.lst vs) (.ref a)
  | base {a : Addr} {vs : List V} {xs : List Value} : B.h.IsList a xs.toArray → Reps B imm ι vs xs → Rep B imm ι (.lst vs) (.ref a)
  | loc {i : Nat} {a : Addr} : ι[i]? = some a → Rep B imm ι (.loc i) (.ref a)
  | exc {k : Nat} {a C : Addr} {o : Obj} : (a, o) ∈ imm → B.xs[k]? = some C → o.cls = .ref C → Rep B imm ι (.exc k) (.ref a)
inductive Reps (B : Bas) (imm : Led) (ι : List Addr) : List V → List Value → Prop where
  | nil : Reps B imm ι [] []
  | cons {v : V} {x : Value} {vs : List V} {xs : List Value} : Rep B imm ι v x → Reps B imm ι vs xs → Reps B imm ι (v :: vs) (x :: xs)
end

noncomputable def Ext (imm imm' : Led) (ι ι' : List Addr) : Prop := (∀ p ∈ imm, p ∈ imm') ∧ ∀ (i : Nat) (a : Addr), ι[i]? = some a → ι'[i]? = some a
theorem Ext.refl {imm : Led} {ι : List Addr} : Ext imm imm ι ι := ⟨fun _ h => h, fun _ _ h => h⟩
theorem Ext.trans {i₁ i₂ i₃ : Led} {a₁ a₂ a₃ : List Addr} (x : Ext i₁ i₂ a₁ a₂) (y : Ext i₂ i₃ a₂ a₃) : Ext i₁ i₃ a₁ a₃ := ⟨fun p h => y.1 p (x.1 p h), fun i a h => y.2 i a (x.2 i a h)⟩
theorem Ext.imm {imm : Led} {ι : List Addr} (p : Addr × Obj) : Ext imm (p :: imm) ι ι := ⟨fun _ h => .tail _ h, fun _ _ h => h⟩
theorem Ext.own {imm : Led} {ι : List Addr} (l : List Addr) : Ext imm imm ι (ι ++ l) := ⟨fun _ h => h, fun i a h => by
  rw [List.getElem?_append_left (List.getElem?_eq_some_iff.mp h).1]; exact h⟩

section
variable {B : Bas} {imm imm' : Led} {ι ι' : List Addr}
theorem Reps.mono (x : Ext imm imm' ι ι') {vs : List V} {ys : List Value} (h : Reps B imm ι vs ys) : Reps B imm' ι' vs ys :=
  Reps.rec (motive_1 := fun v y _ => Rep B imm' ι' v y) (motive_2 := fun vs ys _ => Reps B imm' ι' vs ys) .none .bool .int .str (fun hm _ r => .tup (x.1 _ hm) r) (fun hm _ r => .lst (x.1 _ hm) r) (fun hb _ r => .base hb r) (fun h => .loc (x.2 _ _ h)) (fun h q r => .exc (x.1 _ h) q r) .nil (fun _ _ h r => .cons h r) h
theorem Rep.mono (x : Ext imm imm' ι ι') {v : V} {y : Value} (h : Rep B imm ι v y) : Rep B imm' ι' v y := by
  cases (Reps.cons h .nil).mono x with
  | cons h _ => exact h
/-- by the items -/
theorem Reps.ind {p : List V → List Value → Prop} (h0 : p [] []) (h1 : ∀ v x vs xs, Rep B imm ι v x → Reps B imm ι vs xs → p vs xs → p (v :: vs) (x :: xs)) {vs : List V} {xs : List Value} (h : Reps B imm ι vs xs) : p vs xs :=
  Reps.rec (motive_1 := fun _ _ _ => True) (motive_2 := fun vs xs _ => p vs xs) trivial (fun _ => trivial) (fun _ _ => trivial) (fun _ _ => trivial) (fun _ _ _ => trivial) (fun _ _ _ => trivial) (fun _ _ _ => trivial) (fun _ => trivial) (fun _ _ _ => trivial) h0 (fun hv hr _ k => h1 _ _ _ _ hv hr k) h
theorem Reps.length {vs : List V} {ys : List Value} (h : Reps B imm ι vs ys) : ys.length = vs.length :=
  h.ind (p := fun vs ys => ys.length = vs.length) rfl fun _ _ _ _ _ _ k => congrArg (· + 1) k
theorem Reps.get {vs : List V} {ys : List Value} {i : Nat} {v : V} (h : Reps B imm ι vs ys) (hi : vs[i]? = some v) : ∃ y, ys[i]? = some y ∧ Rep B imm ι v y :=
  h.ind (p := fun vs ys => ∀ i : Nat, vs[i]? = some v → ∃ y, ys[i]? = some y ∧ Rep B imm ι v y) (fun _ h => nomatch h) (fun u x vs xs hv hr k i hi => by
    cases i with
    | zero => cases hi; exact ⟨x, rfl, hv⟩
    | succ i => exact k i hi) i hi
theorem Reps.append {vs ws : List V} {xs ys : List Value} (h : Reps B imm ι vs xs) (h' : Reps B imm ι ws ys) : Reps B imm ι (vs ++ ws) (xs ++ ys) :=
  h.ind (p := fun vs xs => Reps B imm ι (vs ++ ws) (xs ++ ys)) h' fun _ _ _ _ hv _ k => .cons hv k
end

/-- the names of fields, the addresses of classes -/
structure Nms where
  attrs : List Str
  classes : List (Addr × Nat)
  nd : attrs.Nodup

/-- the fields of an instance -/
inductive FRep (Z : Nms) (B : Bas) (imm : Led) (ι : List Addr) : List (Nat × V) → List DictEntry → Prop where
  | nil : FRep Z B imm ι [] []
  | cons {k : Nat} {x : Str} {v : V} {y : Value} {hs : Int} {t : Tok} {fs : List (Nat × V)} {es : List DictEntry} : Z.attrs[k]? = some x → Rep B imm ι v y → FRep Z B imm ι fs es → FRep Z B imm ι ((k, v) :: fs) (⟨hs, .str x t, y⟩ :: es)
theorem FRep.mono {Z : Nms} {B : Bas} {imm imm' : Led} {ι ι' : List Addr} (x : Ext imm imm' ι ι') {fs : List (Nat × V)} {es : List DictEntry} (h : FRep Z B imm ι fs es) : FRep Z B imm' ι' fs es := by
  induction h with
  | nil => exact .nil
  | cons q h _ r => exact .cons q (h.mono x) r

/-- what is owned lies in the ledger, object by object -/
inductive Own (Z : Nms) (B : Bas) (imm : Led) (ι₀ : List Addr) : List Addr → Led → Store → Prop where
  | nil : Own Z B imm ι₀ [] [] []
  | list {a : Addr} {xs : List Value} {n : Nat} {vs : List V} {ι : List Addr} {own : Led} {σ : Store} : Reps B imm ι₀ vs xs → Own Z B imm ι₀ ι own σ → Own Z B imm ι₀ (a :: ι) ((a, lstObj xs n) :: own) (.list vs :: σ)
  | inst {x dx C : Addr} {k f : Nat} {es : List DictEntry} {n : Nat} {fs : List (Nat × V)} {ι : List Addr} {own : Led} {σ : Store} : Z.classes[k]? = some (C, f) → FRep Z B imm ι₀ fs es → Own Z B imm ι₀ ι own σ →
      Own Z B imm ι₀ (x :: ι) ((x, instObj C dx) :: (dx, dictOf es n) :: own) (.inst k fs :: σ)
section
variable {Z : Nms} {B : Bas} {imm imm' : Led} {ι₀ ι₁ : List Addr}
theorem Own.mono (x : Ext imm imm' ι₀ ι₁) {ι : List Addr} {own : Led} {σ : Store} (h : Own Z B imm ι₀ ι own σ) : Own Z B imm' ι₁ ι own σ := by
  induction h with
  | nil => exact .nil
  | list h _ r => exact .list (h.mono x) r
  | inst q h _ r => exact .inst q (h.mono x) r
theorem Own.length {ι : List Addr} {own : Led} {σ : Store} (h : Own Z B imm ι₀ ι own σ) : ι.length = σ.length := by
  induction h with
  | nil => rfl
  | list _ _ r => exact congrArg (· + 1) r
  | inst _ _ _ r => exact congrArg (· + 1) r
theorem Own.append {ι ι' : List Addr} {own own' : Led} {σ σ' : Store} (h : Own Z B imm ι₀ ι own σ) (h' : Own Z B imm ι₀ ι' own' σ') : Own Z B imm ι₀ (ι ++ ι') (own ++ own') (σ ++ σ') := by
  induction h with
  | nil => exact h'
  | list q _ r => exact .list q r
  | inst z q _ r => exact .inst z q r
/-- an owned list, and what may lie there instead -/
inductive LAt (Z : Nms) (B : Bas) (imm : Led) (ι₀ ι : List Addr) (own : Led) (σ : Store) (i : Nat) (vs : List V) : Prop
  | mk (a : Addr) (xs : List Value) (n : Nat) (pre post : Led) (h1 : ι[i]? = some a) (h2 : own = pre ++ (a, lstObj xs n) :: post) (h3 : Reps B imm ι₀ vs xs)
    (h4 : ∀ {imm' : Led} {vs' : List V} {xs' : List Value} {n' : Nat}, Ext imm imm' ι₀ ι₀ → Reps B imm' ι₀ vs' xs' → Own Z B imm' ι₀ ι (pre ++ (a, lstObj xs' n') :: post) (σ.set i (.list vs')))
theorem Own.listAt {ι : List Addr} {own : Led} {σ : Store} {i : Nat} {vs : List V} (h : Own Z B imm ι₀ ι own σ) (hi : σ[i]? = some (.list vs)) : LAt Z B imm ι₀ ι own σ i vs := by
  induction h generalizing i with
  | nil => cases hi
  | @list a xs n us ι own σ q r ih =>
    cases i with
    | zero =>
      cases hi
      exact ⟨a, xs, n, [], own, rfl, rfl, q, fun x q' => .list q' (r.mono x)⟩
    | succ i =>
      obtain ⟨b, ys, k, pre, post, h1, h2, h3, h4⟩ := ih hi
      exact ⟨b, ys, k, (a, lstObj xs n) :: pre, post, h1, congrArg _ h2, h3, fun x q' => .list (q.mono x) (h4 x q')⟩
  | @inst x dx C k f es n fs ι own σ z q r ih =>
    cases i with
    | zero => cases hi
    | succ i =>
      obtain ⟨b, ys, k, pre, post, h1, h2, h3, h4⟩ := ih hi
      exact ⟨b, ys, k, (x, instObj C dx) :: (dx, dictOf es n) :: pre, post, h1, congrArg (fun l => _ :: _ :: l) h2, h3, fun x q' => .inst z (q.mono x) (h4 x q')⟩
/-- an owned instance, and what fields it may have instead -/
inductive IAt (Z : Nms) (B : Bas) (imm : Led) (ι₀ ι : List Addr) (own : Led) (σ : Store) (i k : Nat) (fs : List (Nat × V)) : Prop
  | mk (x dx C : Addr) (f : Nat) (es : List DictEntry) (n : Nat) (pre post : Led) (h1 : ι[i]? = some x) (h2 : own = pre ++ (x, instObj C dx) :: (dx, dictOf es n) :: post) (h3 : Z.classes[k]? = some (C, f)) (h4 : FRep Z B imm ι₀ fs es)
    (h5 : ∀ {imm' : Led} {fs' : List (Nat × V)} {es' : List DictEntry} {n' : Nat}, Ext imm imm' ι₀ ι₀ → FRep Z B imm' ι₀ fs' es' → Own Z B imm' ι₀ ι (pre ++ (x, instObj C dx) :: (dx, dictOf es' n') :: post) (σ.set i (.inst k fs')))
theorem Own.instAt {ι : List Addr} {own : Led} {σ : Store} {i k : Nat} {fs : List (Nat × V)} (h : Own Z B imm ι₀ ι own σ) (hi : σ[i]? = some (.inst k fs)) : IAt Z B imm ι₀ ι own σ i k fs := by
  induction h generalizing i with
  | nil => cases hi
  | @list a xs n us ι own σ q r ih =>
    cases i with
    | zero => cases hi
    | succ i =>
      obtain ⟨b, dx, C, f, ys, m, pre, post, h1, h2, h3, h4, h5⟩ := ih hi
      exact ⟨b, dx, C, f, ys, m, (a, lstObj xs n) :: pre, post, h1, congrArg _ h2, h3, h4, fun x q' => .list (q.mono x) (h5 x q')⟩
  | @inst x dx C k' f es n fs' ι own σ z q r ih =>
    cases i with
    | zero =>
      cases hi
      exact ⟨x, dx, C, f, es, n, [], own, rfl, rfl, z, q, fun x q' => .inst z q' (r.mono x)⟩
    | succ i =>
      obtain ⟨b, dx', C', f', ys, m, pre, post, h1, h2, h3, h4, h5⟩ := ih hi
      exact ⟨b, dx', C', f', ys, m, (x, instObj C dx) :: (dx, dictOf es n) :: pre, post, h1, congrArg (fun l => _ :: _ :: l) h2, h3, h4, fun x q' => .inst z (q.mono x) (h5 x q')⟩
end

/-- the state of a frame over its ground h₀; fz: what else must stand (the iterators of the loops around) -/
structure St0 (Z : Nms) (B : Bas) (h₀ : Heap) (L : Addr) (fz : Led) (h : Heap) (m : Str → Option Value) (imm own : Led) (ι : List Addr) (σ : Store) : Prop where
  fr : Fr h₀ L h m
  news : News h₀ L h (own ++ (imm ++ fz))
  nd : ((own ++ (imm ++ fz)).map (·.1)).Nodup
  owned : Own Z B imm ι ι own σ
  base : B.h.StaysIn h₀
/-- the same over some ground: a caught exception turns it -/
noncomputable def St (Z : Nms) (B : Bas) (Gd : Heap → Prop) (L : Addr) (fz : Led) (h : Heap) (m : Str → Option Value) (imm own : Led) (ι : List Addr) (σ : Store) : Prop := ∃ g, Gd g ∧ St0 Z B g L fz h m imm own ι σ
section
variable {Z : Nms} {B : Bas} {Gd : Heap → Prop} {L : Addr} {fz : Led} {h : Heap} {m : Str → Option Value} {imm own : Led} {ι : List Addr} {σ : Store}
noncomputable def St.g (X : St Z B Gd L fz h m imm own ι σ) : Heap := Classical.choose X
theorem St.gd (X : St Z B Gd L fz h m imm own ι σ) : Gd X.g := (Classical.choose_spec X).1
theorem St.s0 (X : St Z B Gd L fz h m imm own ι σ) : St0 Z B X.g L fz h m imm own ι σ := (Classical.choose_spec X).2
theorem St.fr (X : St Z B Gd L fz h m imm own ι σ) : Fr X.g L h m := X.s0.fr
theorem St.news (X : St Z B Gd L fz h m imm own ι σ) : News X.g L h (own ++ (imm ++ fz)) := X.s0.news
theorem St.nd (X : St Z B Gd L fz h m imm own ι σ) : ((own ++ (imm ++ fz)).map (·.1)).Nodup := X.s0.nd
theorem St.owned (X : St Z B Gd L fz h m imm own ι σ) : Own Z B imm ι ι own σ := X.s0.owned
theorem St.base (X : St Z B Gd L fz h m imm own ι σ) : B.h.StaysIn X.g := X.s0.base
end

theorem News.sub {h₀ h : Heap} {L : Addr} {l l' : Led} (N : News h₀ L h l) (hs : ∀ p ∈ l', p ∈ l) : News h₀ L h l' := fun p hp => N p (hs p hp)
/-- the local names -/
noncomputable def LocRel (B : Bas) (imm : Led) (ι : List Addr) (S : List Str) (ρ : Loc) (m : Str → Option Value) : Prop :=
  ∀ (i : Nat) (x : Str) (v : V), S[i]? = some x → ρ[i]? = some (some v) → ∃ y, m x = some y ∧ Rep B imm ι v y
theorem LocRel.mono {B : Bas} {imm imm' : Led} {ι ι' : List Addr} {S : List Str} {ρ : Loc} {m : Str → Option Value} (h : LocRel B imm ι S ρ m) (x : Ext imm imm' ι ι') : LocRel B imm' ι' S ρ m := fun i y v a b =>
  let ⟨z, h1, h2⟩ := h i y v a b
  ⟨z, h1, h2.mono x⟩
theorem nodup_at {S : List Str} (hn : S.Nodup) {i j : Nat} {x : Str} (hi : S[i]? = some x) (hj : S[j]? = some x) : i = j := by
  obtain ⟨a, ha⟩ := List.getElem?_eq_some_iff.mp hi
  obtain ⟨b, hb⟩ := List.getElem?_eq_some_iff.mp hj
  exact (List.getElem_inj hn).mp (ha.trans hb.symm)
theorem LocRel.set {B : Bas} {imm : Led} {ι : List Addr} {S : List Str} {ρ : Loc} {m : Str → Option Value} {i : Nat} {x : Str} {v : V} {y : Value} (h : LocRel B imm ι S ρ m) (hn : S.Nodup) (hx : S[i]? = some x) (hv : Rep B imm ι v y) :
    LocRel B imm ι S (ρ.set i (some v)) (fun z => if z = x then some y else m z) := by
  intro j z w hz hw
  by_cases e : j = i
  · subst e
    rw [hz] at hx; cases hx
    rw [List.getElem?_set] at hw
    split at hw
    · split at hw
      · cases hw; exact ⟨y, by simp, hv⟩
      · cases hw
    · exact absurd rfl ‹_›
  · have hne : z ≠ x := fun q => e (nodup_at hn (q ▸ hz) hx)
    rw [List.getElem?_set_ne (Ne.symm e)] at hw
    obtain ⟨y', h1, h2⟩ := h j z w hz hw
    exact ⟨y', by simp [hne, h1], h2⟩

theorem nodup_new {a : Addr} {o : Obj} {l l' : Led} (hp : l'.Perm ((a, o) :: l)) (nd : (l.map (·.1)).Nodup) (ha : ∀ p ∈ l, p.1 < a) : (l'.map (·.1)).Nodup := by
  refine ((hp.map (·.1)).nodup_iff).mpr ?_
  rw [List.map_cons]
  refine List.nodup_cons.mpr ⟨fun hm => ?_, nd⟩
  obtain ⟨p, hp, e⟩ := List.mem_map.mp hm
  have := ha p hp
  rw [e] at this
  exact Nat.lt_irrefl _ this

section
variable {Z : Nms} {B : Bas} {h₀ : Heap → Prop} {L : Addr} {fz : Led} {h : Heap} {m : Str → Option Value} {imm own : Led} {ι : List Addr} {σ : Store}
theorem St.lt (X : St Z B h₀ L fz h m imm own ι σ) : ∀ p ∈ own ++ (imm ++ fz), p.1 < h.objs.size := fun p hp => Heap.lt_size (X.news p hp).1
theorem St.getImm (X : St Z B h₀ L fz h m imm own ι σ) {p : Addr × Obj} (hp : p ∈ imm) : h.get? p.1 = some p.2 := (X.news p (List.mem_append_right _ (List.mem_append_left _ hp))).1
/-- another heap that keeps all -/
theorem St.keep {h' : Heap} (X : St Z B h₀ L fz h m imm own ι σ) (F : Fr X.g L h' m) (N : News X.g L h' (own ++ (imm ++ fz))) : St Z B h₀ L fz h' m imm own ι σ := ⟨X.g, X.gd, F, N, X.nd, X.owned, X.base⟩
theorem St.keeps {h' : Heap} (X : St Z B h₀ L fz h m imm own ι σ) (k : ∀ b o, h.get? b = some o → h'.get? b = some o) : St Z B h₀ L fz h' m imm own ι σ :=
  ⟨X.g, X.gd, X.fr.keeps k, fun p hp => ⟨k _ _ (X.news p hp).1, (X.news p hp).2⟩, X.nd, X.owned, X.base⟩
/-- a new unchanging object -/
theorem St.newImm {h' : Heap} {a : Addr} {o : Obj} (X : St Z B h₀ L fz h m imm own ι σ) (F : Fr X.g L h' m) (N : News X.g L h' ((a, o) :: (own ++ (imm ++ fz)))) (ha : ∀ p ∈ own ++ (imm ++ fz), p.1 < a) : St Z B h₀ L fz h' m ((a, o) :: imm) own ι σ := by
  have hp : (own ++ (((a, o) :: imm) ++ fz)).Perm ((a, o) :: (own ++ (imm ++ fz))) := List.perm_middle
  exact ⟨X.g, X.gd, F, News.sub N fun p q => hp.mem_iff.mp q, nodup_new hp X.nd ha, X.owned.mono (Ext.imm _), X.base⟩
/-- a new owned list -/
theorem St.newList {h' : Heap} {a : Addr} {vs : List V} {xs : List Value} {n : Nat} (X : St Z B h₀ L fz h m imm own ι σ) (F : Fr X.g L h' m) (N : News X.g L h' ((a, lstObj xs n) :: (own ++ (imm ++ fz)))) (ha : ∀ p ∈ own ++ (imm ++ fz), p.1 < a) (hr : Reps B imm ι vs xs) :
    St Z B h₀ L fz h' m imm (own ++ [(a, lstObj xs n)]) (ι ++ [a]) (σ ++ [.list vs]) := by
  have hp : ((own ++ [(a, lstObj xs n)]) ++ (imm ++ fz)).Perm ((a, lstObj xs n) :: (own ++ (imm ++ fz))) := by
    rw [List.append_assoc]; exact List.perm_middle
  exact ⟨X.g, X.gd, F, News.sub N fun p q => hp.mem_iff.mp q, nodup_new hp X.nd ha, (X.owned.mono (Ext.own _)).append (.list (hr.mono (Ext.own _)) .nil), X.base⟩
theorem St.len (X : St Z B h₀ L fz h m imm own ι σ) : ι.length = σ.length := X.owned.length
theorem St.locNew {a : Addr} (X : St Z B h₀ L fz h m imm own ι σ) : Rep B imm (ι ++ [a]) (.loc σ.length) (.ref a) := .loc (by rw [← X.len]; simp)
end
end Mine
set_option maxRecDepth 100000
set_option linter.unusedVariables false
namespace Mine
open PySem PySem.W PyProof.Rows PySem.Calls

structure Cx where
  prog : Program
  w : World
  K : Frag
  p : Program
  loose : List Str
  mean : ExcName → Option Value
  mg : Str → Option Value
  mb : Str → Option Value
  B : Bas
  T : Tops
  M : Nat → Option Str
  Z : Nms

structure Fx where
  qual : Str
  scope : Scope
  S : List Str
  L : Addr
  f : Addr
  cd : Value
  h₀ : Heap
  base : Heap
  outer : List Env
  A : Around
  A₀ : Around
  fz : Led
  quiet : Bool := false

noncomputable abbrev Fx.env (x : Fx) : Env := envOf x.qual x.scope x.L x.f x.cd
noncomputable def Fx.G (x : Fx) (y : Str) : Bool := x.scope.names.lookup y == some .globalImplicit

/-- the grounds of a frame -/
noncomputable def Gnd (x : Fx) (g : Heap) : Prop := KtsTurn (x.outer.filterMap (·.frame)) x.h₀ g ∧ Below x.A₀ x.base x.outer g ∧ KtsDicts (x.outer.filterMap (·.frame)) g
/-- a frame that is walked: d calls deep at most from here -/
structure Frm (c : Cx) (x : Fx) (d : Nat) : Prop where
  kinB : c.K.In x.base
  topB : Top c.p c.loose c.mean c.mg c.mb x.base
  atB : c.B.h = x.base
  imp : importsNone c.p = true
  frames : x.A.frames = some (x.env :: x.outer)
  calm : x.quiet = false → x.A.handled = none
  kind : x.scope.kind = .function
  loc : ∀ y ∈ x.S, x.scope.names.lookup y = some .local
  nd : x.S.Nodup
  depth : x.A.depth + d + 120 < recursionLimit
  units : x.A.units + 8 * d + 200 < cLine
  tree : c.prog.given.tree = none
  gen : x.scope.isGenerator = false
  coro : x.scope.isCoroutine = false
theorem Frm.kin {c : Cx} {x : Fx} {d : Nat} (F : Frm c x d) {g : Heap} (G : Gnd x g) : c.K.In g := F.kinB.keeps G.2.1.stays
theorem Frm.top {c : Cx} {x : Fx} {d : Nat} (F : Frm c x d) {g : Heap} (G : Gnd x g) : Top c.p c.loose c.mean c.mg c.mb g := F.topB.keeps G.2.1.stays
theorem Frm.seer {c : Cx} {x : Fx} {d : Nat} (F : Frm c x d) {g : Heap} (G : Gnd x g) : g.NoSeer := (F.top G).seer F.imp

/-- an exception of class k has come from a call into this frame -/
noncomputable def Thrown (c : Cx) (x : Fx) (m : Str → Option Value) (imm : Led) (ι : List Addr) (k : Nat) (σ' : Store) (s s' : Shared) (e : Addr) : Prop :=
  (∃ h tk, s' = { s with heap := h, toks := tk }) ∧ ∃ (C : Addr) (g : Heap) (imm' own' : Led) (ι' : List Addr), c.B.xs[k]? = some C ∧ Gnd x g ∧ Ext imm imm' ι ι' ∧ ((own' ++ (imm' ++ x.fz)).map (·.1)).Nodup ∧ Own c.Z c.B imm' ι' ι' own' σ' ∧
    ∃ G t vs, Fr g x.L G m ∧ RaisedS x.base G (x.env :: x.outer) e (.ref C) t vs (own' ++ (imm' ++ x.fz)) s'.heap ∧ G.UpToSlots s'.heap
theorem Thrown.back {c : Cx} {x : Fx} {m : Str → Option Value} {imm imm₁ : Led} {ι ι₁ : List Addr} {k : Nat} {σ' : Store} {s s' : Shared} {e : Addr} {h₁ : Heap} {tk₁ : Nat} (T : Thrown c x m imm₁ ι₁ k σ' { s with heap := h₁, toks := tk₁ } s' e) (hx : Ext imm imm₁ ι ι₁) :
    Thrown c x m imm ι k σ' s s' e := by
  obtain ⟨⟨h, tk, rfl⟩, C, g, imm', own', ι', q, G, hx', r⟩ := T
  exact ⟨⟨h, tk, rfl⟩, C, g, imm', own', ι', q, G, hx.trans hx', r⟩

/-- what is to be shown of an outcome -/
noncomputable def Post {α β : Type} (c : Cx) (x : Fx) (m : Str → Option Value) (imm : Led) (ι : List Addr) (rel : Led → List Addr → α → β → Prop) (r : R α) (Q : β → Shared → Prop) (E : Value → Shared → Prop) (s : Shared) : Prop :=
  match r with
  | .ok v σ' => ∀ y h' tk imm' own' ι', Ext imm imm' ι ι' → St c.Z c.B (Gnd x) x.L x.fz h' m imm' own' ι' σ' → rel imm' ι' v y → Q y { s with heap := h', toks := tk }
  | .exn k σ' => ∀ e s', Thrown c x m imm ι k σ' s s' e → E (.ref e) s'
  | .stuck => False

noncomputable abbrev relV (c : Cx) : Led → List Addr → V → Value → Prop := fun imm ι v y => Rep c.B imm ι v y
noncomputable abbrev relVs (c : Cx) : Led → List Addr → List V → List Value → Prop := fun imm ι v y => Reps c.B imm ι v y
/-- the class of an exception is read the plain way -/
noncomputable def xget (K : Frag) (C : Addr) : Bool := decide (findIn K (.ref C) "__getattribute__" = some (some (.builtin "BaseException.__getattribute__"))) && (decide (findIn K (.ref C) "__getattr__" = some none) && decide (mroIn K C (.type "BaseException") = some true))
/-- what a class of exceptions is in the written part -/
structure ExcAt (c : Cx) (k : Nat) (y : Str) (C : Addr) : Prop where
  ns : nsIn c.K mainGlobals y = some (some (.ref C))
  exc : excIn c.K C [.type "ValueError", .type "Exception", .type "BaseException", .type "object"] "ValueError.__new__" = true
  sub : ∀ j z D, c.T.xs[j]? = some (z, D) → exmOne c.K (.ref C) (.ref D) = some (subX k j) ∧ kitOne c.K (.ref C) (.ref D) = some (subX k j)
  verr : kitOne c.K (.ref C) (.type "ValueError") = some true
  cls : (clsIn c.K C).isSome = true
  plain : xget c.K C = true
  fc : findIn c.K (.ref C) "__class__" = some (some (.builtin "object.__class__"))
  sp : specialIn c.K (.builtin "object.__class__") "__get__" = some (some (.builtin "getset_descriptor.__get__"))
  tk : takesIn c.K (.builtin "object.__class__") = some true
  mro : mroIn c.K C (.type "object") = some true
/-- the names of the top's that the text calls -/
structure TopOk (c : Cx) (P : Prog) : Prop where
  fns : ∀ x f, c.T.fns.lookup x = some f → ∃ d, P.fns.lookup f = some d ∧ nsIn c.K mainGlobals x = some (some (.ref d.addr)) ∧ keepIn c.K (.ref d.addr) = true
  attrs : c.Z.attrs = c.T.attrs
  xs : c.B.xs = c.T.xs.map (·.2)
  exc : ∀ k y C, c.T.xs[k]? = some (y, C) → ExcAt c k y C
  classes : ∀ x k, c.T.classes.lookup x = some k → ∃ C f, c.Z.classes[k]? = some (C, f) ∧ nsIn c.K mainGlobals x = some (some (.ref C)) ∧ keepIn c.K (.ref C) = true
  tInts : ∀ x k, c.T.tint.lookup x = some k → ∃ t, nsIn c.K mainGlobals x = some (some (.int k t))
  tStrs : ∀ x k, c.T.tstr.lookup x = some k → ∃ t, nsIn c.K mainGlobals x = some (some (.str k t))
  boot : ∀ x : Str, x ∈ (["len", "max", "min", "sorted", "sum", "int", "str", "list", "range", "isinstance", "bool", "tuple", "ValueError"] : List Str) → nsIn c.K mainGlobals x = some none

section
variable {c : Cx} {x : Fx} {d : Nat} {Φ : Fns} {P : Prog}

noncomputable def SoundE (c : Cx) (x : Fx) (Φ : Fns) (me : ME) : Prop := ∀ (e : Expr), mt c.T x.G x.S c.M me e = true → ∀ (s : Shared) (imm own : Led) (ι : List Addr) (σ : Store) (ρ : Loc) (m : Str → Option Value) (Q : Value → Shared → Prop) (E : Value → Shared → Prop),
  St c.Z c.B (Gnd x) x.L x.fz s.heap m imm own ι σ → LocRel c.B imm ι x.S ρ m → Post c x m imm ι (relV c) (evalE Φ ρ me σ) Q E s → wpAny (model c.prog c.w) x.A (eval e x.env) Q E s

theorem Post.bind {α β γ : Type} {m : Str → Option Value} {imm : Led} {ι : List Addr} {rel : Led → List Addr → α → β → Prop} {r : R α} {f : α → Store → R γ} {Q' : β → Shared → Prop} {E : Value → Shared → Prop} {s : Shared} {δ : Type} {rel' : Led → List Addr → γ → δ → Prop} {Q : δ → Shared → Prop}
    (h : Post c x m imm ι rel' (r.bind f) Q E s)
    (k : ∀ v σ₁ y h' tk imm' own' ι', Ext imm imm' ι ι' → St c.Z c.B (Gnd x) x.L x.fz h' m imm' own' ι' σ₁ → rel imm' ι' v y → Post c x m imm' ι' rel' (f v σ₁) Q E { s with heap := h', toks := tk } → Q' y { s with heap := h', toks := tk }) :
    Post c x m imm ι rel r Q' E s := by
  cases r with
  | ok v σ₁ =>
    intro y h' tk imm' own' ι' hx hs hr
    refine k v σ₁ y h' tk imm' own' ι' hx hs hr ?_
    have h2 : Post c x m imm ι rel' (f v σ₁) Q E s := h
    revert h2
    cases f v σ₁ with
    | ok v' σ₂ => exact fun h2 y' h'' tk' imm'' own'' ι'' hx' hs' hr' => h2 y' h'' tk' imm'' own'' ι'' (hx.trans hx') hs' hr'
    | exn _ _ => exact fun h2 e s' T => h2 e s' (T.back hx)
    | stuck => exact fun h2 => h2
  | exn _ _ => exact h
  | stuck => exact h

theorem Post.opt {α β : Type} {m : Str → Option Value} {imm : Led} {ι : List Addr} {rel : Led → List Addr → α → β → Prop} {o : Option α} {σ : Store} {Q : β → Shared → Prop} {E : Value → Shared → Prop} {s : Shared} (h : Post c x m imm ι rel (ofOpt o σ) Q E s) :
    ∃ v, o = some v ∧ Post c x m imm ι rel (.ok v σ) Q E s := by
  cases o with
  | none => exact h.elim
  | some v => exact ⟨v, rfl, h⟩

theorem Post.ok {α β : Type} {m : Str → Option Value} {imm own : Led} {ι : List Addr} {rel : Led → List Addr → α → β → Prop} {v : α} {σ : Store} {Q : β → Shared → Prop} {E : Value → Shared → Prop} {s : Shared} (h : Post c x m imm ι rel (.ok v σ) Q E s) {y : β} {tk : Nat}
    (X : St c.Z c.B (Gnd x) x.L x.fz s.heap m imm own ι σ) (hr : rel imm ι v y) : Q y { s with toks := tk } := h y s.heap tk imm own ι Ext.refl X hr

/-- two subexpressions, then an operation -/
theorem sound_two {a b : ME} {l r : Expr} {g : V → V → Store → R V} {t : Value → Value → Sem Value} {s : Shared} {imm own : Led} {ι : List Addr} {σ : Store} {ρ : Loc} {m : Str → Option Value} {Q : Value → Shared → Prop} {E : Value → Shared → Prop}
    (ha : SoundE c x Φ a) (hb : SoundE c x Φ b) (ma : mt c.T x.G x.S c.M a l = true) (mb : mt c.T x.G x.S c.M b r = true) (X : St c.Z c.B (Gnd x) x.L x.fz s.heap m imm own ι σ) (hl : LocRel c.B imm ι x.S ρ m)
    (h : Post c x m imm ι (relV c) ((evalE Φ ρ a σ).bind fun v σ => (evalE Φ ρ b σ).bind fun w σ => g v w σ) Q E s)
    (op : ∀ v w y z (s : Shared) imm own ι σ, St c.Z c.B (Gnd x) x.L x.fz s.heap m imm own ι σ → Rep c.B imm ι v y → Rep c.B imm ι w z → Post c x m imm ι (relV c) (g v w σ) Q E s → wpAny (model c.prog c.w) x.A (t y z) Q E s) :
    wpAny (model c.prog c.w) x.A (eval l x.env) (fun y s₁ => wpAny (model c.prog c.w) x.A (eval r x.env) (fun z s₂ => wpAny (model c.prog c.w) x.A (t y z) Q E s₂) E s₁) E s := by
  refine ha l ma s imm own ι σ ρ m _ E X hl (Post.bind h fun v σ₁ y h' tk imm' own' ι' hx X' hr h₁ => ?_)
  refine hb r mb _ imm' own' ι' σ₁ ρ m _ E X' (hl.mono hx) (Post.bind h₁ fun w σ₂ z h'' tk' imm'' own'' ι'' hx' X'' hr' h₂ => ?_)
  exact op v w y z _ imm'' own'' ι'' σ₂ X'' (hr.mono hx') hr' h₂

theorem sound_var {i : Nat} (F : Frm c x d) : SoundE c x Φ (.var i) := by
  intro e hm s imm own ι σ ρ m Q E X hl h
  obtain ⟨y, p, rfl, hy⟩ := mt_var hm
  simp only [Bool.and_eq_true, beq_iff_eq, bne_iff_ne, ne_eq] at hy
  obtain ⟨hy, hd⟩ := hy
  simp only [ee_var, ee_cint, ee_cstr, ee_cnone, ee_cbool, ee_gint, ee_gstr, ee_bin, ee_neg, ee_not, ee_and, ee_or, ee_cmp, ee_cmp2, ee_call, ee_bi, ee_copy, ee_isi, ee_make, ee_meth, ee_attr, ee_idx, ee_sliceTo, ee_sliceFrom, ee_tup, ee_lst, ee_sumAt, ee_rev, ee_strMul] at h
  cases hv : ρ[i]? with
  | none => rw [hv] at h; exact h.elim
  | some o =>
    cases o with
    | none => rw [hv] at h; exact h.elim
    | some v =>
      rw [hv] at h
      obtain ⟨z, hz, hr⟩ := hl i y v hy hv
      refine ld X.fr hz ?_ F.kind ?_ (by simpa using hd)
      · exact Post.ok h (tk := s.toks) X hr
      · exact F.loc y (List.mem_of_getElem? hy)

theorem inv_int {B : Bas} {imm : Led} {ι : List Addr} {i : Int} {y : Value} (h : Rep B imm ι (.int i) y) : ∃ t, y = .int i t := by cases h; exact ⟨_, rfl⟩
theorem inv_bool {B : Bas} {imm : Led} {ι : List Addr} {i : Bool} {y : Value} (h : Rep B imm ι (.bool i) y) : y = .bool i := by cases h; rfl
theorem inv_none {B : Bas} {imm : Led} {ι : List Addr} {y : Value} (h : Rep B imm ι .none y) : y = .none := by cases h; rfl
theorem inv_str {B : Bas} {imm : Led} {ι : List Addr} {i : Str} {y : Value} (h : Rep B imm ι (.str i) y) : ∃ t, y = .str i t := by cases h; exact ⟨_, rfl⟩

theorem sound_cint {k : Int} : SoundE c x Φ (.cint k) := by
  intro e hm s imm own ι σ ρ m Q E X hl h
  obtain ⟨p1, p2, rfl, _⟩ := mt_cint hm
  exact wpAny_Constant_int (Post.ok h X (.int _ _))
theorem sound_cstr {k : Str} : SoundE c x Φ (.cstr k) := by
  intro e hm s imm own ι σ ρ m Q E X hl h
  obtain ⟨p1, p2, rfl, _⟩ := mt_cstr hm
  exact Calls.Constant_str (Post.ok h X (.str _ _))
theorem sound_cnone : SoundE c x Φ .cnone := by
  intro e hm s imm own ι σ ρ m Q E X hl h
  obtain ⟨p1, p2, rfl, _⟩ := mt_cnone hm
  exact Constant_none (Post.ok h (tk := s.toks) X .none)
theorem sound_cbool {b : Bool} : SoundE c x Φ (.cbool b) := by
  intro e hm s imm own ι σ ρ m Q E X hl h
  obtain ⟨p1, p2, rfl, _⟩ := mt_cbool hm
  exact Constant_bool (Post.ok h (tk := s.toks) X (.bool _))
theorem Fx.glob {y : Str} (h : x.G y = true) : x.env.kindOf y = some .globalImplicit := by
  have := beq_iff_eq.mp h
  exact this
theorem sound_gint {y : Str} {k : Int} (F : Frm c x d) (TK : TopOk c P) : SoundE c x Φ (.gint y k) := by
  intro e hm s imm own ι σ ρ m Q E X hl h
  obtain ⟨z, p1, rfl, hk⟩ := mt_gint hm
  simp only [Bool.and_eq_true, beq_iff_eq, bne_iff_ne, ne_eq] at hk
  obtain ⟨⟨⟨rfl, hg⟩, hd⟩, hi⟩ := hk
  obtain ⟨t, ht⟩ := TK.tInts y k hi
  exact name_K X.fr (F.kin X.gd) (topRead_of (F.top X.gd)) ht (Post.ok h (tk := s.toks) X (.int _ _)) F.kind (Fx.glob hg) (by simpa using hd)
theorem sound_gstr {y : Str} {k : Str} (F : Frm c x d) (TK : TopOk c P) : SoundE c x Φ (.gstr y k) := by
  intro e hm s imm own ι σ ρ m Q E X hl h
  obtain ⟨z, p1, rfl, hk⟩ := mt_gstr hm
  simp only [Bool.and_eq_true, beq_iff_eq, bne_iff_ne, ne_eq] at hk
  obtain ⟨⟨⟨rfl, hg⟩, hd⟩, hi⟩ := hk
  obtain ⟨t, ht⟩ := TK.tStrs y k hi
  exact name_K X.fr (F.kin X.gd) (topRead_of (F.top X.gd)) ht (Post.ok h (tk := s.toks) X (.str _ _)) F.kind (Fx.glob hg) (by simpa using hd)

/-- a list at hand -/
theorem St.isList {Z : Nms} {B : Bas} {h₀ : Heap → Prop} {L : Addr} {fz : Led} {h : Heap} {m : Str → Option Value} {imm own : Led} {ι : List Addr} {σ : Store} (X : St Z B h₀ L fz h m imm own ι σ) {v : V} {y : Value} {vs : List V} (hr : Rep B imm ι v y) (hv : listOf σ v = some vs) :
    ∃ a xs, y = .ref a ∧ h.IsList a xs.toArray ∧ Reps B imm ι vs xs := by
  cases hr with
  | lst hm r =>
    simp only [listOf, Option.some.injEq] at hv; subst hv
    exact ⟨_, _, rfl, ⟨_, X.getImm hm, rfl, _, rfl⟩, r⟩
  | base hb r =>
    simp only [listOf, Option.some.injEq] at hv; subst hv
    obtain ⟨o, ho, q⟩ := hb
    exact ⟨_, _, rfl, ⟨o, X.fr.keep _ _ (X.base _ _ ho), q⟩, r⟩
  | loc hi =>
    simp only [listOf] at hv
    split at hv
    · rename_i vs' hs
      cases hv
      obtain ⟨a, xs, n, pre, post, h1, h2, h3, _⟩ := X.owned.listAt hs
      have hia := Option.some.inj (h1.symm.trans hi)
      subst hia
      exact ⟨_, xs, rfl, ⟨_, (X.news (_, lstObj xs n) (List.mem_append_left _ (by rw [h2]; simp))).1, rfl, _, rfl⟩, h3⟩
    · cases hv
  | none => simp [listOf] at hv
  | bool b => simp [listOf] at hv
  | int i t => simp [listOf] at hv
  | str s t => simp [listOf] at hv
  | tup _ _ => simp [listOf] at hv
  | exc _ _ _ => simp [listOf] at hv
theorem St.isTup {Z : Nms} {B : Bas} {h₀ : Heap → Prop} {L : Addr} {fz : Led} {h : Heap} {m : Str → Option Value} {imm own : Led} {ι : List Addr} {σ : Store} (X : St Z B h₀ L fz h m imm own ι σ) {y : Value} {vs : List V} (hr : Rep B imm ι (.tup vs) y) :
    ∃ a xs, y = .ref a ∧ IsTup h a xs.toArray ∧ Reps B imm ι vs xs := by
  cases hr with
  | tup hm r => exact ⟨_, _, rfl, ⟨_, X.getImm hm, rfl, _, rfl⟩, r⟩

theorem sound_binop (F : Frm c x d) {op : Operator} {v w : V} {y z : Value} {s : Shared} {imm own : Led} {ι : List Addr} {σ : Store} {m : Str → Option Value} {Q : Value → Shared → Prop} {E : Value → Shared → Prop}
    (X : St c.Z c.B (Gnd x) x.L x.fz s.heap m imm own ι σ) (hv : Rep c.B imm ι v y) (hw : Rep c.B imm ι w z) (h : Post c x m imm ι (relV c) (ofOpt (binV σ op v w) σ) Q E s) : wpAny (model c.prog c.w) x.A (binaryOp op y z) Q E s := by
  obtain ⟨r, hr, h⟩ := Post.opt h
  cases op with
  | Add =>
    rcases Option.or_eq_some_iff.mp hr with hr | ⟨_, hr⟩
    · obtain ⟨a, b, rfl, rfl, hr2⟩ := on2_inv hr
      clear hr
      have hr := hr2
      cases hr; obtain ⟨t, rfl⟩ := inv_int hv; obtain ⟨u, rfl⟩ := inv_int hw
      exact P.add_int (Post.ok h X (.int _ _))
    · obtain ⟨xs, e1, hr⟩ := Option.bind_eq_some_iff.mp hr
      obtain ⟨ys, e2, hr⟩ := Option.bind_eq_some_iff.mp hr
      split at hr
      · rename_i hz
        cases hr
        obtain ⟨a, as, rfl, ha, ra⟩ := X.isList hv e1
        obtain ⟨b, bs, rfl, hb, rb⟩ := X.isList hw e2
        refine add_lists X.fr X.news ha hb (fun h' F' N' => ?_) (by rw [ra.length, rb.length, sizeLine_eq]; omega)
        refine h _ h' s.toks _ own ι (Ext.imm _) (X.newImm F' N' fun p hp => X.lt p hp) ?_
        exact .lst (.head _) ((ra.append rb).mono (Ext.imm _))
      · cases hr
  | Sub =>
    obtain ⟨a, b, rfl, rfl, hr2⟩ := on2_inv hr
    clear hr
    have hr := hr2
    cases hr; obtain ⟨t, rfl⟩ := inv_int hv; obtain ⟨u, rfl⟩ := inv_int hw
    exact P.sub_int (Post.ok h X (.int _ _))
  | Mult =>
    obtain ⟨a, b, rfl, rfl, hr2⟩ := on2_inv (f := mulF) hr
    clear hr
    have hr := hr2
    unfold mulF at hr
    obtain ⟨t, rfl⟩ := inv_int hv; obtain ⟨u, rfl⟩ := inv_int hw
    split at hr
    · rename_i hc
      cases hr
      refine P.mul_int (Post.ok h X (.int _ _)) ?_
      rcases hc with (hc | hc) | hc
      · exact IntMulOk.of_left hc
      · exact IntMulOk.of_right hc
      · exact IntMulOk.of_bits hc.1 hc.2
    · cases hr
  | FloorDiv =>
    obtain ⟨a, b, rfl, rfl, hr2⟩ := on2_inv (f := divF) hr
    clear hr
    have hr := hr2
    unfold divF at hr
    obtain ⟨t, rfl⟩ := inv_int hv; obtain ⟨u, rfl⟩ := inv_int hw
    split at hr
    · cases hr
    · rename_i hc
      cases hr
      refine floordiv_int hc (Post.ok h X (.int _ _)) (.inr (PylongRoom.of ((F.top X.gd).nolimit.keeps X.fr.keep) ?_ (SeerAt.of ((F.seer X.gd).keeps X.fr.keep) F.tree F.frames F.gen F.coro rfl rfl)))
      have := F.depth
      simp only [Builtin.pylongFrames]
      omega
  | Mod =>
    obtain ⟨a, b, rfl, rfl, hr2⟩ := on2_inv (f := modF) hr
    clear hr
    have hr := hr2
    unfold modF at hr
    obtain ⟨t, rfl⟩ := inv_int hv; obtain ⟨u, rfl⟩ := inv_int hw
    split at hr
    · cases hr
    · rename_i hc
      cases hr
      exact mod_int' hc (Post.ok h X (.int _ _))
  | Pow =>
    obtain ⟨a, b, rfl, rfl, hr2⟩ := on2_inv (f := powF) hr
    clear hr
    have hr := hr2
    unfold powF at hr
    obtain ⟨t, rfl⟩ := inv_int hv; obtain ⟨u, rfl⟩ := inv_int hw
    split at hr
    · rename_i hc
      cases hr
      exact pow_int hc.1 hc.2 (Post.ok h X (.int _ _))
    · cases hr
  | _ => cases hr
theorem sound_bin (F : Frm c x d) {op : Operator} {a b : ME} (ha : SoundE c x Φ a) (hb : SoundE c x Φ b) : SoundE c x Φ (.bin op a b) := by
  intro e hm s imm own ι σ ρ m Q E X hl h
  obtain ⟨l, o, r, p, rfl, hk⟩ := mt_bin hm
  simp only [Bool.and_eq_true, beq_iff_eq] at hk
  obtain ⟨⟨rfl, h1⟩, h2⟩ := hk
  simp only [ee_var, ee_cint, ee_cstr, ee_cnone, ee_cbool, ee_gint, ee_gstr, ee_bin, ee_neg, ee_not, ee_and, ee_or, ee_cmp, ee_cmp2, ee_call, ee_bi, ee_copy, ee_isi, ee_make, ee_meth, ee_attr, ee_idx, ee_sliceTo, ee_sliceFrom, ee_tup, ee_lst, ee_sumAt, ee_rev, ee_strMul] at h
  exact wpAny_BinOp (sound_two ha hb h1 h2 X hl h fun v w y z s imm own ι σ X hv hw h => sound_binop F X hv hw h)
end
end Mine
set_option maxRecDepth 100000
set_option linter.unusedVariables false
namespace Mine
open PySem PySem.W PyProof.Rows PySem.Calls

mutual
noncomputable def pd : V → PyData
  | .none => .none
  | .bool b => .bool b
  | .int i => .int i
  | .str x => .str x
  | .tup vs => .tuple (pds vs)
  | .lst vs => .list (pds vs)
  | .loc _ => .none
  | .exc _ => .none
noncomputable def pds : List V → List PyData
  | [] => []
  | v :: vs => pd v :: pds vs
end
section
variable {c : Cx} {x : Fx} {d : Nat} {Φ : Fns} {P : Prog}
section
variable {Z : Nms} {B : Bas} {h₀ : Heap → Prop} {L : Addr} {fz : Led} {h : Heap} {m : Str → Option Value} {imm own : Led} {ι : List Addr} {σ : Store}
theorem pds_of {n : Nat} (ih : ∀ {v : V} {y : Value}, Rep B imm ι v y → plain n v = true → ∃ as, Reads h y (pd v) as) : ∀ {vs : List V} {ys : List Value}, Reps B imm ι vs ys → (∀ v ∈ vs, plain n v = true) → ∃ as, ReadsAll h ys (pds vs) as
  | _, _, .nil, _ => ⟨_, ReadsAll.nil⟩
  | _, _, .cons hd r, hk => by
    obtain ⟨as, q⟩ := ih hd (hk _ (.head _))
    obtain ⟨bs, p⟩ := pds_of ih r fun d hm => hk d (.tail _ hm)
    rw [pds]
    exact ⟨_, ReadsAll.cons q p⟩
theorem pd_reads (X : St Z B h₀ L fz h m imm own ι σ) : ∀ (n : Nat) {v : V} {y : Value}, Rep B imm ι v y → plain n v = true → ∃ as, Reads h y (pd v) as := by
  intro n
  induction n with
  | zero =>
    intro v y hr hk
    cases hr with
    | none => exact ⟨_, Reads.none⟩
    | int i t => exact ⟨_, Reads.int i t⟩
    | _ => exact Bool.noConfusion (show false = true from hk)
  | succ n ih =>
    intro v y hr hk
    cases hr with
    | none => exact ⟨_, Reads.none⟩
    | int i t => exact ⟨_, Reads.int i t⟩
    | tup hm r =>
      obtain ⟨as, q⟩ := pds_of ih r (by simpa [plain] using hk)
      rw [pd]
      exact ⟨as, reads_tuple_at (X.getImm hm) rfl rfl (by simpa using q)⟩
    | lst hm r =>
      obtain ⟨as, q⟩ := pds_of ih r (by simpa [plain] using hk)
      rw [pd]
      exact ⟨_, reads_list_at (X.getImm hm) rfl rfl (by simpa using q)⟩
    | base hb r =>
      obtain ⟨as, q⟩ := pds_of ih r (by simpa [plain] using hk)
      rw [pd]
      obtain ⟨o, ho, h1, k, h2⟩ := hb
      exact ⟨_, reads_list_at (X.fr.keep _ _ (X.base _ _ ho)) h1 h2 (by simpa using q)⟩
    | _ => exact Bool.noConfusion (show false = true from hk)
theorem pds_reads (X : St Z B h₀ L fz h m imm own ι σ) {vs : List V} {ys : List Value} (n : Nat) (r : Reps B imm ι vs ys) (hk : ∀ v ∈ vs, plain n v = true) : ∃ as, ReadsAll h ys (pds vs) as := pds_of (pd_reads X n) r hk
end
theorem pd_lay : ∀ (n : Nat) (v : V), plain n v = true → (pd v).canLay0 = true ∧ (pd v).depth ≤ n := by
  have all : ∀ (n : Nat), (∀ v, plain n v = true → (pd v).canLay0 = true ∧ (pd v).depth ≤ n) → ∀ vs : List V, (∀ v ∈ vs, plain n v = true) → PyData.canLayAll0 (pds vs) = true ∧ PyData.depthAll (pds vs) ≤ n := by
    intro n ih vs
    induction vs with
    | nil => intro _; simp [pds, PyData.canLayAll0, PyData.depthAll]
    | cons v vs hi =>
      intro h
      have h1 := ih v (h v (.head _))
      have h2 := hi fun e he => h e (.tail _ he)
      simp only [pds, PyData.canLayAll0, PyData.depthAll, h1.1, h2.1, Bool.and_self, true_and]
      have a1 := h1.2
      have a2 := h2.2
      omega
  intro n
  induction n with
  | zero =>
    intro v h
    cases v <;> simp_all [plain, pd, PyData.canLay0, PyData.depth]
  | succ n ih =>
    intro v h
    cases v with
    | none => simp [pd, PyData.canLay0, PyData.depth]
    | bool b => simp [plain] at h
    | int i => simp [pd, PyData.canLay0, PyData.depth]
    | str s => simp [plain] at h
    | loc i => simp [plain] at h
    | exc i => simp [plain] at h
    | tup vs =>
      have q := all n ih vs (by simpa [plain] using h)
      have q2 := q.2
      simp only [pd, PyData.canLay0, PyData.depth, q.1, true_and]
      omega
    | lst vs =>
      have q := all n ih vs (by simpa [plain] using h)
      have q2 := q.2
      simp only [pd, PyData.canLay0, PyData.depth, q.1, true_and]
      omega
theorem pd_eqv : ∀ (n : Nat) (v u : V) (k : Nat), plain n v = true → plain k u = true → (PyData.eqv (pd v) (pd u) = true ↔ v = u) := by
  have all : ∀ (n : Nat), (∀ v u k, plain n v = true → plain k u = true → (PyData.eqv (pd v) (pd u) = true ↔ v = u)) → ∀ (k : Nat) (vs us : List V), (∀ v ∈ vs, plain n v = true) → (∀ v ∈ us, plain k v = true) →
      (PyData.eqvAll (pds vs) (pds us) = true ↔ vs = us) := by
    intro n ih k vs
    induction vs with
    | nil => intro us _ _; cases us <;> simp [pds, PyData.eqvAll]
    | cons v vs hi =>
      intro us h1 h2
      cases us with
      | nil => simp [pds, PyData.eqvAll]
      | cons u us =>
        have q1 := ih v u k (h1 v (.head _)) (h2 u (.head _))
        have q2 := hi us (fun x hx => h1 x (.tail _ hx)) fun x hx => h2 x (.tail _ hx)
        simp only [pds, PyData.eqvAll, Bool.and_eq_true, q1, q2, List.cons.injEq]
  intro n
  induction n with
  | zero =>
    intro v u k h1 h2
    cases v <;> cases u <;> cases k <;> simp_all [plain, pd, PyData.eqv]
  | succ n ih =>
    intro v u k h1 h2
    cases v with
    | tup vs =>
      cases u with
      | tup us =>
        cases k with
        | zero => simp [plain] at h2
        | succ k =>
          simp only [pd, PyData.eqv, V.tup.injEq]
          exact all n ih k vs us (by simpa [plain] using h1) (by simpa [plain] using h2)
      | _ => cases k <;> simp_all [plain, pd, PyData.eqv]
    | lst vs =>
      cases u with
      | lst us =>
        cases k with
        | zero => simp [plain] at h2
        | succ k =>
          simp only [pd, PyData.eqv, V.lst.injEq]
          exact all n ih k vs us (by simpa [plain] using h1) (by simpa [plain] using h2)
      | _ => cases k <;> simp_all [plain, pd, PyData.eqv]
    | _ => cases u <;> cases k <;> simp_all [plain, pd, PyData.eqv]

theorem seen_reads {Z : Nms} {B : Bas} {h₀ : Heap → Prop} {L : Addr} {fz : Led} {h : Heap} {m : Str → Option Value} {imm own : Led} {ι : List Addr} {σ : Store} (X : St Z B h₀ L fz h m imm own ι σ) {v : V} {y : Value} (hr : Rep B imm ι v y) (hp : plain 8 (seen σ v) = true) : ∃ as, Reads h y (pd (seen σ v)) as := by
  unfold seen at hp ⊢
  cases e : listOf σ v with
  | none =>
    simp only [e] at hp ⊢
    exact pd_reads X 8 hr hp
  | some vs =>
    simp only [e] at hp ⊢
    obtain ⟨a, xs, rfl, ⟨o, ho, h1, k, h2⟩, rs⟩ := X.isList hr e
    obtain ⟨as, q⟩ := pds_reads X 7 rs (by simpa [plain] using hp)
    rw [pd]
    exact ⟨_, reads_list_at ho h1 h2 (by simpa using q)⟩

open Classical in
theorem eqV_cases {σ : Store} {v w : V} {b : Bool} (h : eqV σ v w = some b) :
    (∃ s t, v = .str s ∧ w = .str t ∧ b = decide (s = t)) ∨ (plain 8 (seen σ v) = true ∧ plain 8 (seen σ w) = true ∧ b = decide (seen σ v = seen σ w)) := by
  unfold eqV at h
  split at h
  · cases h; exact .inl ⟨_, _, rfl, rfl, by congr⟩
  · right
    split at h
    · rename_i hc
      cases h
      exact ⟨hc.1, hc.2, rfl⟩
    · cases h

open Classical in
theorem sound_eq (F : Frm c x d) {v w : V} {y z : Value} {s : Shared} {imm own : Led} {ι : List Addr} {σ : Store} {m : Str → Option Value} {Q : Value → Shared → Prop} {E : Value → Shared → Prop} {b : Bool}
    (X : St c.Z c.B (Gnd x) x.L x.fz s.heap m imm own ι σ) (hv : Rep c.B imm ι v y) (hw : Rep c.B imm ι w z) (h : eqV σ v w = some b) (hq : ∀ tk, Q (.bool b) { s with toks := tk }) : wpAny (model c.prog c.w) x.A (compareOp .Eq y z) Q E s := by
  have hu := F.units
  rcases eqV_cases h with ⟨p, q, rfl, rfl, rfl⟩ | ⟨p, q, rfl⟩
  · obtain ⟨t, rfl⟩ := inv_str hv; obtain ⟨u, rfl⟩ := inv_str hw
    refine PyProof.Rows.eq_str ?_
    have := hq s.toks
    by_cases e : p = q
    · subst e; simpa using this
    · have e2 : (p == q) = false := by simpa using e
      rw [e2]; rw [decide_eq_false e] at this; exact this
  · obtain ⟨as, ra⟩ := seen_reads X hv p
    obtain ⟨bs, rb⟩ := seen_reads X hw q
    have la := pd_lay 8 _ p
    have lb := pd_lay 8 _ q
    refine SeqAt.compareEq_reads ra rb la.1 lb.1 ?_ ?_
    · have := la.2
      have h3 : min (pd (seen σ v)).depth (pd (seen σ w)).depth ≤ (pd (seen σ v)).depth := Nat.min_le_left _ _
      omega
    · have e : PyData.eqv (pd (seen σ v)) (pd (seen σ w)) = decide (seen σ v = seen σ w) := by
        have k := pd_eqv 8 _ _ 8 p q
        by_cases hq : seen σ v = seen σ w
        · rw [decide_eq_true hq]; exact k.mpr hq
        · rw [decide_eq_false hq]; exact Bool.eq_false_iff.mpr fun x => hq (k.mp x)
      rw [e]; exact hq s.toks
open Classical in
theorem sound_ne (F : Frm c x d) {v w : V} {y z : Value} {s : Shared} {imm own : Led} {ι : List Addr} {σ : Store} {m : Str → Option Value} {Q : Value → Shared → Prop} {E : Value → Shared → Prop} {b : Bool}
    (X : St c.Z c.B (Gnd x) x.L x.fz s.heap m imm own ι σ) (hv : Rep c.B imm ι v y) (hw : Rep c.B imm ι w z) (h : eqV σ v w = some b) (hq : ∀ tk, Q (.bool (!b)) { s with toks := tk }) : wpAny (model c.prog c.w) x.A (compareOp .NotEq y z) Q E s := by
  have hu := F.units
  rcases eqV_cases h with ⟨p, q, rfl, rfl, rfl⟩ | ⟨p, q, rfl⟩
  · obtain ⟨t, rfl⟩ := inv_str hv; obtain ⟨u, rfl⟩ := inv_str hw
    refine PyProof.Rows.ne_str ?_
    have := hq s.toks
    by_cases e : p = q
    · subst e; simpa using this
    · have e2 : (p != q) = true := by simpa using e
      rw [e2]; rw [decide_eq_false e] at this; exact this
  · obtain ⟨as, ra⟩ := seen_reads X hv p
    obtain ⟨bs, rb⟩ := seen_reads X hw q
    have la := pd_lay 8 _ p
    have lb := pd_lay 8 _ q
    refine SeqAt.compareNe_reads ra rb la.1 lb.1 ?_ ?_
    · have := la.2
      have h3 : min (pd (seen σ v)).depth (pd (seen σ w)).depth ≤ (pd (seen σ v)).depth := Nat.min_le_left _ _
      omega
    · have e : PyData.eqv (pd (seen σ v)) (pd (seen σ w)) = decide (seen σ v = seen σ w) := by
        have k := pd_eqv 8 _ _ 8 p q
        by_cases hq : seen σ v = seen σ w
        · rw [decide_eq_true hq]; exact k.mpr hq
        · rw [decide_eq_false hq]; exact Bool.eq_false_iff.mpr fun x => hq (k.mp x)
      rw [e]; exact hq s.toks
end
end Mine
set_option maxRecDepth 100000
set_option linter.unusedVariables false
namespace Mine
open PySem PySem.W PyProof.Rows PySem.Calls
section
variable {c : Cx} {x : Fx} {d : Nat} {Φ : Fns} {P : Prog}

theorem sound_cmpop (F : Frm c x d) {op : CmpOp} {v w : V} {y z : Value} {s : Shared} {imm own : Led} {ι : List Addr} {σ : Store} {m : Str → Option Value} {Q : Value → Shared → Prop} {E : Value → Shared → Prop}
    (X : St c.Z c.B (Gnd x) x.L x.fz s.heap m imm own ι σ) (hv : Rep c.B imm ι v y) (hw : Rep c.B imm ι w z) (h : Post c x m imm ι (relV c) (ofOpt (cmpV σ op v w) σ) Q E s) : wpAny (model c.prog c.w) x.A (compareOp op y z) Q E s := by
  obtain ⟨r, hr, h⟩ := Post.opt h
  have fin : ∀ b : Bool, r = .bool b → ∀ tk, Q (.bool b) { s with toks := tk } := fun b e tk => by
    subst e; exact Post.ok h X (.bool b)
  have two : ∀ {f : Int → Int → Option V} {op : CmpOp}, on2 v w f = some r → (∀ a b t u, f a b = some r → wpAny (model c.prog c.w) x.A (compareOp op (.int a t) (.int b u)) Q E s) → wpAny (model c.prog c.w) x.A (compareOp op y z) Q E s := by
    intro f op hr k
    obtain ⟨a, b, rfl, rfl, hr2⟩ := on2_inv hr
    obtain ⟨t, rfl⟩ := inv_int hv; obtain ⟨u, rfl⟩ := inv_int hw
    exact k a b t u hr2
  have nn : isNone v = false → y ≠ .none := by
    rintro q rfl
    cases hv
    cases q
  cases op with
  | Lt => exact two hr fun a b t u e => P.lt_int (fin _ (Option.some.inj e).symm s.toks)
  | LtE => exact two hr fun a b t u e => P.le_int (fin _ (Option.some.inj e).symm s.toks)
  | Gt => exact two hr fun a b t u e => P.gt_int (fin _ (Option.some.inj e).symm s.toks)
  | GtE => exact two hr fun a b t u e => P.ge_int (fin _ (Option.some.inj e).symm s.toks)
  | Eq =>
    obtain ⟨b, hb, rfl⟩ := Option.map_eq_some_iff.mp hr
    exact sound_eq F X hv hw hb (fin _ rfl)
  | NotEq =>
    obtain ⟨b, hb, rfl⟩ := Option.map_eq_some_iff.mp hr
    exact sound_ne F X hv hw hb (fin _ rfl)
  | Is =>
    have hr2 : (if isNone w = true then some (V.bool (isNone v)) else Option.none) = some r := hr
    clear hr
    split at hr2
    · rename_i q
      have hr := hr2
      clear hr2
      obtain rfl := isNone_inv q
      obtain rfl := inv_none hw
      cases q2 : isNone v with
      | true => rw [q2] at hr; obtain rfl := isNone_inv q2; obtain rfl := inv_none hv; exact is_none_none (fin _ (Option.some.inj hr).symm s.toks)
      | false => rw [q2] at hr; exact is_none_ne (nn q2) (fin _ (Option.some.inj hr).symm s.toks)
    · cases hr2
  | IsNot =>
    have hr2 : (if isNone w = true then some (V.bool (!isNone v)) else Option.none) = some r := hr
    clear hr
    split at hr2
    · rename_i q
      have hr := hr2
      clear hr2
      obtain rfl := isNone_inv q
      obtain rfl := inv_none hw
      cases q2 : isNone v with
      | true => rw [q2] at hr; obtain rfl := isNone_inv q2; obtain rfl := inv_none hv; exact isnot_none_none (fin _ (Option.some.inj hr).symm s.toks)
      | false => rw [q2] at hr; exact isnot_none_ne (nn q2) (fin _ (Option.some.inj hr).symm s.toks)
    · cases hr2
  | _ => cases hr

/-- what e can't be -/
theorem mt_head {T : Tops} {G : Str → Bool} {S : List Str} {M : Nat → Option Str} {me : ME} {e : Expr} (h : mt T G S M me e = true) :
    (∀ q p, e ≠ .Starred q p) ∧ (∀ a b q p, e ≠ .Slice a b q p) ∧ (∀ a b q p, e ≠ .ListComp a b q p) ∧ (∀ a b q p, e ≠ .SetComp a b q p) ∧ (∀ a b q r p, e ≠ .DictComp a b q r p) ∧ (∀ a b p, e ≠ .Set a b p) ∧ (∀ a b q p, e ≠ .IfExp a b q p) := by
  have k := mt_ok h
  refine ⟨?_, ?_, ?_, ?_, ?_, ?_, ?_⟩ <;> (intros; rintro rfl; exact Bool.noConfusion (show false = true from k))

theorem star_cons {T : Tops} {G : Str → Bool} {S : List Str} {M : Nat → Option Str} {me : ME} {e : Expr} {rest : List Expr} {env : Env} (h : mt T G S M me e = true) : starEach (e :: rest) env = (false, eval e env) :: starEach rest env := by
  have := (mt_head h).1
  cases e <;> first | rfl | exact absurd rfl (this _ _)
theorem star_none {T : Tops} {G : Str → Bool} {S : List Str} {M : Nat → Option Str} {pos : Pos} {env : Env} : ∀ {mes : List ME} {es : List Expr}, mts T G S M mes es = true → (backTo pos (starEach es env)).any (·.1) = false
  | [], [], _ => rfl
  | [], _ :: _, h => by first | cases mts_n h | cases h
  | _ :: _, [], h => by first | cases mts_n h | cases h
  | me :: mes, e :: es, h => by
    simp only [mts, List.head?_cons, Option.any_some, List.tail_cons, Bool.and_eq_true] at h
    rw [star_cons h.1]
    simpa [backTo] using star_none (pos := pos) (env := env) h.2
theorem marks_no {T : Tops} {G : Str → Bool} {S : List Str} {M : Nat → Option Str} {me : ME} {e : Expr} {op : CmpOp} (h : mt T G S M me e = true) : behindInMarks op e = false := by
  have := (mt_head h).2.2.2.2.2.1
  cases e <;> first | rfl | exact absurd rfl (this _ _ _)
theorem swaps_no {T : Tops} {G : Str → Bool} {S : List Str} {M : Nat → Option Str} {me : ME} {e : Expr} {t : Option Expr} {l : Nat} {env : Env} (h : mt T G S M me e = true) : swapsWith e t l env = pure false := by
  have h1 := (mt_head h).2.2.1
  have h2 := (mt_head h).2.2.2.1
  have h3 := (mt_head h).2.2.2.2.1
  cases e <;> first | rfl | exact absurd rfl (h1 _ _ _ _) | exact absurd rfl (h2 _ _ _ _) | exact absurd rfl (h3 _ _ _ _ _)
theorem fold_no {T : Tops} {G : Str → Bool} {S : List Str} {M : Nat → Option Str} {me : ME} {e : Expr} {env : Env} (h : mt T G S M me e = true) : ∀ v, foldedSetIterable e env v = pure v := by
  have := (mt_head h).2.2.2.2.2.1
  intro v
  cases e <;> first | rfl | exact absurd rfl (this _ _ _)
theorem sub_plain {T : Tops} {G : Str → Bool} {S : List Str} {M : Nat → Option Str} {me : ME} {e : Expr} {o i : Value} (h : mt T G S M me e = true) : subscripted e false o i = operate [o, i] (getItem o i) := by
  have := (mt_head h).2.1
  cases e <;> first | rfl | exact absurd rfl (this _ _ _ _)

noncomputable def SoundEs (c : Cx) (x : Fx) (Φ : Fns) (mes : List ME) : Prop := ∀ (es : List Expr) (pos : Pos), mts c.T x.G x.S c.M mes es = true → ∀ (s : Shared) (imm own : Led) (ι : List Addr) (σ : Store) (ρ : Loc) (m : Str → Option Value) (Q : List Value → Shared → Prop) (E : Value → Shared → Prop),
  St c.Z c.B (Gnd x) x.L x.fz s.heap m imm own ι σ → LocRel c.B imm ι x.S ρ m → Post c x m imm ι (relVs c) (evalEs Φ ρ mes σ) Q E s → wpAny (model c.prog c.w) x.A (spliced (backTo pos (starEach es x.env))) Q E s

theorem sound_nil : SoundEs c x Φ [] := by
  intro es pos hm s imm own ι σ ρ m Q E X hl h
  cases es with
  | cons _ _ => (first | cases mts_n hm | cases mts_n hm.2 | (exact Bool.noConfusion (show false = true from hm)) | exact Bool.noConfusion (show false = true from hm.2))
  | nil =>
    simp only [es_0, es_1] at h
    exact args_nil (Post.ok h (tk := s.toks) X .nil)
theorem sound_cons {me : ME} {mes : List ME} (h1 : SoundE c x Φ me) (h2 : SoundEs c x Φ mes) : SoundEs c x Φ (me :: mes) := by
  intro es pos hm s imm own ι σ ρ m Q E X hl h
  cases es with
  | nil => (first | cases mts_n hm | cases mts_n hm.2 | (exact Bool.noConfusion (show false = true from hm)) | exact Bool.noConfusion (show false = true from hm.2))
  | cons e es =>
    simp only [mts, List.head?_cons, Option.any_some, List.tail_cons, Bool.and_eq_true] at hm
    simp only [es_0, es_1] at h
    refine args_cons ?_ (star_cons hm.1)
    refine h1 e hm.1 s imm own ι σ ρ m _ E X hl (Post.bind h fun v σ₁ y h' tk imm' own' ι' hx X' hr h₁ => ?_)
    refine h2 es pos hm.2 _ imm' own' ι' σ₁ ρ m _ E X' (hl.mono hx) (Post.bind h₁ fun vs σ₂ ys h'' tk' imm'' own'' ι'' hx' X'' hr' h₂ => ?_)
    exact Post.ok h₂ (tk := tk') X'' (.cons (hr.mono hx') hr')

theorem sound_neg {a : ME} (ha : SoundE c x Φ a) : SoundE c x Φ (.neg a) := by
  intro e hm s imm own ι σ ρ m Q E X hl h
  obtain ⟨l, p, rfl, hk⟩ := mt_neg hm
  simp only [ee_var, ee_cint, ee_cstr, ee_cnone, ee_cbool, ee_gint, ee_gstr, ee_bin, ee_neg, ee_not, ee_and, ee_or, ee_cmp, ee_cmp2, ee_call, ee_bi, ee_copy, ee_isi, ee_make, ee_meth, ee_attr, ee_idx, ee_sliceTo, ee_sliceFrom, ee_tup, ee_lst, ee_sumAt, ee_rev, ee_strMul] at h
  refine UnaryOp_ (ha l hk s imm own ι σ ρ m _ E X hl (Post.bind h fun v σ₁ y h' tk imm' own' ι' hx X' hr h₁ => ?_))
  cases v with
  | int i =>
    obtain ⟨t, rfl⟩ := inv_int hr
    exact P.neg_int (Post.ok h₁ X' (.int _ _))
  | _ => exact h₁.elim

theorem sound_truthy {v : V} {y : Value} {b : Bool} {s : Shared} {B : Bas} {imm : Led} {ι : List Addr} {A : Around} {Q : Bool → Shared → Prop} {E : Value → Shared → Prop} (hr : Rep B imm ι v y) (hb : truth v = some b) (hq : Q b s) : wpAny (model c.prog c.w) A (truthy y) Q E s := by
  cases hr with
  | none => simp [truth] at hb; subst hb; exact truthy_none hq
  | bool b' => simp [truth] at hb; subst hb; exact wpAny_truthy_bool hq
  | int i t => simp only [truth, Option.some.injEq] at hb; subst hb; exact P.truthy_int hq
  | _ => simp [truth] at hb

theorem sound_not {a : ME} (ha : SoundE c x Φ a) : SoundE c x Φ (.not a) := by
  intro e hm s imm own ι σ ρ m Q E X hl h
  obtain ⟨l, p, rfl, hk⟩ := mt_not hm
  simp only [ee_var, ee_cint, ee_cstr, ee_cnone, ee_cbool, ee_gint, ee_gstr, ee_bin, ee_neg, ee_not, ee_and, ee_or, ee_cmp, ee_cmp2, ee_call, ee_bi, ee_copy, ee_isi, ee_make, ee_meth, ee_attr, ee_idx, ee_sliceTo, ee_sliceFrom, ee_tup, ee_lst, ee_sumAt, ee_rev, ee_strMul] at h
  refine UnaryOp_ (ha l hk s imm own ι σ ρ m _ E X hl (Post.bind h fun v σ₁ y h' tk imm' own' ι' hx X' hr h₁ => ?_))
  obtain ⟨r, hr', h₁⟩ := Post.opt h₁
  obtain ⟨b, hb, rfl⟩ := Option.map_eq_some_iff.mp hr'
  exact not_of (sound_truthy hr hb (Post.ok h₁ (tk := tk) X' (.bool _)))

theorem sound_cmp (F : Frm c x d) {op : CmpOp} {a b : ME} (ha : SoundE c x Φ a) (hb : SoundE c x Φ b) : SoundE c x Φ (.cmp op a b) := by
  intro e hm s imm own ι σ ρ m Q E X hl h
  obtain ⟨l, o, r, p, rfl, hk⟩ := mt_cmp hm
  simp only [Bool.and_eq_true, beq_iff_eq] at hk
  obtain ⟨⟨rfl, h1⟩, h2⟩ := hk
  simp only [ee_var, ee_cint, ee_cstr, ee_cnone, ee_cbool, ee_gint, ee_gstr, ee_bin, ee_neg, ee_not, ee_and, ee_or, ee_cmp, ee_cmp2, ee_call, ee_bi, ee_copy, ee_isi, ee_make, ee_meth, ee_attr, ee_idx, ee_sliceTo, ee_sliceFrom, ee_tup, ee_lst, ee_sumAt, ee_rev, ee_strMul] at h
  exact wpAny_Compare1 (sound_two ha hb h1 h2 X hl h fun v w y z s imm own ι σ X hv hw h => sound_cmpop F X hv hw h) (marks_no h2)
theorem sound_cmp2 (F : Frm c x d) {o₁ o₂ : CmpOp} {a b e₃ : ME} (ha : SoundE c x Φ a) (hb : SoundE c x Φ b) (hc : SoundE c x Φ e₃) : SoundE c x Φ (.cmp2 o₁ o₂ a b e₃) := by
  intro e hm s imm own ι σ ρ m Q E X hl h
  obtain ⟨l, p₁, p₂, r₁, r₂, p, rfl, hk⟩ := mt_cmp2 hm
  simp only [Bool.and_eq_true, beq_iff_eq] at hk
  obtain ⟨⟨⟨⟨rfl, rfl⟩, h1⟩, h2⟩, h3⟩ := hk
  simp only [ee_var, ee_cint, ee_cstr, ee_cnone, ee_cbool, ee_gint, ee_gstr, ee_bin, ee_neg, ee_not, ee_and, ee_or, ee_cmp, ee_cmp2, ee_call, ee_bi, ee_copy, ee_isi, ee_make, ee_meth, ee_attr, ee_idx, ee_sliceTo, ee_sliceFrom, ee_tup, ee_lst, ee_sumAt, ee_rev, ee_strMul] at h
  refine Compare_chain ?_ (by show lastMarks [o₂] [r₂] = false; exact marks_no h3)
  refine ha l h1 s imm own ι σ ρ m _ E X hl (Post.bind h fun v σ₁ y h' tk imm' own' ι' hx X' hr h₁ => ?_)
  refine chain_link ?_
  refine hb r₁ h2 _ imm' own' ι' σ₁ ρ m _ E X' (hl.mono hx) (Post.bind h₁ fun w σ₂ z h'' tk' imm'' own'' ι'' hx' X'' hr' h₂ => ?_)
  refine sound_cmpop F X'' (hr.mono hx') hr' (Post.bind h₂ fun q σ₃ qy h₃' tk₃ imm₃ own₃ ι₃ hx₃ X₃ hr₃ h₃ => ?_)
  obtain ⟨t, ht⟩ : ∃ t, truth q = some t := by
    cases e : truth q with
    | none => rw [e] at h₃; exact h₃.elim
    | some t => exact ⟨t, rfl⟩
  refine sound_truthy hr₃ ht ?_
  rw [ht] at h₃
  cases t with
  | false => exact Post.ok (tk := tk₃) h₃ X₃ hr₃
  | true =>
    rw [if_pos rfl]
    refine chain_last ?_
    refine hc r₂ h3 _ imm₃ own₃ ι₃ σ₃ ρ m _ E X₃ ((hl.mono hx).mono (hx'.trans hx₃)) (Post.bind h₃ fun u σ₄ uy h₄' tk₄ imm₄ own₄ ι₄ hx₄ X₄ hr₄ h₄ => ?_)
    exact sound_cmpop F X₄ (hr'.mono (hx₃.trans hx₄)) hr₄ h₄

noncomputable def SoundAnd (c : Cx) (x : Fx) (Φ : Fns) (mes : List ME) : Prop := ∀ (es : List Expr) (pos : Pos), mts c.T x.G x.S c.M mes es = true → ∀ (s : Shared) (imm own : Led) (ι : List Addr) (σ : Store) (ρ : Loc) (m : Str → Option Value) (Q : Value → Shared → Prop) (E : Value → Shared → Prop),
  St c.Z c.B (Gnd x) x.L x.fz s.heap m imm own ι σ → LocRel c.B imm ι x.S ρ m → Post c x m imm ι (relV c) (evalAnd Φ ρ mes σ) Q E s → wpAny (model c.prog c.w) x.A (eval (.BoolOp .And es pos) x.env) Q E s
noncomputable def SoundOr (c : Cx) (x : Fx) (Φ : Fns) (mes : List ME) : Prop := ∀ (es : List Expr) (pos : Pos), mts c.T x.G x.S c.M mes es = true → ∀ (s : Shared) (imm own : Led) (ι : List Addr) (σ : Store) (ρ : Loc) (m : Str → Option Value) (Q : Value → Shared → Prop) (E : Value → Shared → Prop),
  St c.Z c.B (Gnd x) x.L x.fz s.heap m imm own ι σ → LocRel c.B imm ι x.S ρ m → Post c x m imm ι (relV c) (evalOr Φ ρ mes σ) Q E s → wpAny (model c.prog c.w) x.A (eval (.BoolOp .Or es pos) x.env) Q E s

theorem sound_and_nil : SoundAnd c x Φ [] := by
  intro es pos hm s imm own ι σ ρ m Q E X hl h
  simp only [ea_0, ea_1] at h
  exact h.elim
theorem sound_or_nil : SoundOr c x Φ [] := by
  intro es pos hm s imm own ι σ ρ m Q E X hl h
  simp only [eo_0, eo_1] at h
  exact h.elim
theorem sound_and_cons {me : ME} {mes : List ME} (h1 : SoundE c x Φ me) (h2 : SoundAnd c x Φ mes) : SoundAnd c x Φ (me :: mes) := by
  intro es pos hm s imm own ι σ ρ m Q E X hl h
  cases es with
  | nil => (first | cases mts_n hm | cases mts_n hm.2 | (exact Bool.noConfusion (show false = true from hm)) | exact Bool.noConfusion (show false = true from hm.2))
  | cons e es =>
    simp only [mts, List.head?_cons, Option.any_some, List.tail_cons, Bool.and_eq_true] at hm
    simp only [ea_0, ea_1] at h
    cases mes with
    | nil =>
      cases es with
      | cons _ _ => (first | cases mts_n hm | cases mts_n hm.2 | (exact Bool.noConfusion (show false = true from hm)) | exact Bool.noConfusion (show false = true from hm.2))
      | nil =>
        refine BoolOp_one (h1 e hm.1 s imm own ι σ ρ m _ E X hl (Post.bind h fun v σ₁ y h' tk imm' own' ι' hx X' hr h₁ => ?_))
        exact Post.ok (tk := tk) h₁ X' hr
    | cons me' mes =>
      cases es with
      | nil => (first | cases mts_n hm | cases mts_n hm.2 | (exact Bool.noConfusion (show false = true from hm)) | exact Bool.noConfusion (show false = true from hm.2))
      | cons e' es =>
        refine BoolOp_and (h1 e hm.1 s imm own ι σ ρ m _ E X hl (Post.bind h fun v σ₁ y h' tk imm' own' ι' hx X' hr h₁ => ?_))
        obtain ⟨t, ht⟩ : ∃ t, truth v = some t := by
          cases e : truth v with
          | none => rw [e] at h₁; exact h₁.elim
          | some t => exact ⟨t, rfl⟩
        refine sound_truthy hr ht ?_
        rw [ht] at h₁
        cases t with
        | false => exact Post.ok (tk := tk) h₁ X' hr
        | true =>
          rw [if_pos rfl]
          exact h2 (e' :: es) pos hm.2 _ imm' own' ι' σ₁ ρ m Q E X' (hl.mono hx) h₁
theorem sound_or_cons {me : ME} {mes : List ME} (h1 : SoundE c x Φ me) (h2 : SoundOr c x Φ mes) : SoundOr c x Φ (me :: mes) := by
  intro es pos hm s imm own ι σ ρ m Q E X hl h
  cases es with
  | nil => (first | cases mts_n hm | cases mts_n hm.2 | (exact Bool.noConfusion (show false = true from hm)) | exact Bool.noConfusion (show false = true from hm.2))
  | cons e es =>
    simp only [mts, List.head?_cons, Option.any_some, List.tail_cons, Bool.and_eq_true] at hm
    simp only [eo_0, eo_1] at h
    cases mes with
    | nil =>
      cases es with
      | cons _ _ => (first | cases mts_n hm | cases mts_n hm.2 | (exact Bool.noConfusion (show false = true from hm)) | exact Bool.noConfusion (show false = true from hm.2))
      | nil =>
        refine BoolOp_one (h1 e hm.1 s imm own ι σ ρ m _ E X hl (Post.bind h fun v σ₁ y h' tk imm' own' ι' hx X' hr h₁ => ?_))
        exact Post.ok (tk := tk) h₁ X' hr
    | cons me' mes =>
      cases es with
      | nil => (first | cases mts_n hm | cases mts_n hm.2 | (exact Bool.noConfusion (show false = true from hm)) | exact Bool.noConfusion (show false = true from hm.2))
      | cons e' es =>
        refine BoolOp_or (h1 e hm.1 s imm own ι σ ρ m _ E X hl (Post.bind h fun v σ₁ y h' tk imm' own' ι' hx X' hr h₁ => ?_))
        obtain ⟨t, ht⟩ : ∃ t, truth v = some t := by
          cases e : truth v with
          | none => rw [e] at h₁; exact h₁.elim
          | some t => exact ⟨t, rfl⟩
        refine sound_truthy hr ht ?_
        rw [ht] at h₁
        cases t with
        | true => exact Post.ok (tk := tk) h₁ X' hr
        | false =>
          rw [if_neg (by simp)]
          exact h2 (e' :: es) pos hm.2 _ imm' own' ι' σ₁ ρ m Q E X' (hl.mono hx) h₁
theorem sound_and {es : List ME} (h1 : SoundAnd c x Φ es) : SoundE c x Φ (.and es) := by
  intro e hm s imm own ι σ ρ m Q E X hl h
  obtain ⟨l, p, rfl, hk⟩ := mt_and hm
  simp only [Bool.and_eq_true] at hk
  simp only [ee_var, ee_cint, ee_cstr, ee_cnone, ee_cbool, ee_gint, ee_gstr, ee_bin, ee_neg, ee_not, ee_and, ee_or, ee_cmp, ee_cmp2, ee_call, ee_bi, ee_copy, ee_isi, ee_make, ee_meth, ee_attr, ee_idx, ee_sliceTo, ee_sliceFrom, ee_tup, ee_lst, ee_sumAt, ee_rev, ee_strMul] at h
  exact h1 l p hk.1 s imm own ι σ ρ m Q E X hl h
theorem sound_or {es : List ME} (h1 : SoundOr c x Φ es) : SoundE c x Φ (.or es) := by
  intro e hm s imm own ι σ ρ m Q E X hl h
  obtain ⟨l, p, rfl, hk⟩ := mt_or hm
  simp only [Bool.and_eq_true] at hk
  simp only [ee_var, ee_cint, ee_cstr, ee_cnone, ee_cbool, ee_gint, ee_gstr, ee_bin, ee_neg, ee_not, ee_and, ee_or, ee_cmp, ee_cmp2, ee_call, ee_bi, ee_copy, ee_isi, ee_make, ee_meth, ee_attr, ee_idx, ee_sliceTo, ee_sliceFrom, ee_tup, ee_lst, ee_sumAt, ee_rev, ee_strMul] at h
  exact h1 l p hk.1 s imm own ι σ ρ m Q E X hl h
end
end Mine
set_option maxRecDepth 100000
set_option linter.unusedVariables false
namespace Mine
open PySem PySem.W PyProof.Rows PySem.Calls

/-- what is to be shown of a call's outcome -/
noncomputable def PostC (c : Cx) (x : Fx) (m : Str → Option Value) (imm : Led) (ι : List Addr) (r : R V) (Q : Result → Shared → Prop) (s : Shared) : Prop :=
  match r with
  | .ok v σ' => ∀ y h' tk imm' own' ι', Ext imm imm' ι ι' → St c.Z c.B (Gnd x) x.L x.fz h' m imm' own' ι' σ' → Rep c.B imm' ι' v y → Q (.ok (.ret y)) { s with heap := h', toks := tk }
  | .exn k σ' => ∀ e s', Thrown c x m imm ι k σ' s s' e → Q (.error (.ref e)) s'
  | .stuck => False

/-- a def does what φ says -/
noncomputable def FnOK (c : Cx) (d : Nat) (D : Fn) (φ : List V → Store → R V) : Prop :=
  ∀ (x : Fx) (m : Str → Option Value) (s : Shared) (imm own : Led) (ι : List Addr) (σ : Store) (vs : List V) (ys : List Value) (Q : Result → Shared → Prop), Frm c x d → (x.quiet = true → D.quiet = true) →
    St c.Z c.B (Gnd x) x.L x.fz s.heap m imm own ι σ → Reps c.B imm ι vs ys → PostC c x m imm ι (φ vs σ) Q s → codeAny (model c.prog c.w) x.A (.call (.ref D.addr) ⟨ys, []⟩) Q s

theorem Frm.less {c : Cx} {x : Fx} {d d' : Nat} (F : Frm c x d) (h : d' ≤ d) : Frm c x d' :=
  ⟨F.kinB, F.topB, F.atB, F.imp, F.frames, F.calm, F.kind, F.loc, F.nd, by have := F.depth; omega, by have := F.units; omega, F.tree, F.gen, F.coro⟩

/-- the defs that a frame may call -/
structure FnsOK (c : Cx) (P : Prog) (d : Nat) (Φ : Fns) : Prop where
  fn : ∀ f vs σ, Φ.fn f vs σ ≠ .stuck → ∃ D, P.fns.lookup f = some D ∧ FnOK c d D (Φ.fn f)
  init : ∀ k f, Φ.init k = some f → ∃ C, c.Z.classes[k]? = some (C, f)
  make : ∀ (k : Nat) (C : Addr) (f : Nat), c.Z.classes[k]? = some (C, f) → ∃ D, P.fns.lookup f = some D ∧ makesIn c.K C = true ∧ findIn c.K (.ref C) "__init__" = some (some (.ref D.addr)) ∧ isFn c.K (.ref D.addr) = true
  meth : ∀ k f, Φ.methOk k f = true → ∃ C g D x, c.Z.classes[k]? = some (C, g) ∧ P.fns.lookup f = some D ∧ c.M f = some x ∧ x ∉ c.Z.attrs ∧ plainGet c.K C x = true ∧ findIn c.K (.ref C) x = some (some (.ref D.addr)) ∧ isFn c.K (.ref D.addr) = true ∧ keepIn c.K (.ref D.addr) = true
  attr : ∀ k j, Φ.attrOk k j = true → ∃ C g x a, c.Z.classes[k]? = some (C, g) ∧ c.Z.attrs[j]? = some x ∧ plainGet c.K C x = true ∧ hasDictIn c.K C = true ∧ findIn c.K (.ref C) x = some a ∧ noGet c.K a = true ∧
    findIn c.K (.ref C) "__setattr__" = some (some (.builtin "object.__setattr__")) ∧ plainOver c.K C = true ∧ takerIn c.K C x = some none

section
variable {c : Cx} {x : Fx} {d : Nat} {Φ : Fns} {P : Prog}

theorem Post.pos {α β : Type} {m : Str → Option Value} {imm : Led} {ι : List Addr} {rel : Led → List Addr → α → β → Prop} {r : R α} {Q : β → Shared → Prop} {s : Shared} (h : Post c x m imm ι rel r Q E s) : r ≠ .stuck := by
  rintro rfl; exact h

/-- a call of a def -/
theorem sound_fncall (F : Frm c x (d + 1)) (FO : FnsOK c P d Φ) {f : Nat} {D : Fn} {vs : List V} {ys : List Value} {s : Shared} {imm own : Led} {ι : List Addr} {σ : Store} {m : Str → Option Value} {Q : Value → Shared → Prop} {E : Value → Shared → Prop}
    (hD : P.fns.lookup f = some D) (hq : x.quiet = true → D.quiet = true) (X : St c.Z c.B (Gnd x) x.L x.fz s.heap m imm own ι σ) (hr : Reps c.B imm ι vs ys) (h : Post c x m imm ι (relV c) (Φ.fn f vs σ) Q E s) : wpAny (model c.prog c.w) x.A (call (.ref D.addr) ys) Q E s := by
  obtain ⟨D', hD', hf⟩ := FO.fn f vs σ h.pos
  rw [hD] at hD'; cases hD'
  refine wpAny_call (hf x m s imm own ι σ vs ys _ (F.less (Nat.le_succ _)) hq X hr ?_)
  revert h
  cases Φ.fn f vs σ with
  | ok v σ' => exact fun h y h' tk imm' own' ι' hx X' hr' => h y h' tk imm' own' ι' hx X' hr'
  | exn _ _ => exact fun h => h
  | stuck => exact fun h => h

theorem sound_call (F : Frm c x (d + 1)) (TK : TopOk c P) (FO : FnsOK c P d Φ) {f : Nat} {args : List ME} (hq : x.quiet = true → ∀ D, P.fns.lookup f = some D → D.quiet = true) (ha : SoundEs c x Φ args) : SoundE c x Φ (.call f args) := by
  intro e hm s imm own ι σ ρ m Q E X hl h
  obtain ⟨y, p1, es, p2, rfl, hk⟩ := mt_call hm
  simp only [Bool.and_eq_true, beq_iff_eq, bne_iff_ne, ne_eq] at hk
  obtain ⟨⟨⟨⟨hf, hg⟩, hd⟩, hs⟩, hne⟩ := hk
  simp only [ee_var, ee_cint, ee_cstr, ee_cnone, ee_cbool, ee_gint, ee_gstr, ee_bin, ee_neg, ee_not, ee_and, ee_or, ee_cmp, ee_cmp2, ee_call, ee_bi, ee_copy, ee_isi, ee_make, ee_meth, ee_attr, ee_idx, ee_sliceTo, ee_sliceFrom, ee_tup, ee_lst, ee_sumAt, ee_rev, ee_strMul] at h
  obtain ⟨D, hD, hn, hkeep⟩ := TK.fns y f hf
  refine Call_ (name_K X.fr (F.kin X.gd) (topRead_of (F.top X.gd)) hn ?_ F.kind (Fx.glob hg) (by simpa using hd))
  cases args with
  | nil => simp at hne
  | cons a args =>
    cases es with
    | nil => (first | cases mts_n hs | cases mts_n hs.2 | (exact Bool.noConfusion (show false = true from hs)) | exact Bool.noConfusion (show false = true from hs.2))
    | cons e es =>
      have hs' := hs
      simp only [mts, List.head?_cons, Option.any_some, List.tail_cons, Bool.and_eq_true] at hs
      refine callWith_K (F.kin X.gd) hkeep ?_ (star_cons hs.1) (star_none hs.2)
      refine ha (e :: es) p2 hs' s imm own ι σ ρ m _ E X hl (Post.bind h fun vs σ₁ ys h' tk imm' own' ι' hx X' hr h₁ => ⟨(F.kin X'.gd).keeps X'.fr.keep, ?_⟩)
      exact sound_fncall F FO hD (fun q => hq q D hD) X' hr h₁

theorem evalEs_len {ρ : Loc} : ∀ (es : List ME) (σ : Store) (vs : List V) (σ' : Store), evalEs Φ ρ es σ = .ok vs σ' → vs.length = es.length := by
  intro es
  induction es with
  | nil => intro σ vs σ' h; simp [es_0, es_1] at h; simp [h.1]
  | cons a r ih =>
    intro σ vs σ' h
    simp only [es_0, es_1] at h
    cases e1 : evalE Φ ρ a σ with
    | ok v σ₁ =>
      rw [e1] at h
      simp only [R.bind] at h
      cases e2 : evalEs Φ ρ r σ₁ with
      | ok ws σ₂ =>
        rw [e2] at h
        simp at h
        rw [← h.1]
        simp [ih _ _ _ e2]
      | exn _ _ => rw [e2] at h; simp at h
      | stuck => rw [e2] at h; simp at h
    | exn _ _ => rw [e1] at h; simp [R.bind] at h
    | stuck => rw [e1] at h; simp [R.bind] at h
theorem mts_len {T : Tops} {G : Str → Bool} {S : List Str} {M : Nat → Option Str} : ∀ (es : List ME) (l : List Expr), mts T G S M es l = true → es.length = l.length := by
  intro es
  induction es with
  | nil => intro l h; cases l <;> simp [mts] at h ⊢
  | cons a r ih => intro l h; cases l <;> simp [mts] at h ⊢; exact ih _ h.2

theorem sound_tup {es : List ME} (ha : SoundEs c x Φ es) : SoundE c x Φ (.tup es) := by
  intro e hm s imm own ι σ ρ m Q E X hl h
  obtain ⟨l, p1, p2, rfl, hk⟩ := mt_tup hm
  simp only [Bool.and_eq_true, decide_eq_true_eq] at hk
  simp only [ee_var, ee_cint, ee_cstr, ee_cnone, ee_cbool, ee_gint, ee_gstr, ee_bin, ee_neg, ee_not, ee_and, ee_or, ee_cmp, ee_cmp2, ee_call, ee_bi, ee_copy, ee_isi, ee_make, ee_meth, ee_attr, ee_idx, ee_sliceTo, ee_sliceFrom, ee_tup, ee_lst, ee_sumAt, ee_rev, ee_strMul] at h
  have hlen := mts_len es l hk.1
  refine Tuple_ ?_
  cases hv : evalEs Φ ρ es σ with
  | exn _ _ =>
    refine ha l _ hk.1 s imm own ι σ ρ m _ E X hl ?_
    rw [hv] at h ⊢
    exact h
  | stuck => rw [hv] at h; exact h.elim
  | ok vs₀ σ₀ =>
    have hl0 := evalEs_len _ _ _ _ hv
    refine ha l p2 hk.1 s imm own ι σ ρ m _ E X hl ?_
    rw [hv] at h ⊢
    intro ys h' tk imm' own' ι' hx X' hr
    refine newTuple_N X'.fr X'.news (fun h'' F' N' => ?_) (by rw [hr.length, hl0, hlen, sizeLine_eq]; omega)
    exact h _ h'' tk _ own' ι' (hx.trans (Ext.imm _)) (X'.newImm F' N' fun p hp => X'.lt p hp) (.tup (.head _) (hr.mono (Ext.imm _)))

theorem sound_lst {own₁ : Bool} {es : List ME} (ha : SoundEs c x Φ es) : SoundE c x Φ (.lst own₁ es) := by
  intro e hm s imm own ι σ ρ m Q E X hl h
  obtain ⟨l, p1, rfl, hk⟩ := mt_lst hm
  simp only [Bool.and_eq_true, decide_eq_true_eq] at hk
  simp only [ee_var, ee_cint, ee_cstr, ee_cnone, ee_cbool, ee_gint, ee_gstr, ee_bin, ee_neg, ee_not, ee_and, ee_or, ee_cmp, ee_cmp2, ee_call, ee_bi, ee_copy, ee_isi, ee_make, ee_meth, ee_attr, ee_idx, ee_sliceTo, ee_sliceFrom, ee_tup, ee_lst, ee_sumAt, ee_rev, ee_strMul] at h
  have hlen := mts_len es l hk.1
  refine List_ ?_
  cases hv : evalEs Φ ρ es σ with
  | exn _ _ =>
    refine ha l _ hk.1 s imm own ι σ ρ m _ E X hl ?_
    rw [hv] at h ⊢
    exact h
  | stuck => rw [hv] at h; exact h.elim
  | ok vs₀ σ₀ =>
    have hl0 := evalEs_len _ _ _ _ hv
    refine ha l p1 hk.1 s imm own ι σ ρ m _ E X hl ?_
    rw [hv] at h ⊢
    intro ys h' tk imm' own' ι' hx X' hr
    simp only [R.bind] at h
    refine newList_N X'.fr X'.news (fun h'' F' N' => ?_) (by rw [hr.length, hl0, hlen, sizeLine_eq]; omega)
    cases own₁ with
    | false =>
      rw [if_neg (by simp)] at h
      exact h _ h'' tk _ own' ι' (hx.trans (Ext.imm _)) (X'.newImm F' N' fun p hp => X'.lt p hp) (.lst (.head _) (hr.mono (Ext.imm _)))
    | true =>
      rw [if_pos rfl] at h
      exact h _ h'' tk imm' _ _ (hx.trans (Ext.own _)) (X'.newList F' N' (fun p hp => X'.lt p hp) hr) X'.locNew

theorem sound_copy (F : Frm c x d) (TK : TopOk c P) {own₁ : Bool} {a : ME} (ha : SoundE c x Φ a) : SoundE c x Φ (.copy own₁ a) := by
  intro e hm s imm own ι σ ρ m Q E X hl h
  obtain ⟨y, p1, b, p2, rfl, hk⟩ := mt_copy hm
  simp only [Bool.and_eq_true, beq_iff_eq] at hk
  obtain ⟨⟨rfl, hg⟩, hb⟩ := hk
  simp only [ee_var, ee_cint, ee_cstr, ee_cnone, ee_cbool, ee_gint, ee_gstr, ee_bin, ee_neg, ee_not, ee_and, ee_or, ee_cmp, ee_cmp2, ee_call, ee_bi, ee_copy, ee_isi, ee_make, ee_meth, ee_attr, ee_idx, ee_sliceTo, ee_sliceFrom, ee_tup, ee_lst, ee_sumAt, ee_rev, ee_strMul] at h
  refine Call_ (name_B X.fr (F.kin X.gd) (topRead_of (F.top X.gd)) (TK.boot _ (by decide)) boot_list (by decide) ?_ F.kind (Fx.glob hg) (by decide))
  refine Pv.callWith_type1 ?_ (star_cons hb) (by rfl)
  refine args_cons ?_ (star_cons hb)
  refine ha b hb s imm own ι σ ρ m _ E X hl (Post.bind h fun v σ₁ y h' tk imm' own' ι' hx X' hr h₁ => ?_)
  refine args_nil ?_
  split at h₁
  · rename_i vs hv
    split at h₁
    · rename_i hlen
      obtain ⟨l, xs, rfl, hL, rs⟩ := X'.isList hr hv
      refine list_copyK X'.fr X'.news hL (fun D n h'' F' N' hlt => ?_) (by simp only [List.size_toArray]; rw [rs.length, sizeLine_eq]; omega)
      cases own₁ with
      | false =>
        rw [if_neg (by simp)] at h₁
        exact h₁ _ h'' tk _ own' ι' (Ext.imm _) (X'.newImm F' N' hlt) (.lst (n := n) (.head _) (rs.mono (Ext.imm _)))
      | true =>
        rw [if_pos rfl] at h₁
        exact h₁ _ h'' tk imm' _ _ (Ext.own _) (X'.newList (n := n) F' N' hlt rs) X'.locNew
    · exact h₁.elim
  · exact h₁.elim

theorem sound_idx {a i : ME} (ha : SoundE c x Φ a) (hi : SoundE c x Φ i) : SoundE c x Φ (.idx a i) := by
  intro e hm s imm own ι σ ρ m Q E X hl h
  obtain ⟨l, r, p1, rfl, hk⟩ := mt_idx hm
  simp only [Bool.and_eq_true] at hk
  simp only [ee_var, ee_cint, ee_cstr, ee_cnone, ee_cbool, ee_gint, ee_gstr, ee_bin, ee_neg, ee_not, ee_and, ee_or, ee_cmp, ee_cmp2, ee_call, ee_bi, ee_copy, ee_isi, ee_make, ee_meth, ee_attr, ee_idx, ee_sliceTo, ee_sliceFrom, ee_tup, ee_lst, ee_sumAt, ee_rev, ee_strMul] at h
  refine Subscript_ (sound_two ha hi hk.1 hk.2 X hl h fun v w y z s imm own ι σ X hv hw h => ?_)
  obtain ⟨u, hu, hQ⟩ := Post.opt h
  clear h
  obtain ⟨vs, hs, hu2⟩ := Option.bind_eq_some_iff.mp hu
  clear hu
  obtain ⟨k, hk', hu⟩ := Option.bind_eq_some_iff.mp hu2
  clear hu2
  obtain rfl := asInt_inv hk'
  clear hk'
  · obtain ⟨t, rfl⟩ := inv_int hw
    have fin : ∀ y, Rep c.B imm ι u y → Q y s := fun y hy => Post.ok (tk := s.toks) hQ X hy
    unfold seqOf at hs
    split at hs
    · -- a tuple
      cases hs
      obtain ⟨b, xs, rfl, hT, rs⟩ := X.isTup hv
      have hlen := rs.length
      split at hu
      · split at hu
        · obtain ⟨y, hy, ry⟩ := rs.get hu
          have hlt : k.toNat < xs.length := (List.getElem?_eq_some_iff.mp hy).1
          refine item_tupleT (j := k.toNat) hT (by omega) (by omega) ?_ hy (fin y ry) (sub_plain hk.2)
          unfold seqIndex?
          have e1 : ¬ k < 0 := by omega
          simp only [e1, if_false]
          have e2 : (0 ≤ k) := by omega
          have e3 : k < (xs.length : Int) := by omega
          simp [e2, e3]
        · cases hu
      · split at hu
        · rename_i hc
          obtain ⟨y, hy, ry⟩ := rs.get hu
          have hlt := (List.getElem?_eq_some_iff.mp hy).1
          refine item_tupleT (j := (k + (vs.length : Int)).toNat) hT (by omega) (by omega) ?_ hy (fin y ry) (sub_plain hk.2)
          rw [hlen]
          exact seqIndex_neg (by omega) (by omega)
        · cases hu
    · obtain ⟨b, xs, rfl, hL, rs⟩ := X.isList hv hs
      have hlen := rs.length
      split at hu
      · split at hu
        · obtain ⟨y, hy, ry⟩ := rs.get hu
          exact tail_any hL.typeIs slot_list_getitem.lookup (wpAny_getItem_list hL (by omega) (by omega) (by simpa using hy) (fin y ry)) (sub_plain hk.2)
        · cases hu
      · split at hu
        · obtain ⟨y, hy, ry⟩ := rs.get hu
          refine tail_any hL.typeIs slot_list_getitem.lookup (wpAny_getItem_list_neg hL (by omega) ?_ (by omega) ?_ (fin y ry)) (sub_plain hk.2)
          · simp only [List.size_toArray]; omega
          · simp only [List.size_toArray, hlen, List.getElem?_toArray]; exact hy
        · cases hu

theorem pick_to {vs : List Value} {k : Int} (h : 0 ≤ k) : slicePick vs.toArray none (some k) none = (vs.take k.toNat).toArray := by
  rw [kms_pick_eq]
  unfold kms_pick
  simp only [kms_lo, kms_hi, if_neg (show ¬ k < 0 by omega), List.drop_zero, Nat.sub_zero]
  rw [kmk_take_min]
theorem pick_from {vs : List Value} {k : Int} (h : 0 ≤ k) : slicePick vs.toArray (some k) none none = (vs.drop k.toNat).toArray := by
  rw [kms_pick_eq]
  unfold kms_pick
  simp only [kms_lo, kms_hi, if_neg (show ¬ k < 0 by omega)]
  rw [kmk_drop_min, List.take_of_length_le (by rw [List.length_drop]; omega)]
section
variable {B : Bas} {imm : Led} {ι : List Addr}
theorem Reps.take : ∀ {vs : List V} {xs : List Value} (k : Nat), Reps B imm ι vs xs → Reps B imm ι (vs.take k) (xs.take k)
  | _, _, 0, _ => by simpa using Reps.nil
  | _, _, _ + 1, .nil => by simpa using Reps.nil
  | _, _, k + 1, .cons h r => by simpa using Reps.cons h (r.take k)
theorem Reps.drop : ∀ {vs : List V} {xs : List Value} (k : Nat), Reps B imm ι vs xs → Reps B imm ι (vs.drop k) (xs.drop k)
  | _, _, 0, h => by simpa using h
  | _, _, _ + 1, .nil => by simpa using Reps.nil
  | _, _, k + 1, .cons h r => by simpa using r.drop k
end

/-- the rest of a tuple -/
theorem cut_tup {l sl : Expr} {upto own₁ : Bool} {v u : V} {k : Int} {t : Tok} {y : Value} {vl vu : Value} {lo hi : Option Int} {s : Shared} {imm own : Led} {ι : List Addr} {σ : Store} {m : Str → Option Value} {Q : Value → Shared → Prop} {E : Value → Shared → Prop}
    (X : St c.Z c.B (Gnd x) x.L x.fz s.heap m imm own ι σ) (hv : Rep c.B imm ι v y) (hz : ∀ k' t', Value.int k t = .int k' t' → (upto = true → vl = .none ∧ vu = .int k' t' ∧ lo = none ∧ hi = some k') ∧ (upto = false → vl = .int k' t' ∧ vu = .none ∧ lo = some k' ∧ hi = none))
    (hs : ∀ o i, subscripted sl false o i = operate [i, o] (getItem o i)) (hc : cutT upto k v = some u) (h : Post c x m imm ι (relV c) (newL own₁ u σ) Q E s) :
    wpAny (model c.prog c.w) x.A (subscriptTail l sl y (.ref s.heap.objs.size)) Q E { s with heap := s.heap.push { cls := .type "slice", data := .fields #[vl, vu, .none] } } := by
  unfold cutT at hc
  split at hc
  · rename_i vs
    split at hc
    · rename_i q
      cases hc
      obtain ⟨rfl, h1, h2, h3⟩ := q
      obtain ⟨rfl, rfl, -, -⟩ := (hz k t rfl).2 rfl
      obtain ⟨b, xs, rfl, hT, rs⟩ := X.isTup hv
      obtain ⟨a, rfl⟩ : ∃ a : Nat, k = (a : Int) := ⟨k.toNat, by omega⟩
      have hlen := rs.length
      refine tail_any (IsTup.typeIs (s := { s with heap := s.heap.push { cls := .type "slice", data := .fields #[.int a t, .none, .none] } }) (hT.push _)) slot_tuple_getitem.lookup
        (getItem_tuple_from (hT.push _) (Heap.IsSliceOf.new ..) (by omega) (by simp only [List.size_toArray]; omega) ?_ (by simp only [List.size_toArray]; rw [rs.length, sizeLine_eq]; omega)) (hs _ _)
      have F1 := X.fr.push { cls := .type "slice", data := .fields #[.int a t, .none, .none] }
      have N1 := News.push F1 (X.news.grown fun _ _ e => Heap.get?_push_of_some _ e) { cls := .type "tuple", data := .seq (xs.drop a).toArray }
      have F2 := F1.push { cls := .type "tuple", data := .seq (xs.drop a).toArray }
      have hlt : ∀ p ∈ own ++ (imm ++ x.fz), p.1 < (s.heap.push { cls := .type "slice", data := .fields #[.int a t, .none, .none] }).objs.size := fun p hp => by
        rw [Heap.size_push]; exact Nat.lt_succ_of_lt (X.lt p hp)
      have e : newL own₁ (.tup (vs.drop a)) σ = .ok (.tup (vs.drop a)) σ := by cases own₁ <;> rfl
      rw [Int.toNat_natCast, e] at h
      exact h _ _ s.toks _ own ι (Ext.imm _) (X.newImm (o := tupObj _ 0) F2 N1 hlt) (.tup (n := 0) (.head _) ((rs.drop a).mono (Ext.imm _)))
    · cases hc
  · cases hc

/-- the part of a list, behind its bounds -/
theorem cut_tail {l sl : Expr} {upto own₁ : Bool} {v w : V} {y z : Value} {vl vu : Value} {lo hi : Option Int} {s : Shared} {imm own : Led} {ι : List Addr} {σ : Store} {m : Str → Option Value} {Q : Value → Shared → Prop} {E : Value → Shared → Prop}
    (X : St c.Z c.B (Gnd x) x.L x.fz s.heap m imm own ι σ) (hv : Rep c.B imm ι v y) (hw : Rep c.B imm ι w z) (hz : ∀ k t, z = .int k t → (upto = true → vl = .none ∧ vu = .int k t ∧ lo = none ∧ hi = some k) ∧ (upto = false → vl = .int k t ∧ vu = .none ∧ lo = some k ∧ hi = none))
    (hs : ∀ o i, subscripted sl false o i = operate [i, o] (getItem o i))
    (h : Post c x m imm ι (relV c) ((ofOpt (cutV σ upto v w) σ).bind fun v σ => newL own₁ v σ) Q E s) :
    wpAny (model c.prog c.w) x.A (subscriptTail l sl y (.ref s.heap.objs.size)) Q E { s with heap := s.heap.push { cls := .type "slice", data := .fields #[vl, vu, .none] } } := by
  cases hc : cutV σ upto v w with
  | none => rw [hc] at h; exact h.elim
  | some u =>
    rw [hc] at h
    simp only [ofOpt, R.bind] at h
    unfold cutV at hc
    split at hc
    · rename_i k
      split at hc
      · rename_i hk
        obtain ⟨t, rfl⟩ := inv_int hw
        cases hv' : Mine.listOf σ v with
        | none => rw [hv'] at hc; exact cut_tup X hv hz hs hc h
        | some vs =>
          rw [hv'] at hc
          dsimp only at hc
          split at hc
          · rename_i hlen
            cases hc
            obtain ⟨a, xs, rfl, hL, rs⟩ := X.isList hv hv'
            have hzz := hz k t rfl
            have pp : IsPart vl lo ∧ IsPart vu hi ∧ slicePick xs.toArray lo hi none = ((if upto = true then xs.take k.toNat else xs.drop k.toNat) : List Value).toArray := by
              cases upto with
              | true => obtain ⟨rfl, rfl, rfl, rfl⟩ := hzz.1 rfl; exact ⟨.none, .int _ _, pick_to hk.1⟩
              | false => obtain ⟨rfl, rfl, rfl, rfl⟩ := hzz.2 rfl; exact ⟨.int _ _, .none, pick_from hk.1⟩
            have rs' : Reps c.B imm ι (if upto = true then vs.take k.toNat else vs.drop k.toNat) (if upto = true then xs.take k.toNat else xs.drop k.toNat) := by
              cases upto with
              | true => exact rs.take _
              | false => exact rs.drop _
            refine tail_any (Heap.IsList.typeIs (s := { s with heap := s.heap.push { cls := .type "slice", data := .fields #[vl, vu, .none] } }) (hL.push _)) slot_list_getitem.lookup
              (wpAny_getItem_list_slice (hL.push _) (Heap.IsSliceOf.new ..) pp.1 pp.2.1 .none (by simp) ?_ (by simp only [List.size_toArray]; rw [rs.length, sizeLine_eq]; omega)) (hs _ _)
            rw [pp.2.2]
            have F1 := X.fr.push { cls := .type "slice", data := .fields #[vl, vu, .none] }
            have N1 := News.push F1 (X.news.grown fun _ _ e => Heap.get?_push_of_some _ e) { cls := .type "list", data := .seq ((if upto = true then xs.take k.toNat else xs.drop k.toNat) : List Value).toArray }
            have F2 := F1.push { cls := .type "list", data := .seq ((if upto = true then xs.take k.toNat else xs.drop k.toNat) : List Value).toArray }
            have hlt : ∀ p ∈ own ++ (imm ++ x.fz), p.1 < (s.heap.push { cls := .type "slice", data := .fields #[vl, vu, .none] }).objs.size := fun p hp => by
              rw [Heap.size_push]; exact Nat.lt_succ_of_lt (X.lt p hp)
            cases own₁ with
            | false => exact h _ _ s.toks _ own ι (Ext.imm _) (X.newImm (o := lstObj _ 0) F2 N1 hlt) (.lst (n := 0) (.head _) (rs'.mono (Ext.imm _)))
            | true => exact h _ _ s.toks imm _ _ (Ext.own _) (X.newList (n := 0) F2 N1 hlt rs') X.locNew
          · cases hc
      · cases hc
    · cases hc

theorem sound_sliceTo {own₁ : Bool} {a k : ME} (ha : SoundE c x Φ a) (hb : SoundE c x Φ k) : SoundE c x Φ (.sliceTo own₁ a k) := by
  intro e hm s imm own ι σ ρ m Q E X hl h
  obtain ⟨l, r, p1, p2, rfl, hk⟩ := mt_sliceTo hm
  simp only [Bool.and_eq_true] at hk
  simp only [ee_var, ee_cint, ee_cstr, ee_cnone, ee_cbool, ee_gint, ee_gstr, ee_bin, ee_neg, ee_not, ee_and, ee_or, ee_cmp, ee_cmp2, ee_call, ee_bi, ee_copy, ee_isi, ee_make, ee_meth, ee_attr, ee_idx, ee_sliceTo, ee_sliceFrom, ee_tup, ee_lst, ee_sumAt, ee_rev, ee_strMul] at h
  refine Subscript_ ?_
  refine ha l hk.1 s imm own ι σ ρ m _ E X hl (Post.bind h fun v σ₁ y h' tk imm' own' ι' hx X' hr h₁ => ?_)
  refine wpAny_Slice (evalPart_none_step (evalPart_some_step ?_))
  refine hb r hk.2 _ imm' own' ι' σ₁ ρ m _ E X' (hl.mono hx) (Post.bind h₁ fun w σ₂ z h'' tk' imm'' own'' ι'' hx' X'' hr' h₂ => ?_)
  refine evalPart_none_step ?_
  obtain hz | ⟨k, t, rfl⟩ : (∀ k t, z ≠ .int k t) ∨ ∃ k t, z = .int k t := by
    by_cases q : ∃ k t, z = .int k t
    · exact .inr q
    · exact .inl fun k t e => q ⟨k, t, e⟩
  · exact cut_tail (upto := true) (lo := none) (hi := none) X'' (hr.mono hx') hr' (fun k t e => absurd e (hz k t)) (fun _ _ => rfl) h₂
  · exact cut_tail (upto := true) (lo := none) (hi := some k) X'' (hr.mono hx') hr' (fun k t e => by cases e; exact ⟨fun _ => ⟨rfl, rfl, rfl, rfl⟩, fun q => by cases q⟩) (fun _ _ => rfl) h₂
theorem sound_sliceFrom {own₁ : Bool} {a k : ME} (ha : SoundE c x Φ a) (hb : SoundE c x Φ k) : SoundE c x Φ (.sliceFrom own₁ a k) := by
  intro e hm s imm own ι σ ρ m Q E X hl h
  obtain ⟨l, r, p1, p2, rfl, hk⟩ := mt_sliceFrom hm
  simp only [Bool.and_eq_true] at hk
  simp only [ee_var, ee_cint, ee_cstr, ee_cnone, ee_cbool, ee_gint, ee_gstr, ee_bin, ee_neg, ee_not, ee_and, ee_or, ee_cmp, ee_cmp2, ee_call, ee_bi, ee_copy, ee_isi, ee_make, ee_meth, ee_attr, ee_idx, ee_sliceTo, ee_sliceFrom, ee_tup, ee_lst, ee_sumAt, ee_rev, ee_strMul] at h
  refine Subscript_ ?_
  refine ha l hk.1 s imm own ι σ ρ m _ E X hl (Post.bind h fun v σ₁ y h' tk imm' own' ι' hx X' hr h₁ => ?_)
  refine wpAny_Slice (evalPart_some_step ?_)
  refine hb r hk.2 _ imm' own' ι' σ₁ ρ m _ E X' (hl.mono hx) (Post.bind h₁ fun w σ₂ z h'' tk' imm'' own'' ι'' hx' X'' hr' h₂ => ?_)
  refine evalPart_none_step (evalPart_none_step ?_)
  obtain hz | ⟨k, t, rfl⟩ : (∀ k t, z ≠ .int k t) ∨ ∃ k t, z = .int k t := by
    by_cases q : ∃ k t, z = .int k t
    · exact .inr q
    · exact .inl fun k t e => q ⟨k, t, e⟩
  · exact cut_tail (upto := false) (lo := none) (hi := none) X'' (hr.mono hx') hr' (fun k t e => absurd e (hz k t)) (fun _ _ => rfl) h₂
  · exact cut_tail (upto := false) (lo := some k) (hi := none) X'' (hr.mono hx') hr' (fun k t e => by cases e; exact ⟨fun q => (by cases q), fun _ => ⟨rfl, rfl, rfl, rfl⟩⟩) (fun _ _ => rfl) h₂
end
end Mine
set_option maxRecDepth 100000
set_option linter.unusedVariables false
namespace Mine
open PySem PySem.W PyProof.Rows PySem.Calls PySem.Spec Builtin Builtin.ObjectAttr Builtin.Getset_descriptor

section
variable {prog : Program} {w : World} {A : Around} {E : Value → Shared → Prop} {s : Shared} {K : Frag} {a C : Addr} {R : Result → Shared → Prop}
/-- the class of an object that is known by its type alone -/
theorem exc_get {tp : Value} (X : K.In s.heap) (L0 : Looks (model prog w) s.heap (typeOf (.ref a)) (.ref C)) (hm : mroIn K C (.type "object") = some true) (h : R (.ok (.ret (.ref C))) s) :
    codeAny (model prog w) A (.call (.builtin "getset_descriptor.__get__") ⟨[.builtin "object.__class__", .ref a, tp], []⟩) R s := by
  obtain ⟨hh, g, dr, t, os⟩ := s
  have L1 := looks_mroIn (M := model prog w) X hm
  refine codeAny_call_builtin KF.slot_gs.plain KF.entry_gs (KF.slot_gs.check _ _ _ _ _ _ _ _ KF.type_class (KF.args_gs _ _ _) ?_)
  unfold Builtin.«getset_descriptor.__get__» descrGet
  rw [dga_obj]
  refine wpAny_bind (wpAny_pure ?_)
  unfold descrGetter descrCheckInstance descrNameAndClass isInstance
  simp only [KF.owner_class]
  repeat lk
  refine ⟨Code.quiet_builtin _ (by decide +kernel), codeAny_builtin KF.entry_class ?_⟩
  unfold Builtin.«object.__class__» shownTypeOf
  repeat lk
  exact h
theorem find_data {M : Model} {h : Heap} {name : Str} {x g : Value} (X : K.In h) (ha : findIn K (.ref C) name = some (some x)) (hg : specialIn K x "__get__" = some (some g)) (ht : takesIn K x = some true) : Looks M h (Builtin.ObjectAttr.find (.ref a) (.ref C) name) (.bind g x) :=
  (looks_findIn X ha).andThen ((looks_specialIn X hg).andThen ((show Looks M h (dataDescriptor? (some x) (some g)) (some (g, x)) from (looks_takesIn X ht).andThen .now).andThen (Looks.tag .now)))
theorem chk_ga {M : Model} {nameV : Value} {Q : Unit → Shared → Prop} (X : K.In s.heap) (L0 : Looks M s.heap (typeOf (.ref a)) (.ref C)) (hb : mroIn K C (.type "BaseException") = some true)
    (hq : Q () s) : wpAny M A (checkBuiltinCall "BaseException.__getattribute__" ⟨[.ref a, nameV], []⟩) Q E s := by
  obtain ⟨hh, g, d, t, os⟩ := s
  have hk : builtinKind "BaseException.__getattribute__" = some .slot := by decide +kernel
  have hsplit : splitId "BaseException.__getattribute__" = some ("BaseException", "__getattribute__") := by decide +kernel
  have L1 := looks_mroIn (M := M) X hb
  have ha := F.args_bexc_ga (.ref a) nameV
  simp only [checkBuiltinCall, hk, hsplit]
  refine wpAny_bind ?_
  unfold isInstance
  repeat lk
  repeat (first | assumption | wp_step)
  all_goals exact hq
theorem exc_class {Q : Option Value → Shared → Prop} (X : K.In s.heap) (L0 : Looks (model prog w) s.heap (typeOf (.ref a)) (.ref C)) (hg : xget K C = true) (ha : findIn K (.ref C) "__class__" = some (some (.builtin "object.__class__")))
    (hn : specialIn K (.builtin "object.__class__") "__get__" = some (some (.builtin "getset_descriptor.__get__"))) (htk : takesIn K (.builtin "object.__class__") = some true) (hm : mroIn K C (.type "object") = some true)
    (h : Q (some (.ref C)) { s with toks := s.toks + 1 }) : wpAny (model prog w) A (getAttr? (.ref a) "__class__") Q E s := by
  obtain ⟨hh, g, d, t, os⟩ := s
  have L1 := looks_findIn (M := model prog w) X (of_decide_eq_true (and_inv hg).1)
  have L2 := find_data (M := model prog w) (a := a) X ha hn htk
  have L3 := looks_findIn (M := model prog w) X (of_decide_eq_true (and_inv (and_inv hg).2).1)
  have hx2 : (Value.builtin "BaseException.__getattribute__" == Value.builtin "object.__getattribute__") = false := by decide +kernel
  have hx1 : (onTheHeap (Value.ref C) && Value.builtin "BaseException.__getattribute__" == Value.builtin "object.__getattribute__") = false := by rw [hx2]; rfl
  unfold getAttr? getAttrBy? getAttrBy
  refine wpAny_bind (wpAny_mkText (wpAny_bind (wpAny_attempt (wpAny_holding (wpAny_bind (L0.at (wpAny_bind (L1.at ?_))))))))
  dsimp only
  rw [hx1, if_neg Bool.false_ne_true]
  unfold getAttrByItsOwn
  refine wpAny_bind ?_
  show wpAny _ _ (typeLookup (.ref C) "__getattr__") _ _ _
  refine L3.at (wpAny_bind (wpAny_attempt (wpAny_holding ?_)))
  show wpAny _ _ (boundAndCalled _ _ _) _ _ _
  unfold boundAndCalled
  refine wpAny_bind ?_
  rw [F.excAttr_ValueError.ga.bind (.ref a)]
  refine wpAny_pure ?_
  refine wpAny_call (codeAny_call_builtin F.excAttr_ValueError.ga.plain F.entry_bexc_ga (chk_ga (s := ⟨hh, g, d, t + 1, os⟩) X L0 (of_decide_eq_true (and_inv (and_inv hg).2).2) ?_))
  unfold Builtin.«object.__getattribute__»
  refine wpAny_bind (wpAny_pure (wpAny_bind (wpAny_pure (wpAny_bind (L0.at (wpAny_bind (L2.at ?_)))))))
  show wpAny _ _ (call _ [_, .ref a, .ref C] >>= ret) _ _ _
  refine wpAny_bind (wpAny_call (exc_get (s := ⟨hh, g, d, t + 1, os⟩) X L0 hm ?_))
  refine wpAny_pure ?_
  refine wpAny_pure ?_
  exact wpAny_pure h
theorem kitx_exc (hcl : (clsIn K C).isSome = true) (hg : xget K C = true) (ha : findIn K (.ref C) "__class__" = some (some (.builtin "object.__class__")))
    (hn : specialIn K (.builtin "object.__class__") "__get__" = some (some (.builtin "getset_descriptor.__get__"))) (htk : takesIn K (.builtin "object.__class__") = some true) (hm : mroIn K C (.type "object") = some true) :
    KitX K (.ref a) (.ref C) (fun h => ∃ o, h.get? a = some o ∧ o.cls = .ref C) where
  ty := fun _ _ _ ⟨o, ho, hc⟩ => hc ▸ (Looks.ld ho).andThen .now
  it := fun _ _ X _ => by
    obtain ⟨cdD, hcD⟩ := Option.isSome_iff_exists.mp hcl
    unfold clsIn at hcD
    split at hcD
    · rename_i c' d' cd' sl' ho
      intro A' Q' E' s' k q
      unfold isType loadHead
      exact wpAny_bind (wpAny_loadPart (k _ _ (X _ _ ho)) (wpAny_pure q))
    · cases hcD
  ne := fun h tp dd its n sl X htp => by
    obtain ⟨cdD, hcD⟩ := Option.isSome_iff_exists.mp hcl
    refine Bool.eq_false_iff.mpr fun q => ?_
    have e : C = tp := Value.ref.inj (beq_iff_eq.mp q)
    subst e
    unfold clsIn at hcD
    split at hcD
    · rename_i c' d' cd' sl' ho
      have z := (X _ _ ho).symm.trans htp
      cases z
    · cases hcD
  ca := fun X ⟨o, ho, hc⟩ k => exc_class X (hc ▸ (Looks.ld ho).andThen .now) hg ha hn htk hm k
end
section
variable {c : Cx} {P : Prog}
theorem ExcAt.kitx {k : Nat} {y : Str} {C a : Addr} (E : ExcAt c k y C) : KitX c.K (.ref a) (.ref C) (fun h => ∃ o, h.get? a = some o ∧ o.cls = .ref C) := kitx_exc E.cls E.plain E.fc E.sp E.tk E.mro
theorem TopOk.exAt (TK : TopOk c P) {k : Nat} {C : Addr} (h : c.B.xs[k]? = some C) : ∃ y, c.T.xs[k]? = some (y, C) := by
  rw [TK.xs, List.getElem?_map, Option.map_eq_some_iff] at h
  obtain ⟨q, h1, h2⟩ := h
  exact ⟨q.1, by rw [h1, ← h2]⟩
theorem nmX_inv {T : Tops} {k : Nat} {y : Str} (h : nmX T k y = true) : ∃ C, T.xs[k]? = some (y, C) := by
  obtain ⟨q, h1, h2⟩ := any_inv h
  obtain ⟨a, b⟩ := q
  cases beq_iff_eq.mp h2
  exact ⟨b, h1⟩
end
end Mine
set_option maxRecDepth 100000
set_option linter.unusedVariables false
namespace Mine
open PySem PySem.W PyProof.Rows PySem.Calls
section
variable {c : Cx} {x : Fx} {d : Nat} {Φ : Fns} {P : Prog}

theorem ints_are {B : Bas} {imm : Led} {ι : List Addr} : ∀ {vs : List V} {ys : List Value} {ns : List Int}, Reps B imm ι vs ys → intsOf vs = some ns → IntsAre ys ns
  | _, _, _, .nil, h => by simp [intsOf] at h; subst h; exact IntsAre.nil
  | v :: vs, _, _, .cons hv r, h => by
    cases v with
    | int i =>
      simp only [intsOf, Option.map_eq_some_iff] at h
      obtain ⟨l, hl, rfl⟩ := h
      obtain ⟨t, rfl⟩ := inv_int hv
      exact IntsAre.cons _ _ (ints_are r hl)
    | _ => simp [intsOf] at h
theorem are_ints {B : Bas} {imm : Led} {ι : List Addr} : ∀ {ys : List Value} {ns : List Int}, IntsAre ys ns → Reps B imm ι (ns.map .int) ys
  | _, _, .nil => .nil
  | _, _, .cons _ _ r => .cons (.int _ _) (are_ints r)

theorem insertI_perm (a : Int) : ∀ l : List Int, (insertI a l).Perm (a :: l)
  | [] => .refl _
  | b :: r => by
    unfold insertI
    split
    · exact .refl _
    · exact ((insertI_perm a r).cons b).trans (.swap a b r)
theorem sortI_perm : ∀ l : List Int, (sortI l).Perm l
  | [] => .refl _
  | a :: r => (insertI_perm a (sortI r)).trans ((sortI_perm r).cons a)
theorem insertI_sorted (a : Int) : ∀ {l : List Int}, l.Pairwise (· ≤ ·) → (insertI a l).Pairwise (· ≤ ·)
  | [], _ => by simp [insertI]
  | b :: r, h => by
    unfold insertI
    split
    · rename_i hab
      refine List.pairwise_cons.mpr ⟨fun z hz => ?_, h⟩
      rcases List.mem_cons.mp hz with rfl | hz
      · exact hab
      · exact Int.le_trans hab ((List.pairwise_cons.mp h).1 z hz)
    · rename_i hab
      refine List.pairwise_cons.mpr ⟨fun z hz => ?_, insertI_sorted a (List.pairwise_cons.mp h).2⟩
      rcases List.mem_cons.mp ((insertI_perm a r).mem_iff.mp hz) with rfl | hz
      · omega
      · exact (List.pairwise_cons.mp h).1 z hz
theorem sortI_sorted : ∀ l : List Int, (sortI l).Pairwise (· ≤ ·)
  | [] => by simp [sortI]
  | a :: r => insertI_sorted a (sortI_sorted r)
theorem sorted_unique : ∀ {l l' : List Int}, l.Perm l' → l.Pairwise (· ≤ ·) → l'.Pairwise (· ≤ ·) → l = l'
  | [], l', h, _, _ => by rw [h.nil_eq]
  | a :: r, [], h, _, _ => by simpa using h.length_eq
  | a :: r, b :: s, h, h1, h2 => by
    have ab : a = b := by
      have m1 : a ∈ b :: s := h.mem_iff.mp (.head _)
      have m2 : b ∈ a :: r := h.mem_iff.mpr (.head _)
      rcases List.mem_cons.mp m1 with e | m1
      · exact e
      · rcases List.mem_cons.mp m2 with e | m2
        · exact e.symm
        · have := (List.pairwise_cons.mp h1).1 b m2
          have := (List.pairwise_cons.mp h2).1 a m1
          omega
    subst ab
    rw [sorted_unique (List.Perm.cons_inv h) (List.pairwise_cons.mp h1).2 (List.pairwise_cons.mp h2).2]

theorem sound_bi (F : Frm c x d) (TK : TopOk c P) {b : BI} {args : List ME} (hq : b = .max2 ∨ b = .min2 → x.quiet = false) (ha : SoundEs c x Φ args) : SoundE c x Φ (.bi b args) := by
  intro e hm s imm own ι σ ρ m Q E X hl h
  obtain ⟨y, p1, es, p2, rfl, hk⟩ := mt_bi hm
  simp only [Bool.and_eq_true, beq_iff_eq] at hk
  obtain ⟨⟨⟨rfl, hg⟩, hs⟩, hne⟩ := hk
  simp only [ee_var, ee_cint, ee_cstr, ee_cnone, ee_cbool, ee_gint, ee_gstr, ee_bin, ee_neg, ee_not, ee_and, ee_or, ee_cmp, ee_cmp2, ee_call, ee_bi, ee_copy, ee_isi, ee_make, ee_meth, ee_attr, ee_idx, ee_sliceTo, ee_sliceFrom, ee_tup, ee_lst, ee_sumAt, ee_rev, ee_strMul] at h
  cases args with
  | nil => simp at hne
  | cons a args =>
  cases es with
  | nil => (first | cases mts_n hs | cases mts_n hs.2 | (exact Bool.noConfusion (show false = true from hs)) | exact Bool.noConfusion (show false = true from hs.2))
  | cons e es =>
  have hs' := hs
  simp only [mts, List.head?_cons, Option.any_some, List.tail_cons, Bool.and_eq_true] at hs
  have go : ∀ id : String, bootBuiltins b.name = some (.builtin id) → b.name ∈ (["len", "max", "min", "sorted", "sum", "int", "str", "list", "range", "isinstance", "bool", "tuple", "ValueError"] : List Str) → b.name ≠ "__name__" → (b.name == ("__debug__" : Str)) = false →
      (∀ vs ys (s : Shared) imm own ι σ v, St c.Z c.B (Gnd x) x.L x.fz s.heap m imm own ι σ → Reps c.B imm ι vs ys → biV σ b vs = some v → Post c x m imm ι (relV c) (.ok v σ) Q E s → wpAny (model c.prog c.w) x.A (call (.builtin id) ys) Q E s) →
      wpAny (model c.prog c.w) x.A (eval (.Call (.Name b.name p1) (e :: es) [] p2) x.env) Q E s := by
    intro id hb hin hn hd k
    refine Call_ (name_B X.fr (F.kin X.gd) (topRead_of (F.top X.gd)) (TK.boot _ hin) hb hn ?_ F.kind (Fx.glob hg) hd)
    refine callWith_builtin1 ?_ (star_cons hs.1) (star_none hs.2)
    refine ha (e :: es) p2 hs' s imm own ι σ ρ m _ E X hl (Post.bind h fun vs σ₁ ys h' tk imm' own' ι' hx X' hr h₁ => ?_)
    obtain ⟨v, hv, h₂⟩ := Post.opt h₁
    exact k vs ys _ imm' own' ι' σ₁ v X' hr hv h₂
  cases b with
  | len =>
    refine go "len" boot_len (by decide) (by decide) (by decide) fun vs ys s imm own ι σ v X hr hv h => ?_
    obtain ⟨w, rfl, hv⟩ := bi1_inv hv
    cases hr with
    | cons hw hr =>
    cases hr
    obtain ⟨l, hl', hv⟩ := Option.bind_eq_some_iff.mp hv
    split at hv
    · rename_i hlen
      cases hv
      unfold seqOf at hl'
      split at hl'
      · cases hl'
        obtain ⟨a, xs, rfl, hT, rs⟩ := X.isTup hw
        refine len_tuple hT (by simp only [List.size_toArray]; rw [rs.length]; omega) ?_
        have := Post.ok h (tk := s.toks + 1 + 1) X (.int _ (s.toks + 1))
        simpa [rs.length] using this
      · obtain ⟨a, xs, rfl, hL, rs⟩ := X.isList hw hl'
        refine len_list hL (by simp only [List.size_toArray]; rw [rs.length]; omega) ?_
        have := Post.ok h (tk := s.toks + 1 + 1) X (.int _ (s.toks + 1))
        simpa [rs.length] using this
    · cases hv
  | max2 =>
    refine go "max" boot_max (by decide) (by decide) (by decide) fun vs ys s imm own ι σ v X hr hv h => ?_
    obtain ⟨a, b, rfl, rfl⟩ := bi2_inv hv
    cases hr with
    | cons h1 hr =>
    cases hr with
    | cons h2 hr =>
    cases hr
    obtain ⟨t, rfl⟩ := inv_int h1
    obtain ⟨u, rfl⟩ := inv_int h2
    exact max_two_N (F.calm (hq (.inl rfl))) X.fr X.news fun h' tk F' N' => h _ h' tk imm own ι Ext.refl (X.keep F' N') (.int _ _)
  | min2 =>
    refine go "min" boot_min (by decide) (by decide) (by decide) fun vs ys s imm own ι σ v X hr hv h => ?_
    obtain ⟨a, b, rfl, rfl⟩ := bi2_inv hv
    cases hr with
    | cons h1 hr =>
    cases hr with
    | cons h2 hr =>
    cases hr
    obtain ⟨t, rfl⟩ := inv_int h1
    obtain ⟨u, rfl⟩ := inv_int h2
    exact min_two_N (F.calm (hq (.inr rfl))) X.fr X.news fun h' tk F' N' => h _ h' tk imm own ι Ext.refl (X.keep F' N') (.int _ _)
  | sorted =>
    refine go "sorted" boot_sorted (by decide) (by decide) (by decide) fun vs ys s imm own ι σ v X hr hv h => ?_
    obtain ⟨w, rfl, hv⟩ := bi1_inv hv
    cases hr with
    | cons hw hr =>
    cases hr
    obtain ⟨l, hl', hv⟩ := Option.bind_eq_some_iff.mp hv
    obtain ⟨us, hus, hl'⟩ := Option.bind_eq_some_iff.mp hl'
    split at hv
    · rename_i hlen
      cases hv
      obtain ⟨a, xs, rfl, hL, rs⟩ := X.isList hw hus
      have hI := ints_are rs hl'
      refine sorted_N X.fr X.news hL hI (by rw [hI.length]; exact hlen) fun h' vs' ns' n F' N' hI' hp hsrt => ?_
      have e : ns' = sortI l := sorted_unique (hp.trans (sortI_perm l).symm) hsrt (sortI_sorted l)
      subst e
      exact h _ h' s.toks _ own ι (Ext.imm _) (X.newImm F' N' fun p hp => Nat.lt_succ_of_lt (X.lt p hp)) (.lst (.head _) (are_ints hI'))
    · cases hv
  | int =>
    refine Call_ (name_B X.fr (F.kin X.gd) (topRead_of (F.top X.gd)) (TK.boot _ (by decide)) boot_int (by decide) ?_ F.kind (Fx.glob hg) (by decide))
    refine Pv.callWith_type1 ?_ (star_cons hs.1) (star_none hs.2)
    refine ha (e :: es) p2 hs' s imm own ι σ ρ m _ E X hl (Post.bind h fun vs σ₁ ys h' tk imm' own' ι' hx X' hr h₁ => ?_)
    obtain ⟨v, hv, h₂⟩ := Post.opt h₁
    obtain ⟨w, rfl, hv2⟩ := bi1_inv hv
    clear hv
    cases hr with
    | cons hw hr =>
    cases hr
    obtain ⟨b, rfl, rfl⟩ := intOf_inv hv2
    obtain rfl := inv_bool hw
    exact call_int_bool (Post.ok h₂ X' (.int _ _))

theorem sound_isi (F : Frm c x d) (TK : TopOk c P) {a : ME} {t : TY} (ha : SoundE c x Φ a) : SoundE c x Φ (.isi a t) := by
  intro e hm s imm own ι σ ρ m Q E X hl h
  obtain ⟨y, p1, b, z, p2, p3, rfl, hk⟩ := mt_isi hm
  simp only [Bool.and_eq_true, beq_iff_eq, bne_iff_ne, ne_eq] at hk
  obtain ⟨⟨⟨⟨⟨⟨rfl, hg⟩, hgz⟩, rfl⟩, hd⟩, hb⟩, hok⟩ := hk
  simp only [ee_var, ee_cint, ee_cstr, ee_cnone, ee_cbool, ee_gint, ee_gstr, ee_bin, ee_neg, ee_not, ee_and, ee_or, ee_cmp, ee_cmp2, ee_call, ee_bi, ee_copy, ee_isi, ee_make, ee_meth, ee_attr, ee_idx, ee_sliceTo, ee_sliceFrom, ee_tup, ee_lst, ee_sumAt, ee_rev, ee_strMul] at h
  refine Call_ (name_B X.fr (F.kin X.gd) (topRead_of (F.top X.gd)) (TK.boot _ (by decide)) boot_isinstance (by decide) ?_ F.kind (Fx.glob hg) (by decide))
  refine callWith_builtin1 ?_ (star_cons hb) (by rfl)
  refine args_cons ?_ (star_cons hb)
  refine ha b hb s imm own ι σ ρ m _ E X hl (Post.bind h fun v σ₁ y h' tk imm' own' ι' hx X' hr h₁ => ?_)
  obtain ⟨u, hu, h₂⟩ := Post.opt h₁
  obtain ⟨r, hr2, rfl⟩ := Option.map_eq_some_iff.mp hu
  have fin : ∀ tk', Q (.bool r) { s with heap := h', toks := tk' } := fun tk' => Post.ok h₂ X' (.bool r)
  refine args_cons ?_ rfl
  have nm : ∀ T : String, bootBuiltins t.name = some (.type T) → t.name ∈ (["len", "max", "min", "sorted", "sum", "int", "str", "list", "range", "isinstance", "bool", "tuple", "ValueError"] : List Str) → t.name ≠ "__name__" →
      wpAny (model c.prog c.w) x.A (call (.builtin "isinstance") [y, .type T]) Q E { s with heap := h', toks := tk } →
      wpAny (model c.prog c.w) x.A (eval (.Name t.name p2) x.env) (fun v s₁ => wpAny (model c.prog c.w) x.A (spliced (backTo p3 (starEach [] x.env))) (fun vs s₂ => wpAny (model c.prog c.w) x.A (call (.builtin "isinstance") (y :: v :: vs)) Q E s₂) E s₁) E { s with heap := h', toks := tk } := by
    intro T hT hin hn k
    exact name_B X'.fr (F.kin X'.gd) (topRead_of (F.top X'.gd)) (TK.boot _ hin) hT hn (args_nil k) F.kind (Fx.glob hgz) (by simpa using hd)
  cases t with
  | int =>
    cases v with
    | int i => cases hr2; obtain ⟨tt, rfl⟩ := inv_int hr; exact nm "int" boot_int (by decide) (by decide) (call_isinstance_yes (typeIs_int _ _ _) meta_int PyProof.Rows.sub_int_int (fin tk))
    | bool i => cases hr2; obtain rfl := inv_bool hr; exact nm "int" boot_int (by decide) (by decide) (call_isinstance_yes (PySem.typeIs_bool _ _) meta_int PyProof.Rows.sub_bool_int (fin tk))
    | _ => cases hr2
  | bool =>
    cases v with
    | int i => cases hr2; obtain ⟨tt, rfl⟩ := inv_int hr; exact nm "bool" boot_bool (by decide) (by decide) (call_isinstance (isinstance_false_int (by decide) meta_bool PyProof.Rows.sub_int_bool) (fin _))
    | bool i => cases hr2; obtain rfl := inv_bool hr; exact nm "bool" boot_bool (by decide) (by decide) (call_isinstance_yes (PySem.typeIs_bool _ _) meta_bool PyProof.Rows.sub_bool_bool (fin tk))
    | _ => cases hr2
  | tuple =>
    obtain ⟨⟨vs, rfl⟩, rfl⟩ := isT_inv hr2
    obtain ⟨a, xs, rfl, hT, _⟩ := X'.isTup hr
    exact nm "tuple" boot_tuple (by decide) (by decide) (call_isinstance_yes hT.typeIs meta_tuple PyProof.Rows.sub_tuple_tuple (fin tk))
  | list =>
    obtain ⟨vs, hvs, rfl⟩ := Option.map_eq_some_iff.mp hr2
    obtain ⟨a, xs, rfl, hT, _⟩ := X'.isList hr hvs
    exact nm "list" boot_list (by decide) (by decide) (call_isinstance_yes hT.typeIs meta_list PyProof.Rows.sub_list_list (fin tk))
  | str =>
    obtain ⟨⟨st, rfl⟩, rfl⟩ := isS_inv hr2
    obtain ⟨tt, rfl⟩ := inv_str hr
    exact nm "str" boot_str (by decide) (by decide) (call_isinstance_yes (typeIs_str _ _ _) meta_str PyProof.Rows.sub_str_str (fin tk))
  | exc y' j =>
    obtain ⟨k, hk, rfl⟩ := Option.map_eq_some_iff.mp hr2
    obtain rfl := asX_inv hk
    cases hr with
    | exc hm hC hc =>
      obtain ⟨D, hD⟩ := nmX_inv (show nmX c.T j y' = true from hok)
      obtain ⟨y₁, hC₁⟩ := TK.exAt hC
      have EX := TK.exc k _ _ hC₁
      refine name_K X'.fr (F.kin X'.gd) (topRead_of (F.top X'.gd)) (TK.exc j _ D hD).ns (args_nil ?_) F.kind (Fx.glob hgz) (by simpa using hd)
      exact kia_one EX.kitx ((F.kin X'.gd).keeps X'.fr.keep) ⟨_, X'.getImm hm, hc⟩ (EX.sub j _ D hD).2 (by intro q; cases q) fun tk' => fin tk'
  | verr =>
    obtain ⟨k, hk, rfl⟩ := Option.map_eq_some_iff.mp hr2
    obtain rfl := asX_inv hk
    cases hr with
    | exc hm hC hc =>
      obtain ⟨y₁, hC₁⟩ := TK.exAt hC
      have EX := TK.exc k _ _ hC₁
      refine nm "ValueError" (by decide +kernel) (by decide) (by decide) ?_
      exact kia_one EX.kitx ((F.kin X'.gd).keeps X'.fr.keep) ⟨_, X'.getImm hm, hc⟩ EX.verr (by intro q; cases q) fun tk' => fin tk'

theorem FRep.get {Z : Nms} {B : Bas} {imm : Led} {ι : List Addr} {k : Nat} {v : V} {y : Str} (hy : Z.attrs[k]? = some y) : ∀ {fs : List (Nat × V)} {es : List DictEntry}, FRep Z B imm ι fs es → fieldOf k fs = some v → ∃ z, getL y es = some (some z) ∧ Rep B imm ι v z
  | _, _, .nil, h => by simp [fieldOf] at h
  | _, _, .cons (k := k') (x := y') (y := z) (t := t) hk hv r, h => by
    unfold fieldOf at h
    split at h
    · rename_i e
      subst e
      cases h
      rw [hk] at hy; cases hy
      exact ⟨z, by simp [getL, Value.isStr], hv⟩
    · rename_i e
      obtain ⟨z', h1, h2⟩ := r.get hy h
      refine ⟨z', ?_, h2⟩
      have hne : (y' == y) = false := by
        rw [beq_eq_false_iff_ne]
        rintro rfl
        exact e (nodup_at Z.nd hy hk)
      have hk2 : (Value.str y' t).isStr y = false := hne
      unfold getL at h1 ⊢
      simp only [List.find?_cons, hk2]
      split at h1
      · rename_i en hen
        rw [hen]
        exact h1
      · rename_i hen
        rw [hen]
        simp only
        split at h1
        · cases h1
        · cases h1
theorem FRep.getNone {Z : Nms} {B : Bas} {imm : Led} {ι : List Addr} {y : Str} (hy : y ∉ Z.attrs) : ∀ {fs : List (Nat × V)} {es : List DictEntry}, FRep Z B imm ι fs es → getL y es = some none
  | _, _, .nil => by simp [getL]
  | _, _, .cons (k := k') (x := y') (y := z) (t := t) hk hv r => by
    have h1 := r.getNone hy
    have hne : (y' == y) = false := by
      rw [beq_eq_false_iff_ne]
      rintro rfl
      exact hy (List.mem_of_getElem? hk)
    have hk2 : (Value.str y' t).isStr y = false := hne
    unfold getL at h1 ⊢
    simp only [List.find?_cons, hk2]
    split at h1
    · cases h1
    · rename_i hen
      rw [hen]
      simp only
      split at h1
      · cases h1
      · rename_i hn
        rw [if_neg]
        simpa [DictEntry.refKey] using hn
theorem FRep.getSome {Z : Nms} {B : Bas} {imm : Led} {ι : List Addr} {y : Str} : ∀ {fs : List (Nat × V)} {es : List DictEntry}, FRep Z B imm ι fs es → (getL y es).isSome = true
  | _, _, .nil => by simp [getL]
  | _, _, .cons (k := k') (x := y') (y := z) (t := t) hk hv r => by
    have h1 := r.getSome (y := y)
    unfold getL at h1 ⊢
    simp only [List.find?_cons]
    cases (Value.str y' t).isStr y with
    | true => simp
    | false =>
      simp only
      split at h1
      · simp
      · split at h1
        · cases h1
        · rename_i hn
          rw [if_neg]
          · simp
          · simpa [DictEntry.refKey] using hn
theorem FRep.put {Z : Nms} {B : Bas} {imm : Led} {ι : List Addr} {k : Nat} {v : V} {y : Str} {z : Value} {hsh : Int} {t : Tok} (hy : Z.attrs[k]? = some y) (hv : Rep B imm ι v z) : ∀ {fs : List (Nat × V)} {es : List DictEntry}, FRep Z B imm ι fs es →
    FRep Z B imm ι (putField k v fs) (putL y hsh (.str y t) z es)
  | _, _, .nil => .cons hy hv .nil
  | _, _, .cons (k := k') (x := y') (t := t') hk hw r => by
    unfold putField putL
    by_cases e : k = k'
    · subst e
      rw [hk] at hy; cases hy
      simp only [if_true, Value.isStr, beq_self_eq_true]
      exact .cons hk hv r
    · have hne : (y' == y) = false := by
        rw [beq_eq_false_iff_ne]
        rintro rfl
        exact e (nodup_at Z.nd hy hk)
      simp only [if_neg e, Value.isStr, hne, Bool.false_eq_true, if_false]
      exact .cons hk hw (r.put hy hv)
theorem FRep.length {Z : Nms} {B : Bas} {imm : Led} {ι : List Addr} : ∀ {fs : List (Nat × V)} {es : List DictEntry}, FRep Z B imm ι fs es → es.length = fs.length
  | _, _, .nil => rfl
  | _, _, .cons _ _ r => by rw [List.length_cons, List.length_cons, r.length]
theorem putField_len (k : Nat) (v : V) : ∀ fs : List (Nat × V), (putField k v fs).length ≤ fs.length + 1
  | [] => by simp [putField]
  | (k', w) :: r => by
    unfold putField
    split
    · simp
    · have := putField_len k v r
      simp; omega

/-- an instance at hand -/
theorem St.instAt {Z : Nms} {B : Bas} {h₀ : Heap → Prop} {L : Addr} {fz : Led} {h : Heap} {m : Str → Option Value} {imm own : Led} {ι : List Addr} {σ : Store} (X : St Z B h₀ L fz h m imm own ι σ) {i k : Nat} {y : Value} {fs : List (Nat × V)} (hr : Rep B imm ι (.loc i) y) (hs : σ[i]? = some (.inst k fs)) :
    ∃ a dx C f es n, y = .ref a ∧ Z.classes[k]? = some (C, f) ∧ FRep Z B imm ι fs es ∧ PySem.W.InstAt h a (instObj C dx) C (some (dictOf es n)) := by
  cases hr with
  | loc hi =>
    obtain ⟨a, dx, C, f, es, n, pre, post, h1, h2, h3, h4, _⟩ := X.owned.instAt hs
    have e := Option.some.inj (h1.symm.trans hi)
    subst e
    refine ⟨_, dx, C, f, es, n, rfl, h3, h4, PySem.W.InstAt.of_news (L := L) X.news ?_ ?_⟩
    · exact List.mem_append_left _ (by rw [h2]; simp)
    · exact List.mem_append_left _ (by rw [h2]; simp)

theorem mts_nil {T : Tops} {G : Str → Bool} {S : List Str} {M : Nat → Option Str} {args : List ME} (h : mts T G S M args [] = true) (h' : (!args.isEmpty) = true) : False := by
  cases args with
  | nil => simp at h'
  | cons a r => exact Bool.noConfusion (show false = true from h)
theorem base_plain {T : Tops} {G : Str → Bool} {S : List Str} {M : Nat → Option Str} {me : ME} {o : Expr} {attr : Str} {env : Env} {whole : Sem Value} (h : mt T G S M me o = true) : attributeBase o attr env whole = whole := by
  have k : ∀ id p pos, o ≠ .Call (.Name id p) [] [] pos := by
    rintro id p pos rfl
    cases me with
    | call f args => obtain ⟨_, _, _, _, e, hk⟩ := mt_call h; cases e; simp only [Bool.and_eq_true] at hk; exact mts_nil hk.1.2 hk.2
    | bi b args => obtain ⟨_, _, _, _, e, hk⟩ := mt_bi h; cases e; simp only [Bool.and_eq_true] at hk; exact mts_nil hk.1.2 hk.2
    | make c args => obtain ⟨_, _, _, _, e, hk⟩ := mt_make h; cases e; simp only [Bool.and_eq_true] at hk; exact mts_nil hk.1.2 hk.2
    | _ => exact Bool.noConfusion (show false = true from h)
  unfold attributeBase
  split
  · exact absurd rfl (k _ _ _)
  · rfl
theorem form_ok {T : Tops} {G : Str → Bool} {S : List Str} {M : Nat → Option Str} {mes : List ME} {es : List Expr} {pos : Pos} {env : Env} {n : Nat} (h : mts T G S M mes es = true) (hn : n < 20) : methodCallForm n (backTo pos (starEach es env)) [] = true := by
  have := star_none (pos := pos) (env := env) h
  unfold methodCallForm
  simp only [List.all_nil, Bool.and_true, List.isEmpty_nil, if_true, Bool.and_eq_true, decide_eq_true_eq]
  refine ⟨?_, by omega⟩
  rw [List.any_eq_false] at this
  rw [List.all_eq_true]
  intro y hy
  have := this y hy
  simpa using this
theorem MCall {M : Model} {A : Around} {E : Value → Shared → Prop} {s : Shared} {env : Env} {o : Expr} {name : Str} {apos pos : Pos} {args : List Expr} {Q : Value → Shared → Prop} (hb : ∀ w, attributeBase o name env w = w)
    (hf : methodCallForm args.length (backTo pos (starEach args env)) [] = true) (hp : apos.endLine = pos.line)
    (h : wpAny M A (eval o env) (fun ov s₁ => wpAny M A (getMethod ov name (do return (← importBound o env).getD true)) (fun fx s₂ => wpAny M A (callWith pos fx.1 fx.2 (backTo pos (starEach args env)) []) Q E s₂) E s₁) E s) :
    wpAny M A (eval (.Call (.Attribute o name apos) args [] pos) env) Q E s := by
  show wpAny M A (do
    let ov ← attributeBase o name env (eval o env)
    standAt apos.atName
    methodCall o name apos pos env ov (args.length + 0) (backTo pos (starEach args env)) []) Q E s
  rw [hb]
  refine wpAny_bind (wpAny_mono h (fun ov s₁ h₁ => wpAny_bind (wpAny_standAt ?_)) fun _ _ x => x)
  unfold methodCall
  simp only [Nat.add_zero]
  rw [hf]
  unfold calleeOf methodCallPos
  simp only [if_true]
  refine wpAny_bind (wpAny_holding (wpAny_mono h₁ (fun fx s₂ h₂ => ?_) fun _ _ x => x))
  have hp' : (apos.endLine == pos.line) = true := by rw [hp]; simp
  simp only [hp', Bool.not_true, Bool.false_or, if_true]
  exact wpAny_bind (wpAny_pure h₂)

theorem sound_attr {d₁ : Nat} (F : Frm c x d₁) (TK : TopOk c P) (FO : FnsOK c P d Φ) {o : ME} {k : Nat} (ho : SoundE c x Φ o) : SoundE c x Φ (.attr o k) := by
  intro e hm s imm own ι σ ρ m Q E X hl h
  obtain ⟨l, y, p1, rfl, hk⟩ := mt_attr hm
  simp only [Bool.and_eq_true, beq_iff_eq] at hk
  simp only [ee_var, ee_cint, ee_cstr, ee_cnone, ee_cbool, ee_gint, ee_gstr, ee_bin, ee_neg, ee_not, ee_and, ee_or, ee_cmp, ee_cmp2, ee_call, ee_bi, ee_copy, ee_isi, ee_make, ee_meth, ee_attr, ee_idx, ee_sliceTo, ee_sliceFrom, ee_tup, ee_lst, ee_sumAt, ee_rev, ee_strMul] at h
  refine Attribute_any_ ?_ (by show (do let o ← attributeBase l y x.env (eval l x.env); standAt p1.atName; let r ← holding [o] (getAttr o y true); letTemporaryGo l o r; pure r) = _; rw [base_plain hk.2])
  refine ho l hk.2 s imm own ι σ ρ m _ E X hl (Post.bind h fun v σ₁ z h' tk imm' own' ι' hx X' hr h₁ => ?_)
  cases v with
  | loc i =>
    dsimp only at h₁
    split at h₁
    · rename_i cl fs hs
      split at h₁
      · rename_i hat
        obtain ⟨u, hu, h₂⟩ := Post.opt h₁
        obtain ⟨a, dx, C, f, es, n, rfl, hC, hf, hI⟩ := X'.instAt hr hs
        obtain ⟨C', g, y', at', q1, q2, q3, q4, q5, q6, q7, q8, q9⟩ := FO.attr cl k hat
        rw [hC] at q1; cases q1
        rw [TK.attrs, hk.1] at q2; cases q2
        obtain ⟨w, hw, rw'⟩ := hf.get (by rw [TK.attrs]; exact hk.1) hu
        refine get_own X'.fr (F.kin X'.gd) hI q3 q4 q5 q6 hw ?_ (Post.ok h₂ X' rw')
        cases rw' <;> rfl
      · exact h₁.elim
    · exact h₁.elim
  | _ => exact h₁.elim

theorem sound_meth (F : Frm c x (d + 1)) (TK : TopOk c P) (FO : FnsOK c P d Φ) {o : ME} {f : Nat} {args : List ME} (hq : x.quiet = false) (ho : SoundE c x Φ o) (ha : SoundEs c x Φ args) : SoundE c x Φ (.meth o f args) := by
  intro e hm s imm own ι σ ρ m Q E X hl h
  obtain ⟨l, y, p1, es, p2, rfl, hk⟩ := mt_meth hm
  simp only [Bool.and_eq_true, beq_iff_eq] at hk
  obtain ⟨⟨⟨⟨hM, hol⟩, hs⟩, hln⟩, hlen⟩ := hk
  simp only [decide_eq_true_eq] at hlen
  simp only [ee_var, ee_cint, ee_cstr, ee_cnone, ee_cbool, ee_gint, ee_gstr, ee_bin, ee_neg, ee_not, ee_and, ee_or, ee_cmp, ee_cmp2, ee_call, ee_bi, ee_copy, ee_isi, ee_make, ee_meth, ee_attr, ee_idx, ee_sliceTo, ee_sliceFrom, ee_tup, ee_lst, ee_sumAt, ee_rev, ee_strMul] at h
  refine MCall (fun w => base_plain hol) (form_ok hs hlen) hln ?_
  refine ho l hol s imm own ι σ ρ m _ E X hl (Post.bind h fun v σ₁ z h' tk imm' own' ι' hx X' hr h₁ => ?_)
  cases v with
  | loc i =>
    dsimp only at h₁
    cases hv : evalEs Φ ρ args σ₁ with
    | exn _ _ => rw [hv] at h₁; exact h₁.elim
    | stuck => rw [hv] at h₁; exact h₁.elim
    | ok vs σ₂ =>
      rw [hv] at h₁
      simp only [R.got] at h₁
      split at h₁
      · rename_i cl fs cl' fs' hs2 hs1
        split at h₁
        · rename_i hc
          obtain ⟨rfl, hmo⟩ := hc
          obtain ⟨a, dx, C, g, es', n, rfl, hC, hf, hI⟩ := X'.instAt hr hs1
          obtain ⟨C', g', D, y', q1, q2, q3, q4, q5, q6, q7, q8⟩ := FO.meth _ f hmo
          rw [hC] at q1; cases q1
          rw [hM] at q3; cases q3
          refine method_inst X'.fr (F.kin X'.gd) hI q5 q6 q7 (hf.getNone q4) ?_
          have post : Post c x m imm' ι' (relVs c) (evalEs Φ ρ args σ₁) (fun ys s₁ => c.K.In s₁.heap ∧ wpAny (model c.prog c.w) x.A (call (.ref D.addr) ([.ref a] ++ ys)) Q E s₁) E { s with heap := h', toks := tk } := by
            rw [hv]
            intro ys h'' tk' imm'' own'' ι'' hx' X'' hrs
            refine ⟨(F.kin X''.gd).keeps X''.fr.keep, ?_⟩
            refine sound_fncall F FO q2 (fun q => by rw [hq] at q; cases q) X'' (.cons (hr.mono hx') hrs) ?_
            revert h₁
            cases Φ.fn f (.loc i :: vs) σ₂ with
            | ok v' σ₃ => exact fun h₁ y₃ h₃ tk₃ imm₃ own₃ ι₃ hx₃ X₃ hr₃ => h₁ y₃ h₃ tk₃ imm₃ own₃ ι₃ (hx'.trans hx₃) X₃ hr₃
            | exn _ _ => exact fun h₁ e s' T => h₁ e s' (T.back hx')
            | stuck => exact fun h₁ => h₁
          cases args with
          | nil =>
            cases es with
            | cons _ _ => (first | cases mts_n hs | cases mts_n hs.2 | (exact Bool.noConfusion (show false = true from hs)) | exact Bool.noConfusion (show false = true from hs.2))
            | nil =>
              simp only [es_0, es_1] at post
              refine callWith_K0 ((F.kin X'.gd).keeps X'.fr.keep) q8 ?_
              exact (post [] h' tk imm' own' ι' Ext.refl X' .nil).2
          | cons e₁ args =>
            cases es with
            | nil => (first | cases mts_n hs | cases mts_n hs.2 | (exact Bool.noConfusion (show false = true from hs)) | exact Bool.noConfusion (show false = true from hs.2))
            | cons e es =>
              have hs' := hs
              simp only [mts, List.head?_cons, Option.any_some, List.tail_cons, Bool.and_eq_true] at hs
              refine callWith_K (F.kin X'.gd) q8 ?_ (star_cons hs.1) (star_none hs.2)
              exact ha (e :: es) p2 hs' _ imm' own' ι' σ₁ ρ m _ E X' (hl.mono hx) post
        · exact h₁.elim
      · exact h₁.elim
  | _ => exact h₁.elim
end
end Mine
set_option maxRecDepth 100000
set_option linter.unusedVariables false
set_option linter.unusedSectionVars false
namespace Mine
open PySem PySem.W PyProof.Rows PySem.Calls
section
variable {c : Cx} {x : Fx} {d : Nat} {Φ : Fns} {P : Prog}
theorem tupOf_inv {v : V} {ws : List V} (h : tupOf v = some ws) : v = .tup ws := by
  cases v with
  | tup us => exact congrArg V.tup (Option.some.inj h)
  | _ => cases h
/-- an item of a tuple that lies in the heap -/
noncomputable def AtK (h : Heap) (k : Nat) (v y : Value) : Prop := ∃ (a : Addr) (xs : List Value) (i : Int) (t t' : Tok), v = .ref a ∧ IsTup h a xs.toArray ∧ xs[k]? = some (.int i t') ∧ y = .int i t
theorem tup_same {h : Heap} {a : Addr} {xs ys : List Value} (h1 : IsTup h a xs.toArray) (h2 : IsTup h a ys.toArray) : xs = ys := by
  obtain ⟨o, e, _, n, q⟩ := h1
  obtain ⟨o', e', _, n', q'⟩ := h2
  rw [e] at e'
  cases e'
  rw [q] at q'
  injection q' with q1
  simpa using q1
theorem col_paired {Z : Nms} {B : Bas} {h₀ : Heap → Prop} {L : Addr} {fz : Led} {h : Heap} {m : Str → Option Value} {imm own : Led} {ι : List Addr} {σ : Store} (X : St Z B h₀ L fz h m imm own ι σ) {k : Nat} : ∀ {vs : List V} {xs : List Value} {is : List Int} {ys : List Value},
    Reps B imm ι vs xs → colOf k vs = some is → Paired (AtK h k) xs ys → (∀ y ∈ ys, ∃ i t, y = Value.int i t) ∧ numsOf ys = is
  | [], _, is, _, .nil, hc, .nil => by
    simp only [colOf, Option.some.injEq] at hc
    subst hc
    exact ⟨nofun, rfl⟩
  | v :: vs, _, is, _, .cons hv hr, hc, .cons (b := y) ha hp => by
    simp only [colOf] at hc
    obtain ⟨ws, h1, hc⟩ := Option.bind_eq_some_iff.mp hc
    obtain ⟨w, h2, hc⟩ := Option.bind_eq_some_iff.mp hc
    obtain ⟨i, h3, hc⟩ := Option.bind_eq_some_iff.mp hc
    obtain ⟨is', h4, rfl⟩ := Option.map_eq_some_iff.mp hc
    obtain rfl := tupOf_inv h1
    obtain rfl := asInt_inv h3
    obtain ⟨q1, q2⟩ := col_paired X hr h4 hp
    obtain ⟨a, zs, j, t, t', e, hT, hz, rfl⟩ := ha
    obtain ⟨b, us, e', hT', rs⟩ := X.isTup hv
    rw [e] at e'
    cases e'
    have := tup_same hT hT'
    subst this
    obtain ⟨u, hu, hru⟩ := rs.get h2
    rw [hz] at hu
    cases hu
    obtain ⟨t2, e2⟩ := inv_int hru
    cases e2
    refine ⟨fun y hy => ?_, ?_⟩
    · rcases List.mem_cons.mp hy with rfl | hy
      · exact ⟨_, _, rfl⟩
      · exact q1 y hy
    · simp only [numsOf, q2]
theorem at_mem {Z : Nms} {B : Bas} {h₀ : Heap → Prop} {L : Addr} {fz : Led} {h : Heap} {m : Str → Option Value} {imm own : Led} {ι : List Addr} {σ : Store} (X : St Z B h₀ L fz h m imm own ι σ) {k : Nat} : ∀ {vs : List V} {xs : List Value} {is : List Int},
    Reps B imm ι vs xs → colOf k vs = some is → ∀ y ∈ xs, ∃ (a : Addr) (zs : List Value) (i : Int) (t : Tok), y = .ref a ∧ IsTup h a zs.toArray ∧ zs[k]? = some (.int i t)
  | [], _, is, .nil, hc, y, hy => by cases hy
  | v :: vs, _, is, .cons hv hr, hc, y, hy => by
    simp only [colOf] at hc
    obtain ⟨ws, h1, hc⟩ := Option.bind_eq_some_iff.mp hc
    obtain ⟨w, h2, hc⟩ := Option.bind_eq_some_iff.mp hc
    obtain ⟨i, h3, hc⟩ := Option.bind_eq_some_iff.mp hc
    obtain ⟨is', h4, rfl⟩ := Option.map_eq_some_iff.mp hc
    rcases List.mem_cons.mp hy with rfl | hy
    · obtain rfl := tupOf_inv h1
      obtain rfl := asInt_inv h3
      obtain ⟨b, us, e', hT', rs⟩ := X.isTup hv
      obtain ⟨u, hu, hru⟩ := rs.get h2
      obtain ⟨t2, e2⟩ := inv_int hru
      exact ⟨b, us, i, t2, e', hT', by rw [hu, e2]⟩
    · exact at_mem X hr h4 y hy
theorem sound_sumAt (F : Frm c x d) (TK : TopOk c P) {k i : Nat} (hq : x.quiet = false) : SoundE c x Φ (.sumAt k i) := by
  intro e hm s imm own ι σ ρ m Q E X hl h
  obtain ⟨y, p1, z, p2, cc, p3, p4, p5, gs, sc, p6, p7, rfl, hk⟩ := mt_sumAt hm
  obtain ⟨hk, hgs⟩ := and_inv hk
  obtain ⟨hk, hsc⟩ := and_inv hk
  obtain ⟨hk, hcc⟩ := and_inv hk
  obtain ⟨hk, hz⟩ := and_inv hk
  obtain ⟨hy, hg⟩ := and_inv hk
  obtain rfl := beq_iff_eq.mp hy
  obtain rfl := of_decide_eq_true hcc
  obtain ⟨g, hg1, hg2⟩ := any_inv hgs
  obtain rfl := one_inv hg1
  obtain ⟨hgo, hit⟩ := and_inv hg2
  obtain ⟨gt, gi, gf, ga⟩ := g
  obtain ⟨h1, hgo⟩ := and_inv hgo
  obtain ⟨h2, h3⟩ := and_inv hgo
  obtain ⟨⟨q, pq⟩, h5, h6⟩ := any_inv h1
  obtain ⟨⟨nm, pn⟩, h7, h8⟩ := any_inv hit
  obtain ⟨h8, h9⟩ := and_inv h8
  have e1 := vName_inv h5
  have e2 := nil_inv h2
  have e3 := of_decide_eq_true h3
  have e4 := beq_iff_eq.mp h6
  have e5 := vName_inv h7
  have e6 := beq_iff_eq.mp h8
  dsimp only at e1 e2 e3 e4 e5 e6 h9
  subst e1 e2 e3 e4 e5
  obtain ⟨hs1, hs2⟩ := and_inv hsc
  obtain ⟨hs2, hs3⟩ := and_inv hs2
  have hkind := of_decide_eq_true hs1
  have hlook := of_decide_eq_true hs2
  rw [List.all_eq_true] at hs3
  have hnm : ∀ p ∈ sc.names, p.2 = .local ∧ sc.names.lookup p.1 = some .local := fun p hp => ⟨of_decide_eq_true (and_inv (hs3 p hp)).1, of_decide_eq_true (and_inv (hs3 p hp)).2⟩
  have hz' : (q == ("__debug__" : Str)) = false := by simpa using hz
  have hn' : (nm == ("__debug__" : Str)) = false := by simpa using h9
  simp only [ee_var, ee_cint, ee_cstr, ee_cnone, ee_cbool, ee_gint, ee_gstr, ee_bin, ee_neg, ee_not, ee_and, ee_or, ee_cmp, ee_cmp2, ee_call, ee_bi, ee_copy, ee_isi, ee_make, ee_meth, ee_attr, ee_idx, ee_sliceTo, ee_sliceFrom, ee_tup, ee_lst, ee_sumAt, ee_rev, ee_strMul] at h
  split at h
  · rename_i v hv
    obtain ⟨u, hu, h⟩ := Post.opt h
    obtain ⟨vs, hvs, hu⟩ := Option.bind_eq_some_iff.mp hu
    obtain ⟨is, his, hu⟩ := Option.bind_eq_some_iff.mp hu
    split at hu
    · rename_i hlen
      cases hu
      obtain ⟨y, hmy, hry⟩ := hl i nm v e6 hv
      obtain ⟨ax, xs, rfl, hL, rs⟩ := X.isList hry hvs
      refine Call_ (name_B X.fr (F.kin X.gd) (topRead_of (F.top X.gd)) (TK.boot _ (by decide)) boot_sum (by decide) ?_ F.kind (Fx.glob hg) (by decide))
      refine callWith_builtin1 ?_ rfl rfl
      refine args_cons ?_ rfl
      refine wpAny_ListComp_map (fun _ => true) (AtK s.heap k) (F.calm hq) (fun p hp => by rw [(hnm p hp).1]; decide) (fun p hp => by rw [(hnm p hp).1]; decide) hkind (fun p hp _ => (hnm p hp).2) hlook ?_ (by intro _; rfl)
      refine ld X.fr hmy ?_ F.kind (F.loc nm (List.mem_of_getElem? e6)) hn'
      refine ⟨ax, xs.toArray, rfl, hL, by simp only [List.size_toArray]; rw [rs.length, sizeLine_eq]; omega, ?_, ?_, ?_⟩
      · intro C w s₂ m₂ E' _ _ _ _
        exact wpAny_tests_nil ⟨rfl, s₂.heap, s₂.toks, rfl, fun _ _ e => e⟩
      · intro C w s₂ m₂ E' hw _ hn hm hkp
        obtain ⟨a, zs, j, t, rfl, hT, hz⟩ := at_mem X rs his w (by simpa using hw)
        have hT2 : IsTup s₂.heap a zs.toArray := by
          obtain ⟨o, ho, q⟩ := hT
          exact ⟨o, hkp _ _ ho, q⟩
        have hlt : k < zs.length := (List.getElem?_eq_some_iff.mp hz).1
        refine Subscript_ (ldK (.start hn) hkind hlook hm ?_ hz')
        refine wpAny_Constant_int ?_
        refine item_tupleT (j := k) (s := { s₂ with toks := _ }) hT2 (by omega) (by omega) ?_ hz ?_ rfl
        · unfold seqIndex?
          have e1 : ¬ (k : Int) < 0 := by omega
          simp only [e1, if_false]
          have e2 : (0 ≤ (k : Int)) := by omega
          have e3 : (k : Int) < (zs.length : Int) := by omega
          simp [e2, e3]
        · exact ⟨⟨a, zs, j, t, t, rfl, hT, hz, rfl⟩, s₂.heap, _, rfl, fun _ _ e => e⟩
      · intro D h' tk ys hnew hlD hF hkp
        have hF' : Paired (AtK s.heap k) xs ys.toList := by
          rw [show xs.toArray.toList.filter (fun _ => true) = xs from List.filter_eq_self.mpr fun _ _ => rfl] at hF
          exact hF
        obtain ⟨q1, q2⟩ := col_paired X rs his hF'
        have hall : AllInts ys := fun v hv => q1 v (by simpa using hv)
        obtain ⟨zs, rfl⟩ := hall.items
        rw [nums_intItems] at q2
        refine args_nil ?_
        have X' := X.keeps hkp
        refine sum_intListG (F.calm hq) hlD fun h'' tk' t' hk'' => ?_
        rw [preSum_eq, List.take_of_length_le (by simp), q2]
        exact h _ h'' tk' imm own ι Ext.refl (X'.keeps hk'') (.int _ _)
    · cases hu
  · exact h.elim
theorem sound_strMul {w : Str} {a : ME} (ha : SoundE c x Φ a) : SoundE c x Φ (.strMul w a) := by
  intro e hm s imm own ι σ ρ m Q E X hl h
  obtain ⟨p1, p2, r, p3, rfl, hk⟩ := mt_strMul hm
  simp only [ee_var, ee_cint, ee_cstr, ee_cnone, ee_cbool, ee_gint, ee_gstr, ee_bin, ee_neg, ee_not, ee_and, ee_or, ee_cmp, ee_cmp2, ee_call, ee_bi, ee_copy, ee_isi, ee_make, ee_meth, ee_attr, ee_idx, ee_sliceTo, ee_sliceFrom, ee_tup, ee_lst, ee_sumAt, ee_rev, ee_strMul] at h
  refine wpAny_BinOp (Calls.Constant_str ?_)
  refine ha r hk _ imm own ι σ ρ m _ E X hl (Post.bind h fun v σ₁ y h' tk imm' own' ι' hx X' hr h₁ => ?_)
  obtain ⟨u, hu, h₂⟩ := Post.opt h₁
  obtain ⟨n, hn, hu2⟩ := Option.bind_eq_some_iff.mp hu
  clear hu
  have hu := hu2
  clear hu2
  obtain rfl := asInt_inv hn
  obtain ⟨t, rfl⟩ := inv_int hr
  unfold strMulV at hu
  split at hu
  · rename_i e0
    subst e0
    cases hu
    exact P.mul_str_none (by decide) (by decide) (Post.ok h₂ X' (.str _ _))
  · split at hu
    · rename_i e1
      subst e1
      cases hu
      exact P.mul_str (by decide) (fun _ h => by simp at h) (fun _ h => by simp at h) (Post.ok (tk := tk) h₂ X' (.str _ _))
    · cases hu
theorem rev4_inv {vs : List V} {u : V} (h : rev4 vs = some u) : ∃ a b c d, vs = [a, b, c, d] ∧ u = .lst [d, c, b, a] := by
  unfold rev4 at h
  split at h
  · exact ⟨_, _, _, _, rfl, (Option.some.inj h).symm⟩
  · cases h
theorem sound_rev {a : ME} (ha : SoundE c x Φ a) : SoundE c x Φ (.rev a) := by
  intro e hm s imm own ι σ ρ m Q E X hl h
  obtain ⟨l, p1, p2, p3, p4, p5, rfl, hk⟩ := mt_rev hm
  simp only [ee_var, ee_cint, ee_cstr, ee_cnone, ee_cbool, ee_gint, ee_gstr, ee_bin, ee_neg, ee_not, ee_and, ee_or, ee_cmp, ee_cmp2, ee_call, ee_bi, ee_copy, ee_isi, ee_make, ee_meth, ee_attr, ee_idx, ee_sliceTo, ee_sliceFrom, ee_tup, ee_lst, ee_sumAt, ee_rev, ee_strMul] at h
  refine Subscript_ ?_
  refine ha l hk s imm own ι σ ρ m _ E X hl (Post.bind h fun v σ₁ y h' tk imm' own' ι' hx X' hr h₁ => ?_)
  obtain ⟨u, hu, h₂⟩ := Post.opt h₁
  obtain ⟨vs, hvs, hu⟩ := Option.bind_eq_some_iff.mp hu
  obtain ⟨v1, v2, v3, v4, rfl, rfl⟩ := rev4_inv hu
  obtain ⟨ax, xs, rfl, hL, rs⟩ := X'.isList hr hvs
  refine wpAny_Slice (evalPart_none_step (evalPart_none_step (evalPart_some_step ?_)))
  refine sound_neg (Φ := Φ) (a := .cint 1) sound_cint (.UnaryOp .USub (.Constant (.int 1) p1 p2) p3) rfl _ imm' own' ι' σ₁ ρ m _ E X' (hl.mono hx) ?_
  intro w h₃ tk₃ imm₃ own₃ ι₃ hx₃ X₃ hr₃
  obtain ⟨t, rfl⟩ := inv_int hr₃
  obtain ⟨ax', xs', e, hL₃, rs₃⟩ := X₃.isList (hr.mono hx₃) hvs
  cases e
  cases rs₃ with
  | @cons _ y1 _ _ r1 rs₃ =>
  cases rs₃ with
  | @cons _ y2 _ _ r2 rs₃ =>
  cases rs₃ with
  | @cons _ y3 _ _ r3 rs₃ =>
  cases rs₃ with
  | @cons _ y4 _ _ r4 rs₃ =>
  cases rs₃
  refine tail_any (Heap.IsList.typeIs (s := { s with heap := h₃.push { cls := .type "slice", data := .fields #[.none, .none, .int (-1) t] }, toks := tk₃ }) (hL₃.push _)) slot_list_getitem.lookup
    (wpAny_getItem_list_slice (lo := none) (hi := none) (st := some (-1)) (hL₃.push _) (Heap.IsSliceOf.new ..) .none .none (.int _ _) (by simp) ?_ (by show 4 ≤ sizeLine; decide)) rfl
  have pk : slicePick [y1, y2, y3, y4].toArray none none (some (-1)) = [y4, y3, y2, y1].toArray := by
    have b : sliceBounds none none (some (-1)) 4 = (3, -1, -1) := by decide
    have r : sliceRange 3 (-1) (-1) = [3, 2, 1, 0] := by decide
    show ((sliceRange (sliceBounds none none (some (-1)) 4).1 (sliceBounds none none (some (-1)) 4).2.1 (sliceBounds none none (some (-1)) 4).2.2).filterMap ([y1, y2, y3, y4].toArray[·]?)).toArray = _
    rw [b, r]
    rfl
  rw [pk]
  have F1 := X₃.fr.push { cls := .type "slice", data := .fields #[.none, .none, .int (-1) t] }
  have N1 := News.push F1 (X₃.news.grown fun _ _ e => Heap.get?_push_of_some _ e) { cls := .type "list", data := .seq [y4, y3, y2, y1].toArray }
  have F2 := F1.push { cls := .type "list", data := .seq [y4, y3, y2, y1].toArray }
  have hlt : ∀ p ∈ own₃ ++ (imm₃ ++ x.fz), p.1 < (h₃.push { cls := .type "slice", data := .fields #[.none, .none, .int (-1) t] }).objs.size := fun p hp => by
    rw [Heap.size_push]; exact Nat.lt_succ_of_lt (X₃.lt p hp)
  exact h₂ _ _ tk₃ _ own₃ ι₃ (hx₃.trans (Ext.imm _)) (X₃.newImm (o := lstObj _ 0) F2 N1 hlt) (.lst (n := 0) (.head _) (.mono (Ext.imm _) (.cons r4 (.cons r3 (.cons r2 (.cons r1 .nil))))))
end
end Mine
set_option maxRecDepth 100000
set_option linter.unusedVariables false
set_option linter.unusedSectionVars false
namespace Mine
open PySem PySem.W PyProof.Rows PySem.Calls
section
variable {c : Cx} {x : Fx} {d : Nat} {Φ : Fns} {P : Prog}

theorem St.newInst {Z : Nms} {B : Bas} {h₀ : Heap → Prop} {L : Addr} {fz : Led} {h h' : Heap} {m : Str → Option Value} {imm own : Led} {ι : List Addr} {σ : Store} {a dx C : Addr} {k f : Nat} (X : St Z B h₀ L fz h m imm own ι σ) (F : Fr X.g L h' m) (N : News X.g L h' ((a, instObj C dx) :: (dx, dictOf [] 0) :: (own ++ (imm ++ fz))))
    (hd : ∀ p ∈ own ++ (imm ++ fz), p.1 < dx) (ha : dx < a) (hk : Z.classes[k]? = some (C, f)) : St Z B h₀ L fz h' m imm (own ++ [(a, instObj C dx), (dx, dictOf [] 0)]) (ι ++ [a]) (σ ++ [.inst k []]) := by
  have hp : ((own ++ [(a, instObj C dx), (dx, dictOf [] 0)]) ++ (imm ++ fz)).Perm ((a, instObj C dx) :: (dx, dictOf [] 0) :: (own ++ (imm ++ fz))) := by
    rw [List.append_assoc]
    exact List.perm_middle.trans (List.Perm.cons _ List.perm_middle)
  have n1 : (((dx, dictOf [] 0) :: (own ++ (imm ++ fz))).map (·.1)).Nodup := nodup_new (List.Perm.refl _) X.nd hd
  refine ⟨X.g, X.gd, F, News.sub N fun p q => hp.mem_iff.mp q, nodup_new hp n1 fun p q => ?_, (X.owned.mono (Ext.own _)).append (.inst hk .nil .nil), X.base⟩
  rcases List.mem_cons.mp q with rfl | q
  · exact ha
  · exact Nat.lt_trans (hd p q) ha

theorem sound_make (F : Frm c x (d + 1)) (TK : TopOk c P) (FO : FnsOK c P d Φ) {k : Nat} {args : List ME} (hq : x.quiet = false) (ha : SoundEs c x Φ args) : SoundE c x Φ (.make k args) := by
  intro e hm s imm own ι σ ρ m Q E X hl h
  obtain ⟨y, p1, es, p2, rfl, hk⟩ := mt_make hm
  simp only [Bool.and_eq_true, beq_iff_eq, bne_iff_ne, ne_eq] at hk
  obtain ⟨⟨⟨⟨hf, hg⟩, hd⟩, hs⟩, hne⟩ := hk
  simp only [ee_var, ee_cint, ee_cstr, ee_cnone, ee_cbool, ee_gint, ee_gstr, ee_bin, ee_neg, ee_not, ee_and, ee_or, ee_cmp, ee_cmp2, ee_call, ee_bi, ee_copy, ee_isi, ee_make, ee_meth, ee_attr, ee_idx, ee_sliceTo, ee_sliceFrom, ee_tup, ee_lst, ee_sumAt, ee_rev, ee_strMul] at h
  obtain ⟨C, f, hC, hn, hkeep⟩ := TK.classes y k hf
  obtain ⟨D, hD, q1, q2, q3⟩ := FO.make k C f hC
  refine Call_ (name_K X.fr (F.kin X.gd) (topRead_of (F.top X.gd)) hn ?_ F.kind (Fx.glob hg) (by simpa using hd))
  cases args with
  | nil => simp at hne
  | cons a args =>
    cases es with
    | nil => (first | cases mts_n hs | cases mts_n hs.2 | (exact Bool.noConfusion (show false = true from hs)) | exact Bool.noConfusion (show false = true from hs.2))
    | cons e es =>
      have hs' := hs
      simp only [mts, List.head?_cons, Option.any_some, List.tail_cons, Bool.and_eq_true] at hs
      refine callWith_K (F.kin X.gd) hkeep ?_ (star_cons hs.1) (star_none hs.2)
      refine ha (e :: es) p2 hs' s imm own ι σ ρ m _ E X hl (Post.bind h fun vs σ₁ ys h' tk imm' own' ι' hx X' hr h₁ => ⟨(F.kin X'.gd).keeps X'.fr.keep, ?_⟩)
      split at h₁
      · rename_i f' hi
        obtain ⟨C', hC'⟩ := FO.init k f' hi
        rw [hC] at hC'; cases hC'
        refine call_cls X'.fr (F.kin X'.gd) X'.news q1 q2 q3 fun z dz h'' F' N' hlt hlt' => ?_
        have X₂ := X'.newInst F' N' hlt hlt' hC
        have ns : Φ.fn f (.loc σ₁.length :: vs) (σ₁ ++ [.inst k []]) ≠ .stuck := by
          intro q; rw [q] at h₁; exact h₁
        obtain ⟨D', hD', hfn⟩ := FO.fn f _ _ ns
        rw [hD] at hD'; cases hD'
        have h1 := F.depth
        have h2 := F.units
        refine hfn { x with A := x.A.under _ } m _ imm' _ _ _ _ _ _ ⟨F.kinB, F.topB, F.atB, F.imp, F.frames, F.calm, F.kind, F.loc, F.nd, ?_, ?_, F.tree, F.gen, F.coro⟩ (fun q => by rw [hq] at q; cases q) X₂ (.cons X'.locNew (hr.mono (Ext.own _))) ?_
        · show x.A.depth + 1 + d + 120 < recursionLimit
          omega
        · show x.A.units + 1 + 8 * d + 200 < cLine
          omega
        · revert h₁
          cases Φ.fn f (.loc σ₁.length :: vs) (σ₁ ++ [.inst k []]) with
          | exn _ _ => exact fun h₁ e s' T => h₁ e s' (T.back (Ext.own _))
          | stuck => exact fun h₁ => h₁
          | ok v σ₂ =>
            intro h₁ y h₃ tk₃ imm₃ own₃ ι₃ hx₃ X₃ hr₃
            simp only [R.bind] at h₁
            cases v with
            | none =>
              obtain rfl := inv_none hr₃
              exact ⟨rfl, h₁ _ h₃ tk₃ imm₃ own₃ ι₃ ((Ext.own _).trans hx₃) X₃ (X'.locNew.mono hx₃)⟩
            | _ => exact h₁.elim
      · exact h₁.elim

/-- an expression as a test -/
noncomputable def SoundT (c : Cx) (x : Fx) (Φ : Fns) (me : ME) : Prop := ∀ (e : Expr), mt c.T x.G x.S c.M me e = true → ∀ (s : Shared) (imm own : Led) (ι : List Addr) (σ : Store) (ρ : Loc) (m : Str → Option Value) (Q : Bool → Shared → Prop) (E : Value → Shared → Prop),
  St c.Z c.B (Gnd x) x.L x.fz s.heap m imm own ι σ → LocRel c.B imm ι x.S ρ m → Post c x m imm ι (fun _ _ a b => a = b) ((evalE Φ ρ me σ).bind fun v σ => ofOpt (truth v) σ) Q E s → wpAny (model c.prog c.w) x.A (isTrue e x.env (eval e x.env)) Q E s

/-- the last step of a test -/
theorem sound_last {v : V} {y : Value} {s : Shared} {imm own : Led} {ι : List Addr} {σ : Store} {m : Str → Option Value} {Q : Bool → Shared → Prop} {E : Value → Shared → Prop} (X : St c.Z c.B (Gnd x) x.L x.fz s.heap m imm own ι σ) (hr : Rep c.B imm ι v y)
    (h : Post c x m imm ι (fun _ _ a b => a = b) (ofOpt (truth v) σ) Q E s) : wpAny (model c.prog c.w) x.A (truthy y) Q E s := by
  obtain ⟨b, hb, h⟩ := Post.opt h
  exact sound_truthy hr hb (Post.ok (tk := s.toks) h X rfl)

theorem test_plain {me : ME} (h1 : SoundE c x Φ me) (hp : ∀ e, mt c.T x.G x.S c.M me e = true → ∀ whole, isTrue e x.env whole = (do let v ← whole; standAt e.pos; holding [v] (truthy v))) : SoundT c x Φ me := by
  intro e hm s imm own ι σ ρ m Q E X hl h
  refine isTrue_plain ?_ (hp e hm _)
  refine h1 e hm s imm own ι σ ρ m _ E X hl (Post.bind h fun v σ₁ y h' tk imm' own' ι' hx X' hr h₁ => ?_)
  exact sound_last X' hr h₁

theorem bind_assoc {α β γ : Type} (r : R α) (f : α → Store → R β) (g : β → Store → R γ) : (r.bind f).bind g = r.bind fun a σ => (f a σ).bind g := by cases r <;> rfl

theorem test_not {a : ME} (ha : SoundT c x Φ a) : SoundT c x Φ (.not a) := by
  intro e hm s imm own ι σ ρ m Q E X hl h
  obtain ⟨l, p, rfl, hk⟩ := mt_not hm
  refine isTrue_not (ha l hk s imm own ι σ ρ m _ E X hl ?_)
  simp only [ee_var, ee_cint, ee_cstr, ee_cnone, ee_cbool, ee_gint, ee_gstr, ee_bin, ee_neg, ee_not, ee_and, ee_or, ee_cmp, ee_cmp2, ee_call, ee_bi, ee_copy, ee_isi, ee_make, ee_meth, ee_attr, ee_idx, ee_sliceTo, ee_sliceFrom, ee_tup, ee_lst, ee_sumAt, ee_rev, ee_strMul, bind_assoc] at h
  revert h
  cases evalE Φ ρ a σ with
  | exn _ _ => exact fun h => h
  | stuck => exact fun h => h
  | ok v σ₁ =>
    simp only [R.bind]
    cases truth v with
    | none => exact fun h => h
    | some b => exact fun h y h' tk imm' own' ι' hx X' e => h (!y) h' tk imm' own' ι' hx X' (by rw [e])
theorem test_cmp (F : Frm c x d) {op : CmpOp} {a b : ME} (ha : SoundE c x Φ a) (hb : SoundE c x Φ b) : SoundT c x Φ (.cmp op a b) := by
  intro e hm s imm own ι σ ρ m Q E X hl h
  obtain ⟨l, o, r, p, rfl, hk⟩ := mt_cmp hm
  simp only [Bool.and_eq_true, beq_iff_eq] at hk
  obtain ⟨⟨rfl, h1⟩, h2⟩ := hk
  simp only [ee_var, ee_cint, ee_cstr, ee_cnone, ee_cbool, ee_gint, ee_gstr, ee_bin, ee_neg, ee_not, ee_and, ee_or, ee_cmp, ee_cmp2, ee_call, ee_bi, ee_copy, ee_isi, ee_make, ee_meth, ee_attr, ee_idx, ee_sliceTo, ee_sliceFrom, ee_tup, ee_lst, ee_sumAt, ee_rev, ee_strMul, bind_assoc] at h
  refine wpAny_isTrue_Compare1 ?_ (marks_no h2)
  refine ha l h1 s imm own ι σ ρ m _ E X hl (Post.bind h fun v σ₁ y h' tk imm' own' ι' hx X' hr h₁ => ?_)
  refine hb r h2 _ imm' own' ι' σ₁ ρ m _ E X' (hl.mono hx) (Post.bind h₁ fun w σ₂ z h'' tk' imm'' own'' ι'' hx' X'' hr' h₂ => ?_)
  refine sound_cmpop F X'' (hr.mono hx') hr' (Post.bind h₂ fun q σ₃ qy h₃' tk₃ imm₃ own₃ ι₃ hx₃ X₃ hr₃ h₃ => ?_)
  exact sound_last X₃ hr₃ h₃
theorem test_cmp2 (F : Frm c x d) {o₁ o₂ : CmpOp} {a b e₃ : ME} (ha : SoundE c x Φ a) (hb : SoundE c x Φ b) (hc : SoundE c x Φ e₃) : SoundT c x Φ (.cmp2 o₁ o₂ a b e₃) := by
  intro e hm s imm own ι σ ρ m Q E X hl h
  obtain ⟨l, p₁, p₂, r₁, r₂, p, rfl, hk⟩ := mt_cmp2 hm
  simp only [Bool.and_eq_true, beq_iff_eq] at hk
  obtain ⟨⟨⟨⟨rfl, rfl⟩, h1⟩, h2⟩, h3⟩ := hk
  simp only [ee_var, ee_cint, ee_cstr, ee_cnone, ee_cbool, ee_gint, ee_gstr, ee_bin, ee_neg, ee_not, ee_and, ee_or, ee_cmp, ee_cmp2, ee_call, ee_bi, ee_copy, ee_isi, ee_make, ee_meth, ee_attr, ee_idx, ee_sliceTo, ee_sliceFrom, ee_tup, ee_lst, ee_sumAt, ee_rev, ee_strMul, bind_assoc] at h
  refine isTrue_chain ?_ (by show lastMarks [o₂] [r₂] = false; exact marks_no h3)
  refine ha l h1 s imm own ι σ ρ m _ E X hl (Post.bind h fun v σ₁ y h' tk imm' own' ι' hx X' hr h₁ => ?_)
  refine test_link ?_
  refine hb r₁ h2 _ imm' own' ι' σ₁ ρ m _ E X' (hl.mono hx) (Post.bind h₁ fun w σ₂ z h'' tk' imm'' own'' ι'' hx' X'' hr' h₂ => ?_)
  refine sound_cmpop F X'' (hr.mono hx') hr' (Post.bind h₂ fun q σ₃ qy h₃' tk₃ imm₃ own₃ ι₃ hx₃ X₃ hr₃ h₃ => ?_)
  obtain ⟨t, ht⟩ : ∃ t, truth q = some t := by
    cases e : truth q with
    | none => rw [e] at h₃; exact h₃.elim
    | some t => exact ⟨t, rfl⟩
  refine sound_truthy hr₃ ht ?_
  rw [ht] at h₃
  cases t with
  | false =>
    simp only [ofOpt, R.bind, Bool.false_eq_true, if_false, ht] at h₃
    exact Post.ok (tk := tk₃) h₃ X₃ rfl
  | true =>
    rw [if_pos rfl]
    simp only [ofOpt, R.bind, if_true] at h₃
    refine test_last ?_
    have h₄ : Post c x m imm₃ ι₃ (fun _ _ a b => a = b) ((evalE Φ ρ e₃ σ₃).bind fun z σ => (ofOpt (cmpV σ o₂ w z) σ).bind fun v σ => ofOpt (truth v) σ) Q E { s with heap := h₃', toks := tk₃ } := by
      rw [← bind_assoc]; exact h₃
    refine hc r₂ h3 _ imm₃ own₃ ι₃ σ₃ ρ m _ E X₃ ((hl.mono hx).mono (hx'.trans hx₃)) (Post.bind h₄ fun u σ₄ uy h₄' tk₄ imm₄ own₄ ι₄ hx₄ X₄ hr₄ h₅ => ?_)
    refine sound_cmpop F X₄ (hr'.mono (hx₃.trans hx₄)) hr₄ (Post.bind h₅ fun q' σ₅ qy' h₅' tk₅ imm₅ own₅ ι₅ hx₅ X₅ hr₅ h₆ => ?_)
    exact sound_last X₅ hr₅ h₆

noncomputable def SoundTA (c : Cx) (x : Fx) (Φ : Fns) (mes : List ME) : Prop := ∀ (es : List Expr) (pos : Pos) (whole : Sem Value), mts c.T x.G x.S c.M mes es = true → mes ≠ [] → ∀ (s : Shared) (imm own : Led) (ι : List Addr) (σ : Store) (ρ : Loc) (m : Str → Option Value) (Q : Bool → Shared → Prop) (E : Value → Shared → Prop),
  St c.Z c.B (Gnd x) x.L x.fz s.heap m imm own ι σ → LocRel c.B imm ι x.S ρ m → Post c x m imm ι (fun _ _ a b => a = b) ((evalAnd Φ ρ mes σ).bind fun v σ => ofOpt (truth v) σ) Q E s → wpAny (model c.prog c.w) x.A (isTrue (.BoolOp .And es pos) x.env whole) Q E s
noncomputable def SoundTO (c : Cx) (x : Fx) (Φ : Fns) (mes : List ME) : Prop := ∀ (es : List Expr) (pos : Pos) (whole : Sem Value), mts c.T x.G x.S c.M mes es = true → mes ≠ [] → ∀ (s : Shared) (imm own : Led) (ι : List Addr) (σ : Store) (ρ : Loc) (m : Str → Option Value) (Q : Bool → Shared → Prop) (E : Value → Shared → Prop),
  St c.Z c.B (Gnd x) x.L x.fz s.heap m imm own ι σ → LocRel c.B imm ι x.S ρ m → Post c x m imm ι (fun _ _ a b => a = b) ((evalOr Φ ρ mes σ).bind fun v σ => ofOpt (truth v) σ) Q E s → wpAny (model c.prog c.w) x.A (isTrue (.BoolOp .Or es pos) x.env whole) Q E s
theorem testA_nil : SoundTA c x Φ [] := fun _ _ _ _ h => absurd rfl h
theorem testO_nil : SoundTO c x Φ [] := fun _ _ _ _ h => absurd rfl h
/-- the outcome of a test at hand, made ready for what goes on -/
theorem Post.test {α β : Type} {m : Str → Option Value} {imm : Led} {ι : List Addr} {r : R V} {f : V → Bool → Store → R α} {rel' : Led → List Addr → α → β → Prop} {Q : β → Shared → Prop} {Q' : Bool → Shared → Prop} {s : Shared}
    (h : Post c x m imm ι rel' (r.bind fun v σ => (ofOpt (truth v) σ).bind fun t σ => f v t σ) Q E s)
    (k : ∀ v t σ₁ h' tk imm' own' ι', truth v = some t → Ext imm imm' ι ι' → St c.Z c.B (Gnd x) x.L x.fz h' m imm' own' ι' σ₁ → Post c x m imm' ι' rel' (f v t σ₁) Q E { s with heap := h', toks := tk } → Q' t { s with heap := h', toks := tk }) :
    Post c x m imm ι (fun _ _ a b => a = b) (r.bind fun v σ => ofOpt (truth v) σ) Q' E s := by
  cases r with
  | exn _ _ => exact h
  | stuck => exact h
  | ok v σ₁ =>
    simp only [R.bind] at h ⊢
    cases e : truth v with
    | none => rw [e] at h; exact h
    | some t =>
      rw [e] at h
      intro y h' tk imm' own' ι' hx X' ey
      subst ey
      refine k v t σ₁ h' tk imm' own' ι' e hx X' ?_
      have h2 : Post c x m imm ι rel' (f v t σ₁) Q E s := h
      revert h2
      cases f v t σ₁ with
      | ok v' σ₂ => exact fun h2 y' h'' tk' imm'' own'' ι'' hx' hs' hr' => h2 y' h'' tk' imm'' own'' ι'' (hx.trans hx') hs' hr'
      | exn _ _ => exact fun h2 e s' T => h2 e s' (T.back hx)
      | stuck => exact fun h2 => h2

theorem testA_cons {me : ME} {mes : List ME} (h1 : SoundT c x Φ me) (h2 : SoundTA c x Φ mes) : SoundTA c x Φ (me :: mes) := by
  intro es pos whole hm _ s imm own ι σ ρ m Q E X hl h
  cases es with
  | nil => (first | cases mts_n hm | cases mts_n hm.2 | (exact Bool.noConfusion (show false = true from hm)) | exact Bool.noConfusion (show false = true from hm.2))
  | cons e es =>
    simp only [mts, List.head?_cons, Option.any_some, List.tail_cons, Bool.and_eq_true] at hm
    simp only [ea_0, ea_1, bind_assoc] at h
    refine isTrue_and ?_
    cases mes with
    | nil =>
      cases es with
      | cons _ _ => (first | cases mts_n hm | cases mts_n hm.2 | (exact Bool.noConfusion (show false = true from hm)) | exact Bool.noConfusion (show false = true from hm.2))
      | nil =>
        refine h1 e hm.1 s imm own ι σ ρ m _ E X hl ?_
        have h' : Post c x m imm ι (fun _ _ a b => a = b) ((evalE Φ ρ me σ).bind fun v σ => (ofOpt (truth v) σ).bind fun t σ => .ok t σ) Q E s := by
          revert h
          cases evalE Φ ρ me σ with
          | exn _ _ => exact fun h => h
          | stuck => exact fun h => h
          | ok v σ₁ => simp only [R.bind]; cases truth v <;> exact fun h => h
        refine Post.test h' fun v t σ₁ h' tk imm' own' ι' ht hx X' h₁ => ?_
        cases t with
        | false => exact Post.ok (tk := tk) h₁ X' rfl
        | true => rw [if_pos rfl]; exact isTrue_and_nil (Post.ok (tk := tk) h₁ X' rfl)
    | cons me' mes =>
      cases es with
      | nil => (first | cases mts_n hm | cases mts_n hm.2 | (exact Bool.noConfusion (show false = true from hm)) | exact Bool.noConfusion (show false = true from hm.2))
      | cons e' es =>
        refine h1 e hm.1 s imm own ι σ ρ m _ E X hl ?_
        simp only [bind_assoc] at h
        refine Post.test (f := fun v t σ => (if t = true then evalAnd Φ ρ (me' :: mes) σ else .ok v σ).bind fun v σ => ofOpt (truth v) σ) h fun v t σ₁ h' tk imm' own' ι' ht hx X' h₁ => ?_
        cases t with
        | false =>
          simp only [Bool.false_eq_true, if_false, R.bind, ht, ofOpt] at h₁ ⊢
          exact Post.ok (tk := tk) h₁ X' rfl
        | true =>
          simp only [if_true] at h₁ ⊢
          exact h2 (e' :: es) pos whole hm.2 (by simp) _ imm' own' ι' σ₁ ρ m Q E X' (hl.mono hx) h₁
theorem testO_cons {me : ME} {mes : List ME} (h1 : SoundT c x Φ me) (h2 : SoundTO c x Φ mes) : SoundTO c x Φ (me :: mes) := by
  intro es pos whole hm _ s imm own ι σ ρ m Q E X hl h
  cases es with
  | nil => (first | cases mts_n hm | cases mts_n hm.2 | (exact Bool.noConfusion (show false = true from hm)) | exact Bool.noConfusion (show false = true from hm.2))
  | cons e es =>
    simp only [mts, List.head?_cons, Option.any_some, List.tail_cons, Bool.and_eq_true] at hm
    simp only [eo_0, eo_1, bind_assoc] at h
    refine isTrue_or ?_
    cases mes with
    | nil =>
      cases es with
      | cons _ _ => (first | cases mts_n hm | cases mts_n hm.2 | (exact Bool.noConfusion (show false = true from hm)) | exact Bool.noConfusion (show false = true from hm.2))
      | nil =>
        refine h1 e hm.1 s imm own ι σ ρ m _ E X hl ?_
        have h' : Post c x m imm ι (fun _ _ a b => a = b) ((evalE Φ ρ me σ).bind fun v σ => (ofOpt (truth v) σ).bind fun t σ => .ok t σ) Q E s := by
          revert h
          cases evalE Φ ρ me σ with
          | exn _ _ => exact fun h => h
          | stuck => exact fun h => h
          | ok v σ₁ => simp only [R.bind]; cases truth v <;> exact fun h => h
        refine Post.test h' fun v t σ₁ h' tk imm' own' ι' ht hx X' h₁ => ?_
        cases t with
        | true => exact Post.ok (tk := tk) h₁ X' rfl
        | false => rw [if_neg (by simp)]; exact isTrue_or_nil (Post.ok (tk := tk) h₁ X' rfl)
    | cons me' mes =>
      cases es with
      | nil => (first | cases mts_n hm | cases mts_n hm.2 | (exact Bool.noConfusion (show false = true from hm)) | exact Bool.noConfusion (show false = true from hm.2))
      | cons e' es =>
        refine h1 e hm.1 s imm own ι σ ρ m _ E X hl ?_
        simp only [bind_assoc] at h
        refine Post.test (f := fun v t σ => (if t = true then .ok v σ else evalOr Φ ρ (me' :: mes) σ).bind fun v σ => ofOpt (truth v) σ) h fun v t σ₁ h' tk imm' own' ι' ht hx X' h₁ => ?_
        cases t with
        | true =>
          simp only [if_true, R.bind, ht, ofOpt] at h₁ ⊢
          exact Post.ok (tk := tk) h₁ X' rfl
        | false =>
          simp only [Bool.false_eq_true, if_false] at h₁ ⊢
          exact h2 (e' :: es) pos whole hm.2 (by simp) _ imm' own' ι' σ₁ ρ m Q E X' (hl.mono hx) h₁
theorem test_and {es : List ME} (h1 : SoundTA c x Φ es) : SoundT c x Φ (.and es) := by
  intro e hm s imm own ι σ ρ m Q E X hl h
  obtain ⟨l, p, rfl, hk⟩ := mt_and hm
  simp only [Bool.and_eq_true] at hk
  simp only [ee_var, ee_cint, ee_cstr, ee_cnone, ee_cbool, ee_gint, ee_gstr, ee_bin, ee_neg, ee_not, ee_and, ee_or, ee_cmp, ee_cmp2, ee_call, ee_bi, ee_copy, ee_isi, ee_make, ee_meth, ee_attr, ee_idx, ee_sliceTo, ee_sliceFrom, ee_tup, ee_lst, ee_sumAt, ee_rev, ee_strMul] at h
  exact h1 l p _ hk.1 (by rintro rfl; simp at hk) s imm own ι σ ρ m Q E X hl h
theorem test_or {es : List ME} (h1 : SoundTO c x Φ es) : SoundT c x Φ (.or es) := by
  intro e hm s imm own ι σ ρ m Q E X hl h
  obtain ⟨l, p, rfl, hk⟩ := mt_or hm
  simp only [Bool.and_eq_true] at hk
  simp only [ee_var, ee_cint, ee_cstr, ee_cnone, ee_cbool, ee_gint, ee_gstr, ee_bin, ee_neg, ee_not, ee_and, ee_or, ee_cmp, ee_cmp2, ee_call, ee_bi, ee_copy, ee_isi, ee_make, ee_meth, ee_attr, ee_idx, ee_sliceTo, ee_sliceFrom, ee_tup, ee_lst, ee_sumAt, ee_rev, ee_strMul] at h
  exact h1 l p _ hk.1 (by rintro rfl; simp at hk) s imm own ι σ ρ m Q E X hl h

/-- all expressions -/
structure All (c : Cx) (x : Fx) (Φ : Fns) (me : ME) : Prop where
  e : SoundE c x Φ me
  t : SoundT c x Φ me
structure Alls (c : Cx) (x : Fx) (Φ : Fns) (mes : List ME) : Prop where
  es : SoundEs c x Φ mes
  a : SoundAnd c x Φ mes
  o : SoundOr c x Φ mes
  ta : SoundTA c x Φ mes
  to : SoundTO c x Φ mes

theorem all_of {me : ME} (h : SoundE c x Φ me) (hp : ∀ e, mt c.T x.G x.S c.M me e = true → ∀ whole, isTrue e x.env whole = (do let v ← whole; standAt e.pos; holding [v] (truthy v))) : All c x Φ me := ⟨h, test_plain h hp⟩

mutual
/-- an expression that asks nothing of the exception in hand -/
noncomputable def quietE (P : Prog) : ME → Bool
  | .var _ => true
  | .cint _ => true
  | .cstr _ => true
  | .cnone => true
  | .cbool _ => true
  | .gint _ _ => true
  | .gstr _ _ => true
  | .bin _ a b => quietE P a && quietE P b
  | .neg a => quietE P a
  | .not a => quietE P a
  | .and es => quietEs P es
  | .or es => quietEs P es
  | .cmp _ a b => quietE P a && quietE P b
  | .cmp2 _ _ a b e => quietE P a && (quietE P b && quietE P e)
  | .call f args => ((P.fns.lookup f).any fun D => D.quiet) && quietEs P args
  | .bi b args => (!decide (b = .max2 ∨ b = .min2)) && quietEs P args
  | .copy _ a => quietE P a
  | .isi a _ => quietE P a
  | .make _ _ => false
  | .meth _ _ _ => false
  | .attr o _ => quietE P o
  | .idx a i => quietE P a && quietE P i
  | .sliceTo _ a k => quietE P a && quietE P k
  | .sliceFrom _ a k => quietE P a && quietE P k
  | .tup es => quietEs P es
  | .lst _ es => quietEs P es
  | .sumAt _ _ => false
  | .rev a => quietE P a
  | .strMul _ a => quietE P a
noncomputable def quietEs (P : Prog) : List ME → Bool
  | [] => true
  | e :: es => quietE P e && quietEs P es
end
noncomputable def QE (x : Fx) (P : Prog) (me : ME) : Prop := x.quiet = true → quietE P me = true
noncomputable def QEs (x : Fx) (P : Prog) (mes : List ME) : Prop := x.quiet = true → quietEs P mes = true
theorem q1 {p : Prop} {a b : Bool} (h : p → (a && b) = true) : p → a = true := fun z => (and_inv (h z)).1
theorem q2 {p : Prop} {a b : Bool} (h : p → (a && b) = true) : p → b = true := fun z => (and_inv (h z)).2
theorem q0 {x : Fx} (h : x.quiet = true → false = true) : x.quiet = false := by
  cases e : x.quiet with
  | false => rfl
  | true => exact (Bool.noConfusion (h e))
theorem qf {x : Fx} {P : Prog} {f : Nat} (h : x.quiet = true → ((P.fns.lookup f).any fun D => D.quiet) = true) : x.quiet = true → ∀ D, P.fns.lookup f = some D → D.quiet = true := by
  intro q D e
  have := h q
  rw [e] at this
  exact this
theorem qb {x : Fx} {p : Prop} [Decidable p] (h : x.quiet = true → (!decide p) = true) : p → x.quiet = false := by
  intro hp
  refine q0 fun q => ?_
  have := h q
  rw [decide_eq_true hp] at this
  exact this
variable (F : Frm c x (d + 1)) (TK : TopOk c P) (FO : FnsOK c P d Φ)
include F TK FO
mutual
theorem allE : ∀ me : ME, QE x P me → All c x Φ me
  | .var i, q => all_of (sound_var F) fun e h _ => by obtain ⟨_, _, rfl, _⟩ := mt_var h; rfl
  | .cint k, q => all_of sound_cint fun e h _ => by obtain ⟨_, _, rfl, _⟩ := mt_cint h; rfl
  | .cstr k, q => all_of sound_cstr fun e h _ => by obtain ⟨_, _, rfl, _⟩ := mt_cstr h; rfl
  | .cnone, q => all_of sound_cnone fun e h _ => by obtain ⟨_, _, rfl, _⟩ := mt_cnone h; rfl
  | .cbool b, q => all_of sound_cbool fun e h _ => by obtain ⟨_, _, rfl, _⟩ := mt_cbool h; rfl
  | .gint y k, q => all_of (sound_gint F TK) fun e h _ => by obtain ⟨_, _, rfl, _⟩ := mt_gint h; rfl
  | .gstr y k, q => all_of (sound_gstr F TK) fun e h _ => by obtain ⟨_, _, rfl, _⟩ := mt_gstr h; rfl
  | .bin op a b, q => all_of (sound_bin F (allE a (q1 q)).e (allE b (q2 q)).e) fun e h _ => by obtain ⟨_, _, _, _, rfl, _⟩ := mt_bin h; rfl
  | .neg a, q => all_of (sound_neg (allE a q).e) fun e h _ => by obtain ⟨_, _, rfl, _⟩ := mt_neg h; rfl
  | .not a, q => ⟨sound_not (allE a q).e, test_not (allE a q).t⟩
  | .and es, q => ⟨sound_and (allEs es q).a, test_and (allEs es q).ta⟩
  | .or es, q => ⟨sound_or (allEs es q).o, test_or (allEs es q).to⟩
  | .cmp op a b, q => ⟨sound_cmp F (allE a (q1 q)).e (allE b (q2 q)).e, test_cmp F (allE a (q1 q)).e (allE b (q2 q)).e⟩
  | .cmp2 o₁ o₂ a b e₃, q => ⟨sound_cmp2 F (allE a (q1 q)).e (allE b (q1 (q2 q))).e (allE e₃ (q2 (q2 q))).e, test_cmp2 F (allE a (q1 q)).e (allE b (q1 (q2 q))).e (allE e₃ (q2 (q2 q))).e⟩
  | .call f args, q => all_of (sound_call F TK FO (qf (q1 q)) (allEs args (q2 q)).es) fun e h _ => by obtain ⟨_, _, _, _, rfl, _⟩ := mt_call h; rfl
  | .bi b args, q => all_of (sound_bi F TK (qb (q1 q)) (allEs args (q2 q)).es) fun e h _ => by obtain ⟨_, _, _, _, rfl, _⟩ := mt_bi h; rfl
  | .copy own a, q => all_of (sound_copy F TK (allE a q).e) fun e h _ => by obtain ⟨_, _, _, _, rfl, _⟩ := mt_copy h; rfl
  | .isi a t, q => all_of (sound_isi F TK (allE a q).e) fun e h _ => by obtain ⟨_, _, _, _, _, _, rfl, _⟩ := mt_isi h; rfl
  | .make k args, q => all_of (sound_make F TK FO (q0 q) (allEs args (fun z => by rw [q0 q] at z; cases z)).es) fun e h _ => by obtain ⟨_, _, _, _, rfl, _⟩ := mt_make h; rfl
  | .meth o f args, q => all_of (sound_meth F TK FO (q0 q) (allE o (fun z => by rw [q0 q] at z; cases z)).e (allEs args (fun z => by rw [q0 q] at z; cases z)).es) fun e h _ => by obtain ⟨_, _, _, _, _, rfl, _⟩ := mt_meth h; rfl
  | .attr o k, q => all_of (sound_attr F TK FO (allE o q).e) fun e h _ => by obtain ⟨_, _, _, rfl, _⟩ := mt_attr h; rfl
  | .idx a i, q => all_of (sound_idx (allE a (q1 q)).e (allE i (q2 q)).e) fun e h _ => by obtain ⟨_, _, _, rfl, _⟩ := mt_idx h; rfl
  | .sliceTo own a k, q => all_of (sound_sliceTo (allE a (q1 q)).e (allE k (q2 q)).e) fun e h _ => by obtain ⟨_, _, _, _, rfl, _⟩ := mt_sliceTo h; rfl
  | .sliceFrom own a k, q => all_of (sound_sliceFrom (allE a (q1 q)).e (allE k (q2 q)).e) fun e h _ => by obtain ⟨_, _, _, _, rfl, _⟩ := mt_sliceFrom h; rfl
  | .tup es, q => all_of (sound_tup (allEs es q).es) fun e h _ => by obtain ⟨_, _, _, rfl, _⟩ := mt_tup h; rfl
  | .lst own es, q => all_of (sound_lst (allEs es q).es) fun e h _ => by obtain ⟨_, _, rfl, _⟩ := mt_lst h; rfl
  | .sumAt k i, q => all_of (sound_sumAt F TK (q0 q)) fun e h _ => by obtain ⟨_, _, _, _, _, _, _, _, _, _, _, _, rfl, _⟩ := mt_sumAt h; rfl
  | .rev a, q => all_of (sound_rev (allE a q).e) fun e h _ => by obtain ⟨_, _, _, _, _, _, rfl, _⟩ := mt_rev h; rfl
  | .strMul w a, q => all_of (sound_strMul (allE a q).e) fun e h _ => by obtain ⟨_, _, _, _, rfl, _⟩ := mt_strMul h; rfl
theorem allEs : ∀ mes : List ME, QEs x P mes → Alls c x Φ mes
  | [], _ => ⟨sound_nil, sound_and_nil, sound_or_nil, testA_nil, testO_nil⟩
  | me :: mes, q => ⟨sound_cons (allE me (q1 q)).e (allEs mes (q2 q)).es, sound_and_cons (allE me (q1 q)).e (allEs mes (q2 q)).a, sound_or_cons (allE me (q1 q)).e (allEs mes (q2 q)).o, testA_cons (allE me (q1 q)).t (allEs mes (q2 q)).ta, testO_cons (allE me (q1 q)).t (allEs mes (q2 q)).to⟩
end
end
end Mine
set_option maxRecDepth 100000
set_option linter.unusedVariables false
set_option linter.unusedSectionVars false
namespace Mine
open PySem PySem.W PyProof.Rows PySem.Calls

inductive FlRel (c : Cx) (x : Fx) (imm : Led) (ι : List Addr) (m : Str → Option Value) : Fl → Flow → Prop where
  | next {ρ : Loc} : LocRel c.B imm ι x.S ρ m → FlRel c x imm ι m (.next ρ) .next
  | brk {ρ : Loc} : LocRel c.B imm ι x.S ρ m → FlRel c x imm ι m (.brk ρ) .brk
  | cont {ρ : Loc} : LocRel c.B imm ι x.S ρ m → FlRel c x imm ι m (.cont ρ) .cont
  | ret {v : V} {y : Value} : Rep c.B imm ι v y → FlRel c x imm ι m (.ret v) (.ret y)

/-- the same within a statement: the locals too; b: it was made in this frame -/
noncomputable def ThrownS (c : Cx) (x : Fx) (imm : Led) (ι : List Addr) (b : Bool) (k : Nat) (ρ : Loc) (σ' : Store) (s s' : Shared) (e : Addr) : Prop :=
  match b with
  | false => ∃ m imm₁ ι₁ h₁ tk₁, Ext imm imm₁ ι ι₁ ∧ LocRel c.B imm₁ ι₁ x.S ρ m ∧ Thrown c x m imm₁ ι₁ k σ' { s with heap := h₁, toks := tk₁ } s' e
  | true => ∃ m imm' own' ι' h₁ vs C h tk, Ext imm imm' ι ι' ∧ c.B.xs[k]? = some C ∧ St c.Z c.B (Gnd x) x.L x.fz h₁ m imm' own' ι' σ' ∧ Heap.MadeExcOf h₁ h e (.ref C) vs ∧ s' = { s with heap := h, toks := tk }
theorem ThrownS.back {c : Cx} {x : Fx} {imm imm₁ : Led} {ι ι₁ : List Addr} {b : Bool} {k : Nat} {ρ : Loc} {σ' : Store} {s s' : Shared} {e : Addr} {h₁ : Heap} {tk₁ : Nat} (T : ThrownS c x imm₁ ι₁ b k ρ σ' { s with heap := h₁, toks := tk₁ } s' e) (hx : Ext imm imm₁ ι ι₁) :
    ThrownS c x imm ι b k ρ σ' s s' e := by
  cases b with
  | false =>
    obtain ⟨m, i, j, h, t, q, r⟩ := T
    exact ⟨m, i, j, h, t, hx.trans q, r⟩
  | true =>
    obtain ⟨m, i, o, j, h, vs, C, h', tk, q, r⟩ := T
    exact ⟨m, i, o, j, h, vs, C, h', tk, hx.trans q, r⟩
noncomputable def PostS (c : Cx) (x : Fx) (imm : Led) (ι : List Addr) (r : SR) (Q : Flow → Shared → Prop) (E : Value → Shared → Prop) (s : Shared) : Prop :=
  match r with
  | .ok fl σ' => ∀ fy h' tk m' imm' own' ι', Ext imm imm' ι ι' → St c.Z c.B (Gnd x) x.L x.fz h' m' imm' own' ι' σ' → FlRel c x imm' ι' m' fl fy → Q fy { s with heap := h', toks := tk }
  | .exn b k ρ σ' => ∀ e s', ThrownS c x imm ι b k ρ σ' s s' e → E (.ref e) s'
  | .stuck => False

noncomputable def SoundS (c : Cx) (x : Fx) (Φ : Fns) (st : MS) : Prop := ∀ (t : Stmt), ms c.T x.G x.S c.M st t = true → ∀ (fz : Led) (s : Shared) (imm own : Led) (ι : List Addr) (σ : Store) (ρ : Loc) (m : Str → Option Value) (Q : Flow → Shared → Prop) (E : Value → Shared → Prop), PassesOwn (model c.prog c.w) x.A x.env E →
  St c.Z c.B (Gnd x) x.L fz s.heap m imm own ι σ → LocRel c.B imm ι x.S ρ m → PostS c { x with fz := fz } imm ι (execS Φ st ρ σ) Q E s → wpAny (model c.prog c.w) x.A (exec t x.env) Q E s
noncomputable def SoundB (c : Cx) (x : Fx) (Φ : Fns) (b : List MS) : Prop := ∀ (ts : List Stmt), mss c.T x.G x.S c.M b ts = true → ∀ (fz : Led) (s : Shared) (imm own : Led) (ι : List Addr) (σ : Store) (ρ : Loc) (m : Str → Option Value) (Q : Flow → Shared → Prop) (E : Value → Shared → Prop), PassesOwn (model c.prog c.w) x.A x.env E →
  St c.Z c.B (Gnd x) x.L fz s.heap m imm own ι σ → LocRel c.B imm ι x.S ρ m → PostS c { x with fz := fz } imm ι (execB Φ b ρ σ) Q E s → wpAny (model c.prog c.w) x.A (execs ts x.env) Q E s

section
variable {c : Cx} {x : Fx} {d : Nat} {Φ : Fns} {P : Prog}

theorem PostS.lift {imm imm' : Led} {ι ι' : List Addr} {r : SR} {Q : Flow → Shared → Prop} {E : Value → Shared → Prop} {s : Shared} {h' : Heap} {tk : Nat} (hx : Ext imm imm' ι ι') (h : PostS c x imm ι r Q E s) : PostS c x imm' ι' r Q E { s with heap := h', toks := tk } := by
  cases r with
  | ok v' σ₂ => exact fun y' h'' tk' m'' imm'' own'' ι'' hx' hs' hr' => h y' h'' tk' m'' imm'' own'' ι'' (hx.trans hx') hs' hr'
  | exn _ _ _ _ => exact fun e s' T => h e s' (T.back hx)
  | stuck => exact h
theorem PostS.on {α β : Type} {m : Str → Option Value} {imm : Led} {ι : List Addr} {rel : Led → List Addr → α → β → Prop} {r : R α} {ρ : Loc} {f : α → Store → SR} {Q' : β → Shared → Prop} {s : Shared} {Q : Flow → Shared → Prop} {E : Value → Shared → Prop}
    (hl : LocRel c.B imm ι x.S ρ m) (h : PostS c x imm ι (r.on ρ f) Q E s)
    (k : ∀ v σ₁ y h' tk imm' own' ι', Ext imm imm' ι ι' → St c.Z c.B (Gnd x) x.L x.fz h' m imm' own' ι' σ₁ → rel imm' ι' v y → PostS c x imm' ι' (f v σ₁) Q E { s with heap := h', toks := tk } → Q' y { s with heap := h', toks := tk }) :
    Post c x m imm ι rel r Q' E s := by
  cases r with
  | ok v σ₁ =>
    intro y h' tk imm' own' ι' hx hs hr
    exact k v σ₁ y h' tk imm' own' ι' hx hs hr (PostS.lift hx h)
  | exn k σ' => exact fun e s' T => h e s' ⟨m, imm, ι, s.heap, s.toks, Ext.refl, hl, T⟩
  | stuck => exact h
theorem PostS.ok {imm own : Led} {ι : List Addr} {fl : Fl} {fy : Flow} {σ : Store} {m : Str → Option Value} {Q : Flow → Shared → Prop} {E : Value → Shared → Prop} {s : Shared} {tk : Nat} (h : PostS c x imm ι (.ok fl σ) Q E s)
    (X : St c.Z c.B (Gnd x) x.L x.fz s.heap m imm own ι σ) (hr : FlRel c x imm ι m fl fy) : Q fy { s with toks := tk } := h fy s.heap tk m imm own ι Ext.refl X hr

/-- the frame with other iterators around -/
theorem Frm.fz {fz : Led} (F : Frm c x d) : Frm c { x with fz := fz } d := ⟨F.kinB, F.topB, F.atB, F.imp, F.frames, F.calm, F.kind, F.loc, F.nd, F.depth, F.units, F.tree, F.gen, F.coro⟩

theorem St.setName {Z : Nms} {B : Bas} {h₀ : Heap → Prop} {L : Addr} {fz : Led} {h h' : Heap} {m m' : Str → Option Value} {imm own : Led} {ι : List Addr} {σ : Store} (X : St Z B h₀ L fz h m imm own ι σ) (F : Fr X.g L h' m') (N : News X.g L h' (own ++ (imm ++ fz))) : St Z B h₀ L fz h' m' imm own ι σ :=
  ⟨X.g, X.gd, F, N, X.nd, X.owned, X.base⟩

theorem upd_mid {a : Addr} {o o' : Obj} : ∀ {pre post : Led}, ((pre ++ (a, o) :: post).map (·.1)).Nodup → Upd a o o' (pre ++ (a, o) :: post) (pre ++ (a, o') :: post)
  | [], post, h => by
    refine .head fun p hp e => ?_
    simp only [List.nil_append, List.map_cons, List.nodup_cons] at h
    exact h.1 (e ▸ List.mem_map_of_mem hp)
  | p :: pre, post, h => by
    simp only [List.cons_append, List.map_cons, List.nodup_cons] at h
    refine .tail (fun e => h.1 ?_) (upd_mid h.2)
    rw [e]
    exact List.mem_map_of_mem (f := (·.1)) (a := (a, o)) (by simp)
theorem quiet_frame (F : Frm c x d) : interactive x.env = false := by
  show (x.scope.kind == .module && _) = false
  rw [F.kind]; rfl
theorem s_expr (F : Frm c x (d + 1)) (TK : TopOk c P) (FO : FnsOK c P d Φ) {e : ME} (hq : QE x P e) : SoundS c x Φ (.expr e) := by
  intro t hm fz s imm own ι σ ρ m Q E hE X hl h
  obtain ⟨y, p, rfl, hk⟩ := ms_expr hm
  simp only [xs_expr, xs_append, xs_assign, xs_unpack, xs_setattr, xs_setitem, xs_unpackSub, xs_unpackL, xs_ite, xs_forIn, xs_forRange, xs_forTup, xs_while, xs_ret, xs_retNone, xs_brk, xs_cont, xs_pass, xs_raise, xs_try, xs_hand] at h
  refine wpAny_Expr_any ?_ (quiet_frame F) (swaps_no hk)
  refine (allE (x := { x with fz := fz }) F.fz TK FO e hq).e y hk s imm own ι σ ρ m _ E X hl (PostS.on hl h fun v σ₁ z h' tk imm' own' ι' hx X' hr h₁ => ?_)
  exact PostS.ok (tk := tk) h₁ X' (.next (hl.mono hx))

theorem s_assign (F : Frm c x (d + 1)) (TK : TopOk c P) (FO : FnsOK c P d Φ) {i : Nat} {e : ME} (hq : QE x P e) : SoundS c x Φ (.assign i e) := by
  intro t hm fz s imm own ι σ ρ m Q E hE X hl h
  obtain ⟨z, p1, y, p, rfl, hk⟩ := ms_assign hm
  simp only [Bool.and_eq_true, beq_iff_eq] at hk
  simp only [xs_expr, xs_append, xs_assign, xs_unpack, xs_setattr, xs_setitem, xs_unpackSub, xs_unpackL, xs_ite, xs_forIn, xs_forRange, xs_forTup, xs_while, xs_ret, xs_retNone, xs_brk, xs_cont, xs_pass, xs_raise, xs_try, xs_hand] at h
  refine wpAny_Assign_Name ?_ (swaps_no hk.2)
  refine (allE (x := { x with fz := fz }) F.fz TK FO e hq).e y hk.2 s imm own ι σ ρ m _ E X hl (PostS.on hl h fun v σ₁ w h' tk imm' own' ι' hx X' hr h₁ => ?_)
  refine stN X'.fr X'.news (fun h'' F' N' => ?_) F.kind (F.loc z (List.mem_of_getElem? hk.1))
  exact h₁ _ h'' (tk + 1) _ imm' own' ι' Ext.refl (X'.setName F' N') (.next ((hl.mono hx).set F.nd hk.1 hr))

theorem s_append (F : Frm c x (d + 1)) (TK : TopOk c P) (FO : FnsOK c P d Φ) {o e : ME} (hq' : QE x P o) (hq : QE x P e) : SoundS c x Φ (.append o e) := by
  intro t hm fz s imm own ι σ ρ m Q E hE X hl h
  obtain ⟨l, y, pa, z, pc, p1, rfl, hk⟩ := ms_append hm
  simp only [Bool.and_eq_true, beq_iff_eq] at hk
  obtain ⟨⟨⟨rfl, ho⟩, he⟩, hln⟩ := hk
  simp only [xs_expr, xs_append, xs_assign, xs_unpack, xs_setattr, xs_setitem, xs_unpackSub, xs_unpackL, xs_ite, xs_forIn, xs_forRange, xs_forTup, xs_while, xs_ret, xs_retNone, xs_brk, xs_cont, xs_pass, xs_raise, xs_try, xs_hand] at h
  refine wpAny_Expr_any ?_ (quiet_frame F) (by rfl)
  have he' : mts c.T x.G x.S c.M [e] [z] = true := by simp [mts, he]
  refine MCall (fun w => base_plain ho) (form_ok he' (by simp)) hln ?_
  refine (allE (x := { x with fz := fz }) F.fz TK FO o hq').e l ho s imm own ι σ ρ m _ E X hl (PostS.on hl h fun v σ₁ w h' tk imm' own' ι' hx X' hr h₁ => ?_)
  cases v with
  | loc i =>
    dsimp only at h₁
    cases hv : evalE Φ ρ e σ₁ with
    | exn _ _ => rw [hv] at h₁; exact h₁.elim
    | stuck => rw [hv] at h₁; exact h₁.elim
    | ok v σ₂ =>
      rw [hv] at h₁
      simp only [R.son] at h₁
      split at h₁
      · rename_i vs vs' hs2 hs1
        split at h₁
        · rename_i hlen
          obtain ⟨a, xs, n, pre, post, q1, q2, q3, q4⟩ := X'.owned.listAt hs1
          have ew : w = .ref a := by
            cases hr with
            | loc hi => rw [Option.some.inj (q1.symm.trans hi)]
          subst ew
          refine Calls.getMethod_list_append (o := lstObj xs n) ?_ rfl rfl ?_
          · exact (X'.news (a, lstObj xs n) (List.mem_append_left _ (by rw [q2]; simp))).1
          · refine callWith_method1 ?_ (star_cons he) rfl
            refine args_cons ?_ (star_cons he)
            refine (allE (x := { x with fz := fz }) F.fz TK FO e hq).e z he _ imm' own' ι' σ₁ ρ m _ E X' (hl.mono hx) ?_
            rw [hv]
            intro y h'' tk' imm'' own'' ι'' hx' X'' hry
            refine args_nil ?_
            obtain ⟨a', xs', n', pre', post', q1', q2', q3', q4'⟩ := X''.owned.listAt hs2
            have ea : a' = a := by
              have := hx'.2 i a q1
              rw [q1'] at this
              exact Option.some.inj this
            subst ea
            have nd := X''.nd
            have U : Upd a' (lstObj xs' n') (lstObj (xs' ++ [y]) (n' + 1)) (own'' ++ (imm'' ++ fz)) ((pre' ++ (a', lstObj (xs' ++ [y]) (n' + 1)) :: post') ++ (imm'' ++ fz)) := by
              rw [q2'] at nd ⊢
              have := upd_mid (o := lstObj xs' n') (o' := lstObj (xs' ++ [y]) (n' + 1)) (pre := pre') (post := post' ++ (imm'' ++ fz)) (by simpa using nd)
              simpa using this
            have eo : PySem.W.listOf xs'.toArray n' = lstObj xs' n' := rfl
            have eo' : PySem.W.listOf (xs'.toArray.push y) (n' + 1) = lstObj (xs' ++ [y]) (n' + 1) := by simp [PySem.W.listOf]
            refine append_K (its := xs'.toArray) (n := n') (news' := (pre' ++ (a', lstObj (xs' ++ [y]) (n' + 1)) :: post') ++ (imm'' ++ fz)) X''.fr X''.news (by rw [eo']; exact U) (fun h₃ F₃ N₃ => ?_) (by simp only [List.size_toArray]; rw [q3'.length, sizeLine_eq]; omega)
            refine h₁ _ h₃ tk' m imm'' _ ι'' hx' ⟨X''.g, X''.gd, F₃, N₃, ?_, q4' Ext.refl (q3'.append (.cons hry .nil)), X''.base⟩ (.next (hl.mono (hx.trans hx')))
            have e2 : ((pre' ++ (a', lstObj (xs' ++ [y]) (n' + 1)) :: post') ++ (imm'' ++ fz)).map (·.1) = (own'' ++ (imm'' ++ fz)).map (·.1) := by rw [q2']; simp
            rw [e2]; exact nd
        · exact h₁.elim
      · exact h₁.elim
  | _ => exact h₁.elim

theorem s_setattr (F : Frm c x (d + 1)) (TK : TopOk c P) (FO : FnsOK c P d Φ) {o : ME} {k : Nat} {e : ME} (hq' : QE x P o) (hq : QE x P e) : SoundS c x Φ (.setattr o k e) := by
  intro t hm fz s imm own ι σ ρ m Q E hE X hl h
  obtain ⟨l, y, p1, r, p2, rfl, hk⟩ := ms_setattr hm
  simp only [Bool.and_eq_true, beq_iff_eq] at hk
  obtain ⟨⟨hy, ho⟩, he⟩ := hk
  simp only [xs_expr, xs_append, xs_assign, xs_unpack, xs_setattr, xs_setitem, xs_unpackSub, xs_unpackL, xs_ite, xs_forIn, xs_forRange, xs_forTup, xs_while, xs_ret, xs_retNone, xs_brk, xs_cont, xs_pass, xs_raise, xs_try, xs_hand] at h
  refine plainObj_wpAny_Assign_Attribute ?_ (swaps_no he)
  refine (allE (x := { x with fz := fz }) F.fz TK FO e hq).e r he s imm own ι σ ρ m _ E X hl (PostS.on hl h fun v σ₁ w h' tk imm' own' ι' hx X' hr h₁ => ?_)
  refine (allE (x := { x with fz := fz }) F.fz TK FO o hq').e l ho _ imm' own' ι' σ₁ ρ m _ E X' (hl.mono hx) (PostS.on (hl.mono hx) h₁ fun v' σ₂ w' h'' tk' imm'' own'' ι'' hx' X'' hr' h₂ => ?_)
  cases v' with
  | loc i =>
    dsimp only at h₂
    split at h₂
    · rename_i cl fs hs
      split at h₂
      · rename_i hc
        obtain ⟨a, dx, C, f, es, n, pre, post, q1, q2, q3, q4, q5⟩ := X''.owned.instAt hs
        have ew : w' = .ref a := by
          cases hr' with
          | loc hi => rw [Option.some.inj (q1.symm.trans hi)]
        subst ew
        obtain ⟨C', g, y', at', r1, r2, r3, r4, r5, r6, r7, r8, r9⟩ := FO.attr cl k hc.1
        rw [q3] at r1; cases r1
        have r2' := r2
        rw [TK.attrs, hy] at r2'; cases r2'
        have hI : PySem.W.InstAt h'' a (instObj C dx) C (some (dictOf es n)) := PySem.W.InstAt.of_news (L := x.L) X''.news (List.mem_append_left _ (by rw [q2]; simp)) (List.mem_append_left _ (by rw [q2]; simp))
        have nd := X''.nd
        have U : Upd dx (dictOf es n) (dictOf (putL y (PyData.keyHash c.w.params y) (.str y (tk' + 1)) w es) (putN y es n)) (own'' ++ (imm'' ++ fz)) ((pre ++ (a, instObj C dx) :: (dx, dictOf (putL y (PyData.keyHash c.w.params y) (.str y (tk' + 1)) w es) (putN y es n)) :: post) ++ (imm'' ++ fz)) := by
          rw [q2] at nd ⊢
          have := upd_mid (o := dictOf es n) (o' := dictOf (putL y (PyData.keyHash c.w.params y) (.str y (tk' + 1)) w es) (putN y es n)) (a := dx) (pre := pre ++ [(a, instObj C dx)]) (post := post ++ (imm'' ++ fz)) (by simpa using nd)
          simpa using this
        have hput : FRep c.Z c.B imm'' ι'' (putField k v fs) (putL y (PyData.keyHash c.w.params y) (.str y (tk' + 1)) w es) := q4.put r2 (hr.mono hx')
        refine set_dict X''.fr (F.kin X''.gd) X''.news hI rfl r7 r8 r9 r4 q4.getSome rfl U ?_ fun h₃ F₃ N₃ => ?_
        · rw [hput.length]
          have := putField_len k v fs
          omega
        · refine h₂ _ h₃ (tk' + 2) m imm'' _ ι'' Ext.refl ⟨X''.g, X''.gd, F₃, N₃, ?_, q5 Ext.refl hput, X''.base⟩ (.next (hl.mono (hx.trans hx')))
          have e2 : ((pre ++ (a, instObj C dx) :: (dx, dictOf (putL y (PyData.keyHash c.w.params y) (.str y (tk' + 1)) w es) (putN y es n)) :: post) ++ (imm'' ++ fz)).map (·.1) = (own'' ++ (imm'' ++ fz)).map (·.1) := by rw [q2]; simp
          rw [e2]; exact nd
      · exact h₂.elim
    · exact h₂.elim
  | _ => exact h₂.elim

theorem s_ite (F : Frm c x (d + 1)) (TK : TopOk c P) (FO : FnsOK c P d Φ) {e : ME} {a b : List MS} (hq : QE x P e) (ha : SoundB c x Φ a) (hb : SoundB c x Φ b) : SoundS c x Φ (.ite e a b) := by
  intro t hm fz s imm own ι σ ρ m Q E hE X hl h
  obtain ⟨u, xs, ys, p, rfl, hk⟩ := ms_ite hm
  simp only [Bool.and_eq_true] at hk
  obtain ⟨⟨h1, h2⟩, h3⟩ := hk
  simp only [xs_expr, xs_append, xs_assign, xs_unpack, xs_setattr, xs_setitem, xs_unpackSub, xs_unpackL, xs_ite, xs_forIn, xs_forRange, xs_forTup, xs_while, xs_ret, xs_retNone, xs_brk, xs_cont, xs_pass, xs_raise, xs_try, xs_hand] at h
  refine wpAny_If ?_
  refine (allE (x := { x with fz := fz }) F.fz TK FO e hq).t u h1 s imm own ι σ ρ m _ E X hl ?_
  revert h
  cases evalE Φ ρ e σ with
  | exn _ _ => exact fun h e s' T => h e s' ⟨m, imm, ι, s.heap, s.toks, Ext.refl, hl, T⟩
  | stuck => exact fun h => h
  | ok v σ₁ =>
    simp only [R.on, R.bind]
    cases ht : truth v with
    | none => exact fun h => h
    | some t =>
      intro h y h' tk imm' own' ι' hx X' ey
      subst ey
      cases t with
      | true => rw [if_pos rfl]; exact ha xs h2 fz _ imm' own' ι' σ₁ ρ m Q E hE X' (hl.mono hx) (PostS.lift hx h)
      | false => rw [if_neg (by simp)]; exact hb ys h3 fz _ imm' own' ι' σ₁ ρ m Q E hE X' (hl.mono hx) (PostS.lift hx h)

theorem s_ret (F : Frm c x (d + 1)) (TK : TopOk c P) (FO : FnsOK c P d Φ) {e : ME} (hq : QE x P e) : SoundS c x Φ (.ret e) := by
  intro t hm fz s imm own ι σ ρ m Q E hE X hl h
  obtain ⟨y, p, rfl, hk⟩ := ms_ret hm
  simp only [xs_expr, xs_append, xs_assign, xs_unpack, xs_setattr, xs_setitem, xs_unpackSub, xs_unpackL, xs_ite, xs_forIn, xs_forRange, xs_forTup, xs_while, xs_ret, xs_retNone, xs_brk, xs_cont, xs_pass, xs_raise, xs_try, xs_hand] at h
  refine wpAny_Return_some ?_
  refine (allE (x := { x with fz := fz }) F.fz TK FO e hq).e y hk s imm own ι σ ρ m _ E X hl (PostS.on hl h fun v σ₁ w h' tk imm' own' ι' hx X' hr h₁ => ?_)
  exact PostS.ok (tk := tk) h₁ X' (.ret hr)
theorem s_retNone : SoundS c x Φ .retNone := by
  intro t hm fz s imm own ι σ ρ m Q E hE X hl h
  obtain ⟨p, rfl, hk⟩ := ms_retNone hm
  simp only [xs_expr, xs_append, xs_assign, xs_unpack, xs_setattr, xs_setitem, xs_unpackSub, xs_unpackL, xs_ite, xs_forIn, xs_forRange, xs_forTup, xs_while, xs_ret, xs_retNone, xs_brk, xs_cont, xs_pass, xs_raise, xs_try, xs_hand] at h
  exact wpAny_Return_none (PostS.ok (tk := s.toks) h X (.ret .none))
theorem s_brk : SoundS c x Φ .brk := by
  intro t hm fz s imm own ι σ ρ m Q E hE X hl h
  obtain ⟨p, rfl, hk⟩ := ms_brk hm
  simp only [xs_expr, xs_append, xs_assign, xs_unpack, xs_setattr, xs_setitem, xs_unpackSub, xs_unpackL, xs_ite, xs_forIn, xs_forRange, xs_forTup, xs_while, xs_ret, xs_retNone, xs_brk, xs_cont, xs_pass, xs_raise, xs_try, xs_hand] at h
  exact wpAny_Break (PostS.ok (tk := s.toks) h X (.brk hl))
theorem s_cont : SoundS c x Φ .cont := by
  intro t hm fz s imm own ι σ ρ m Q E hE X hl h
  obtain ⟨p, rfl, hk⟩ := ms_cont hm
  simp only [xs_expr, xs_append, xs_assign, xs_unpack, xs_setattr, xs_setitem, xs_unpackSub, xs_unpackL, xs_ite, xs_forIn, xs_forRange, xs_forTup, xs_while, xs_ret, xs_retNone, xs_brk, xs_cont, xs_pass, xs_raise, xs_try, xs_hand] at h
  exact wpAny_Continue (PostS.ok (tk := s.toks) h X (.cont hl))
theorem s_pass : SoundS c x Φ .pass := by
  intro t hm fz s imm own ι σ ρ m Q E hE X hl h
  obtain ⟨p, rfl, hk⟩ := ms_pass hm
  simp only [xs_expr, xs_append, xs_assign, xs_unpack, xs_setattr, xs_setitem, xs_unpackSub, xs_unpackL, xs_ite, xs_forIn, xs_forRange, xs_forTup, xs_while, xs_ret, xs_retNone, xs_brk, xs_cont, xs_pass, xs_raise, xs_try, xs_hand] at h
  exact wpAny_Pass (PostS.ok (tk := s.toks) h X (.next hl))
theorem each_names {is : List Nat} {ts : List Expr} {env : Env} : ∀ {is : List Nat} {ts : List Expr}, targets x.S is ts = true → (assignEach ts env).length = is.length ∧ (assignEach ts env).findIdx? (·.1) = none
  | [], [], _ => ⟨rfl, rfl⟩
  | [], _ :: _, h => by first | cases targets_n h | cases h
  | _ :: _, [], h => by first | cases targets_n h | cases h
  | i :: is, e :: ts, h => by
    obtain ⟨_, _, _, e, h1, h2⟩ := targets_c h
    cases e
    obtain ⟨q1, q2⟩ := each_names (is := is) (ts := ts) h2
    refine ⟨?_, ?_⟩
    · show (assignEach ts env).length + 1 = is.length + 1
      rw [q1]
    · simp only [assignEach, List.findIdx?_cons, q2, Option.map_none]
      rfl
theorem set_len : ∀ {is : List Nat} {vs : List V} {ρ ρ' : Loc}, setAll is vs ρ = some ρ' → vs.length = is.length
  | [], [], _, _, _ => rfl
  | [], _ :: _, _, _, h => by simp [sa_0, sa_1, sa_8, sa_9] at h
  | _ :: _, [], _, _, h => by simp [sa_0, sa_1, sa_8, sa_9] at h
  | i :: is, v :: vs, ρ, ρ', h => by
    simp only [sa_0, sa_1, sa_8, sa_9] at h
    simp [set_len h]
theorem assign_names (F : Frm c x d) {fz imm own : Led} {ι : List Addr} {σ : Store} {Q : Unit → Shared → Prop} {E : Value → Shared → Prop} : ∀ {is : List Nat} {ts : List Expr} {vs : List V} {xs : List Value} {ρ ρ' : Loc} {m : Str → Option Value} {s : Shared},
    targets x.S is ts = true → setAll is vs ρ = some ρ' → Reps c.B imm ι vs xs → St c.Z c.B (Gnd x) x.L fz s.heap m imm own ι σ → LocRel c.B imm ι x.S ρ m →
    (∀ h' tk m', St c.Z c.B (Gnd x) x.L fz h' m' imm own ι σ → LocRel c.B imm ι x.S ρ' m' → Q () { s with heap := h', toks := tk }) → wpAny (model c.prog c.w) x.A (assignInOrder ((assignEach ts x.env).map (·.2)) xs) Q E s
  | [], [], [], _, ρ, ρ', m, s, _, hs, .nil, X, hl, k => by
    simp only [sa_0, sa_1, sa_8, sa_9] at hs
    cases hs
    exact wpAny_pure (k s.heap s.toks m X hl)
  | [], [], _ :: _, _, _, _, _, _, _, hs, _, _, _, _ => by simp [sa_0, sa_1, sa_8, sa_9] at hs
  | [], _ :: _, _, _, _, _, _, _, h, _, _, _, _, _ => by first | cases targets_n h | cases h
  | _ :: _, [], _, _, _, _, _, _, h, _, _, _, _, _ => by first | cases targets_n h | cases h
  | _ :: _, _ :: _, [], _, _, _, _, _, _, hs, _, _, _, _ => by simp [sa_0, sa_1, sa_8, sa_9] at hs
  | i :: is, e :: ts, v :: vs, _, ρ, ρ', m, s, h, hs, .cons (x := y) (xs := ys) hv hr, X, hl, k => by
    obtain ⟨z, p, _, e, h1, h2⟩ := targets_c h
    cases e
    simp only [beq_iff_eq] at h1
    simp only [sa_0, sa_1, sa_8, sa_9] at hs
    show wpAny (model c.prog c.w) x.A (do holding ys (assign (.Name z p) x.env y); assignInOrder ((assignEach ts x.env).map (·.2)) ys) Q E s
    refine wpAny_bind (wpAny_holding (assign_Name (stN X.fr X.news (fun h' F' N' => ?_) F.kind (F.loc z (List.mem_of_getElem? h1)))))
    exact assign_names F h2 hs hr (X.setName F' N') (hl.set F.nd h1 hv) fun h'' tk m' X' hl' => k h'' tk m' X' hl'
noncomputable def nmF (env : Env) (l : Nat) (e : Expr) : Option Str := match e with | .Name id pos => if env.kindOf id == some .local && pos.line == l then some id else none | _ => none
theorem swaps_names {ts vs : List Expr} {p1 p2 q1 q2} {env : Env} (hk : env.blockKind = .function) (hn : (ts.length == 2 || ts.length == 3) = true) (hl : (vs.length == ts.length) = true) (hs : vs.any isStar = false) (hf : vs.all (foldedForSure 8) = false) (hc : vs.all (constantsAlone 8) = false) {ns : List Str}
    (hns : ts.filterMap (nmF env ((ts.head?.map (·.pos.line)).getD 0)) = ns) (h1 : ns.length = ts.length) (h2 : ns.eraseDups.length = ns.length) : swappedStores [.Tuple ts p1 p2] (.Tuple vs q1 q2) env = pure (some ns) := by
  subst hns
  unfold swappedStores
  show (if (!(ts.length == 2 || ts.length == 3) || !(vs.length == ts.length) || env.blockKind != .function) = true then pure none else if vs.any isStar = true then pure none else
    if ((ts.filterMap (nmF env ((ts.head?.map (·.pos.line)).getD 0))).length != ts.length || (ts.filterMap (nmF env ((ts.head?.map (·.pos.line)).getD 0))).eraseDups.length != (ts.filterMap (nmF env ((ts.head?.map (·.pos.line)).getD 0))).length) = true then pure none else
    if vs.all (foldedForSure 8) = true then pure none else if vs.all (constantsAlone 8) = true then unsupported "assign.tuple-of-constant-expressions:order-of-the-stores" else pure (some (ts.filterMap (nmF env ((ts.head?.map (·.pos.line)).getD 0))))) = _
  rw [hn, hl, hk, hs, hf, hc, h1, h2, h1]
  simp
theorem names_at {env : Env} {l : Nat} {S : List Str} (hk : ∀ z ∈ S, env.kindOf z = some .local) : ∀ {is : List Nat} {ts : List Expr}, targets S is ts = true → ts.all (onLine l) = true →
    is.map (S[·]?) = (ts.filterMap nm0).map some ∧ ts.filterMap (nmF env l) = ts.filterMap nm0 ∧ ts.length = is.length ∧ (ts.filterMap nm0).length = is.length
  | [], [], _, _ => ⟨rfl, rfl, rfl, rfl⟩
  | [], _ :: _, h, _ => by first | cases targets_n h | cases h
  | _ :: _, [], h, _ => by first | cases targets_n h | cases h
  | i :: is, e :: ts, h, hl => by
    obtain ⟨z, p, _, e, h1, h2⟩ := targets_c h
    cases e
    rw [List.all_cons, Bool.and_eq_true] at hl
    obtain ⟨a1, a2, a3, a4⟩ := names_at hk h2 hl.2
    have e1 := beq_iff_eq.mp h1
    have l1 : (p.line == l) = true := hl.1
    have n0 : nm0 (.Name z p) = some z := rfl
    have n1 : nmF env l (.Name z p) = some z := by
      show (if (env.kindOf z == some .local && p.line == l) = true then some z else none) = some z
      rw [hk z (List.mem_of_getElem? e1), l1]; rfl
    simp only [List.filterMap_cons, n0, n1, List.map_cons, List.length_cons, a1, a2, a3, a4, e1, and_self]
theorem bind_names (F : Frm c x d) {fz imm own : Led} {ι : List Addr} {σ : Store} {Q : Unit → Shared → Prop} {E : Value → Shared → Prop} : ∀ {is : List Nat} {ns : List Str} {vs : List V} {xs : List Value} {ρ ρ' : Loc} {m : Str → Option Value} {s : Shared},
    is.map (x.S[·]?) = ns.map some → setAll is vs ρ = some ρ' → Reps c.B imm ι vs xs → St c.Z c.B (Gnd x) x.L fz s.heap m imm own ι σ → LocRel c.B imm ι x.S ρ m →
    (∀ h' tk m', St c.Z c.B (Gnd x) x.L fz h' m' imm own ι σ → LocRel c.B imm ι x.S ρ' m' → Q () { s with heap := h', toks := tk }) → wpAny (model c.prog c.w) x.A (assignInOrder (ns.map fun n => bindName x.env n) xs) Q E s
  | [], [], [], _, ρ, ρ', m, s, _, hs, .nil, X, hl, k => by
    simp only [sa_0, sa_1, sa_8, sa_9] at hs
    cases hs
    exact wpAny_pure (k s.heap s.toks m X hl)
  | [], [], _ :: _, _, _, _, _, _, _, hs, _, _, _, _ => by simp [sa_0, sa_1, sa_8, sa_9] at hs
  | [], _ :: _, _, _, _, _, _, _, h, _, _, _, _, _ => by cases h
  | _ :: _, [], _, _, _, _, _, _, h, _, _, _, _, _ => by cases h
  | _ :: _, _ :: _, [], _, _, _, _, _, _, hs, _, _, _, _ => by simp [sa_0, sa_1, sa_8, sa_9] at hs
  | i :: is, z :: ns, v :: vs, _, ρ, ρ', m, s, h, hs, .cons (x := y) (xs := ys) hv hr, X, hl, k => by
    rw [List.map_cons, List.map_cons, List.cons.injEq] at h
    simp only [sa_0, sa_1, sa_8, sa_9] at hs
    show wpAny (model c.prog c.w) x.A (do holding ys (bindName x.env z y); assignInOrder (ns.map fun n => bindName x.env n) ys) Q E s
    refine wpAny_bind (wpAny_holding (wpAny_bindName (stN X.fr X.news (fun h' F' N' => ?_) F.kind (F.loc z (List.mem_of_getElem? h.1)))))
    exact bind_names F h.2 hs hr (X.setName F' N') (hl.set F.nd h.1 hv) fun h'' tk m' X' hl' => k h'' tk m' X' hl'
theorem Reps.rev {B : Bas} {imm : Led} {ι : List Addr} : ∀ {vs : List V} {xs : List Value}, Reps B imm ι vs xs → Reps B imm ι vs.reverse xs.reverse
  | _, _, .nil => .nil
  | _, _, .cons h r => by rw [List.reverse_cons, List.reverse_cons]; exact r.rev.append (.cons h .nil)
theorem set_rev {is : List Nat} {vs : List V} {ρ ρ' : Loc} (hn : is.Nodup) (h2 : is.length = 2 ∨ is.length = 3) (h : setAll is vs ρ = some ρ') : setAll is.reverse vs.reverse ρ = some ρ' := by
  have hl := set_len h
  match is, vs, hn, h2, hl, h with
  | [i, j], [a, b], hn, _, _, h =>
    have e : i ≠ j := by simp at hn; exact hn
    simp only [sa_0, sa_1, sa_8, sa_9, Option.some.injEq] at h
    subst h
    simp only [List.reverse_cons, List.reverse_nil, List.nil_append, List.cons_append, sa_0, sa_1, sa_8, sa_9]
    rw [List.set_comm _ _ e]
  | [i, j, k], [a, b, c], hn, _, _, h =>
    have e : (i ≠ j ∧ i ≠ k) ∧ j ≠ k := by simp at hn; exact hn
    simp only [sa_0, sa_1, sa_8, sa_9, Option.some.injEq] at h
    subst h
    simp only [List.reverse_cons, List.reverse_nil, List.nil_append, List.cons_append, sa_0, sa_1, sa_8, sa_9]
    rw [List.set_comm _ _ e.1.1, List.set_comm _ _ e.1.2, List.set_comm (l := ρ) _ _ e.2]
theorem s_unpack (F : Frm c x (d + 1)) (TK : TopOk c P) (FO : FnsOK c P d Φ) {is : List Nat} {e : ME} (hq : QE x P e) (hc : x.quiet = false) : SoundS c x Φ (.unpack is e) := by
  intro t hm fz s imm own ι σ ρ m Q E hE X hl h
  obtain ⟨ts, p1, p2, y, p3, rfl, hk⟩ := ms_unpack hm
  simp only [Bool.and_eq_true] at hk
  obtain ⟨⟨ht, he⟩, hn⟩ := hk
  simp only [xs_expr, xs_append, xs_assign, xs_unpack, xs_setattr, xs_setitem, xs_unpackSub, xs_unpackL, xs_ite, xs_forIn, xs_forRange, xs_forTup, xs_while, xs_ret, xs_retNone, xs_brk, xs_cont, xs_pass, xs_raise, xs_try, xs_hand] at h
  cases hy : vTuple y with
  | none =>
    refine Assign_Tuple ?_ (by unfold swapsWithSole; exact swaps_no he) (by cases y <;> first | rfl | cases hy)
    refine (allE (x := { x with fz := fz }) F.fz TK FO e hq).e y he s imm own ι σ ρ m _ E X hl (PostS.on hl h fun v σ₁ w h' tk imm' own' ι' hx X' hr h₁ => ?_)
    cases v with
    | tup vs =>
      dsimp only at h₁
      split at h₁
      · rename_i ρ' hρ
        obtain ⟨b, xs, rfl, hT, rs⟩ := X'.isTup hr
        obtain ⟨q1, q2⟩ := each_names (env := x.env) (is := is) (ts := ts) ht
        refine unpackN_ X'.fr X'.news hT (F.calm hc) (by rw [q1, List.size_toArray, rs.length, set_len hρ]) q2 fun h'' F' N' => ?_
        exact assign_names F ht hρ rs (X'.keep F' N') (hl.mono hx) fun h₃ tk₃ m₃ X₃ hl₃ => h₁ _ h₃ tk₃ m₃ imm' own' ι' Ext.refl X₃ (.next hl₃)
      · exact h₁.elim
    | _ => exact h₁.elim
  | some z =>
    unfold tupOk at hn
    rw [hy] at hn
    simp only [Option.all_some, Bool.and_eq_true, decide_eq_true_eq, Bool.not_eq_true'] at hn
    obtain ⟨n1, n2, n3, n4, n5, n6, n7, n8⟩ := hn
    obtain ⟨vs', a1, a2⟩ := z
    cases vTuple_inv hy
    have nk : x.env.blockKind = .function := by
      show (if x.scope.kind.isAnnotationScope = true then ScopeKind.function else x.scope.kind) = _
      rw [F.kind]; rfl
    obtain ⟨b1, b2, b3, b4⟩ := names_at (env := x.env) (fun z hz => F.loc z hz) ht n4
    refine Assign_Tuple_swapped (names := ts.filterMap nm0) ?_ (by unfold swapsWithSole; exact swaps_no he) (swaps_names nk n1 n2 n6 n7 n8 b2 (b4.trans b3.symm) n5)
    refine (allE (x := { x with fz := fz }) F.fz TK FO e hq).e _ he s imm own ι σ ρ m _ E X hl (PostS.on hl h fun v σ₁ w h' tk imm' own' ι' hx X' hr h₁ => ?_)
    cases v with
    | tup vs =>
      dsimp only at h₁
      split at h₁
      · rename_i ρ' hρ
        obtain ⟨b, xs, rfl, hT, rs⟩ := X'.isTup hr
        refine unpackItemsN_ X'.fr X'.news hT (F.calm hc) (by rw [b4, List.size_toArray, rs.length, set_len hρ]) fun h'' F' N' => ?_
        have l23 : is.length = 2 ∨ is.length = 3 := by
          rw [b3] at n1; simpa using n1
        refine bind_names F (is := is.reverse) (vs := vs.reverse) (by rw [List.map_reverse, List.map_reverse, b1]) (set_rev n3 l23 hρ) rs.rev (X'.keep F' N') (hl.mono hx) fun h₃ tk₃ m₃ X₃ hl₃ => h₁ _ h₃ tk₃ m₃ imm' own' ι' Ext.refl X₃ (.next hl₃)
      · exact h₁.elim
    | _ => exact h₁.elim
theorem far2' {n : Int} {l : Nat} (h : n.toNat < l) (h' : l ≤ 1000000) : n < 2 ^ 63 := by omega
theorem in_size {n : Int} {l : Nat} (h0 : 0 ≤ n) (h : n.toNat < l) : n < (l : Int) := by omega
theorem Reps.set {B : Bas} {imm : Led} {ι : List Addr} {v : V} {y : Value} (hv : Rep B imm ι v y) {vs : List V} {xs : List Value} (h : Reps B imm ι vs xs) (n : Nat) : Reps B imm ι (vs.set n v) (xs.set n y) :=
  h.ind (p := fun vs xs => ∀ n, Reps B imm ι (vs.set n v) (xs.set n y)) (fun _ => .nil) (fun u x vs xs hu hr k n => by
    cases n with
    | zero => exact .cons hv hr
    | succ n => exact .cons hu (k n)) n
theorem ownL_inv {σ : Store} {w : V} {q : Nat × List V} (h : ownL σ w = some q) : w = .loc q.1 ∧ σ[q.1]? = some (.list q.2) := by
  cases w with
  | loc i =>
    have h : (match σ[i]? with | some (.list vs) => some (i, vs) | _ => Option.none) = some q := h
    split at h
    · cases h; exact ⟨rfl, ‹_›⟩
    · cases h
  | _ => cases h
theorem pairOf_inv {v : V} {q : V × V} (h : pairOf v = some q) : v = .tup [q.1, q.2] := by
  unfold pairOf at h
  split at h
  · split at h
    · cases h; rfl
    · cases h
  · cases h
/-- an item is put -/
theorem store_at {A : Around} {fz : Led} {s : Shared} {imm own : Led} {ι : List Addr} {σ σ' : Store} {m : Str → Option Value} {u j v : V} {y₁ y₂ y₃ : Value} {Q : Unit → Shared → Prop} {E : Value → Shared → Prop} (X : St c.Z c.B (Gnd x) x.L fz s.heap m imm own ι σ) (hu : Rep c.B imm ι u y₁) (hj : Rep c.B imm ι j y₂) (hv : Rep c.B imm ι v y₃)
    (hp : putAt σ u j v = some σ') (k : ∀ h' own', St c.Z c.B (Gnd x) x.L fz h' m imm own' ι σ' → Q () { s with heap := h' }) : wpAny (model c.prog c.w) A (setItem y₁ y₂ y₃) Q E s := by
  obtain ⟨⟨i, vs⟩, h1, hp2⟩ := Option.bind_eq_some_iff.mp hp
  obtain ⟨n, h2, hp3⟩ := Option.bind_eq_some_iff.mp hp2
  obtain ⟨rfl, hs⟩ := ownL_inv h1
  obtain rfl := asInt_inv h2
  clear hp hp2 h1 h2
  split at hp3
  · rename_i hc
    cases hp3
    obtain ⟨a, xs, nn, pre, post, q1, q2, q3, q4⟩ := X.owned.listAt hs
    obtain ⟨t, rfl⟩ := inv_int hj
    cases hu with
    | loc hi =>
    cases Option.some.inj (q1.symm.trans hi)
    have z := X.news (a, lstObj xs nn) (List.mem_append_left _ (by rw [q2]; simp))
    have hlen := q3.length
    have nd := X.nd
    have N : News X.g x.L s.heap ((pre ++ (a, lstObj xs nn) :: post) ++ (imm ++ fz)) := fun p hp => X.news p (by rw [q2]; exact hp)
    rw [q2] at nd
    have nd2 : ((pre ++ (a, lstObj xs nn) :: (post ++ (imm ++ fz))).map (·.1)).Nodup := by simpa using nd
    have hne : (∀ p ∈ pre, p.1 ≠ a) ∧ ∀ p ∈ post ++ (imm ++ fz), p.1 ≠ a := by
      rw [List.map_append, List.map_cons, List.nodup_append] at nd2
      obtain ⟨_, n2, n3⟩ := nd2
      rw [List.nodup_cons] at n2
      exact ⟨fun p hp e => n3 p.1 (List.mem_map_of_mem hp) a (.head _) e, fun p hp e => n2.1 (List.mem_map.mpr ⟨p, hp, e⟩)⟩
    refine ki_setAt (n := nn) (items := xs.toArray) z.1 hc.1 (far2' hc.2.1 hc.2.2) (by simp only [List.size_toArray]; rw [hlen]; exact in_size hc.1 hc.2.1) ?_
    refine k _ (pre ++ (a, lstObj (xs.set n.toNat y₃) nn) :: post) ⟨X.g, X.gd, X.fr.change (Heap.SameBut.update ..) z.2.1 z.2.2, ?_, ?_, q4 Ext.refl (q3.set hv _), X.base⟩
    · have := ki_turn (its' := (xs.set n.toNat y₃).toArray) (n' := nn) (·.setIfInBounds n.toNat y₃) (pre := pre) (post := post ++ (imm ++ fz)) (D := a) (its := xs.toArray) (n := nn) (by simpa using N) hne.1 hne.2 (by simp) (by simp)
      simpa using this
    · simpa using nd
  · cases hp3
theorem s_setitem (F : Frm c x (d + 1)) (TK : TopOk c P) (FO : FnsOK c P d Φ) {o k e : ME} (hq1 : QE x P o) (hq2 : QE x P k) (hq : QE x P e) : SoundS c x Φ (.setitem o k e) := by
  intro t hm fz s imm own ι σ ρ m Q E hE X hl h
  obtain ⟨l, r, p1, y, p2, rfl, hk⟩ := ms_setitem hm
  simp only [Bool.and_eq_true] at hk
  obtain ⟨⟨ho, hkk⟩, he⟩ := hk
  simp only [xs_expr, xs_append, xs_assign, xs_unpack, xs_setattr, xs_setitem, xs_unpackSub, xs_unpackL, xs_ite, xs_forIn, xs_forRange, xs_forTup, xs_while, xs_ret, xs_retNone, xs_brk, xs_cont, xs_pass, xs_raise, xs_try, xs_hand] at h
  refine wpAny_Assign_Subscript ?_ (swaps_no he)
  refine (allE (x := { x with fz := fz }) F.fz TK FO e hq).e y he s imm own ι σ ρ m _ E X hl (PostS.on hl h fun v σ₁ w h' tk imm' own' ι' hx X' hr h₁ => ?_)
  refine (allE (x := { x with fz := fz }) F.fz TK FO o hq1).e l ho _ imm' own' ι' σ₁ ρ m _ E X' (hl.mono hx) (PostS.on (hl.mono hx) h₁ fun u σ₂ w₂ h₂' tk₂ imm₂ own₂ ι₂ hx₂ X₂ hr₂ h₂ => ?_)
  refine (allE (x := { x with fz := fz }) F.fz TK FO k hq2).e r hkk _ imm₂ own₂ ι₂ σ₂ ρ m _ E X₂ (hl.mono (hx.trans hx₂)) (PostS.on (hl.mono (hx.trans hx₂)) h₂ fun j σ₃ w₃ h₃' tk₃ imm₃ own₃ ι₃ hx₃ X₃ hr₃ h₃ => ?_)
  cases hp : putAt σ₃ u j v with
  | none => rw [hp] at h₃; exact h₃.elim
  | some σ₄ =>
    rw [hp] at h₃
    exact store_at X₃ (hr₂.mono hx₃) hr₃ (hr.mono (hx₂.trans hx₃)) hp fun h₄ own₄ X₄ => h₃ _ h₄ tk₃ m imm₃ own₄ ι₃ Ext.refl X₄ (.next (hl.mono (hx.trans (hx₂.trans hx₃))))
theorem s_unpackSub (F : Frm c x (d + 1)) (TK : TopOk c P) (FO : FnsOK c P d Φ) {i : Nat} {o k e : ME} (hq1 : QE x P o) (hq2 : QE x P k) (hq : QE x P e) (hc : x.quiet = false) : SoundS c x Φ (.unpackSub i o k e) := by
  intro t hm fz s imm own ι σ ρ m Q E hE X hl h
  obtain ⟨z, p1, l, r, p2, p3, p4, y, p5, rfl, hk⟩ := ms_unpackSub hm
  simp only [Bool.and_eq_true, beq_iff_eq] at hk
  obtain ⟨⟨⟨⟨hz, ho⟩, hkk⟩, he⟩, hn⟩ := hk
  simp only [xs_expr, xs_append, xs_assign, xs_unpack, xs_setattr, xs_setitem, xs_unpackSub, xs_unpackL, xs_ite, xs_forIn, xs_forRange, xs_forTup, xs_while, xs_ret, xs_retNone, xs_brk, xs_cont, xs_pass, xs_raise, xs_try, xs_hand] at h
  refine Assign_Tuple ?_ (by unfold swapsWithSole; exact swaps_no he) (by cases y <;> first | rfl | cases hn)
  refine (allE (x := { x with fz := fz }) F.fz TK FO e hq).e y he s imm own ι σ ρ m _ E X hl (PostS.on hl h fun v σ₁ w h' tk imm' own' ι' hx X' hr h₁ => ?_)
  cases hv : pairOf v with
  | none => rw [hv] at h₁; exact h₁.elim
  | some q =>
    rw [hv] at h₁
    obtain rfl := pairOf_inv hv
    obtain ⟨b, xs, rfl, hT, rs⟩ := X'.isTup hr
    cases rs with
    | @cons _ y1 _ _ r1 rs =>
    cases rs with
    | @cons _ y2 _ _ r2 rs =>
    cases rs
    refine unpackN_ X'.fr X'.news hT (F.calm hc) rfl rfl fun h'' F' N' => ?_
    show wpAny (model c.prog c.w) x.A (do holding [y2] (assign (.Name z p1) x.env y1); assignInOrder ((assignEach [.Subscript l r p2] x.env).map (·.2)) [y2]) _ E _
    have X₁ := X'.keep F' N'
    refine wpAny_bind (wpAny_holding (assign_Name (stN X₁.fr X₁.news (fun h₁' F₁ N₁ => ?_) F.kind (F.loc z (List.mem_of_getElem? hz)))))
    have X₂ := X₁.setName F₁ N₁
    have hl₂ := (hl.mono hx).set F.nd hz r1
    show wpAny (model c.prog c.w) x.A (do holding [] (assign (.Subscript l r p2) x.env y2); pure ()) _ E _
    refine wpAny_bind (wpAny_holding ?_)
    rw [assign_Subscript]
    refine wpAny_bind (wpAny_holding ?_)
    refine (allE (x := { x with fz := fz }) F.fz TK FO o hq1).e l ho _ imm' own' ι' σ₁ _ _ _ E X₂ hl₂ (PostS.on hl₂ h₁ fun u σ₂ w₂ h₂' tk₂ imm₂ own₂ ι₂ hx₂ X₂ hr₂ h₂ => ?_)
    refine wpAny_bind (wpAny_holding ?_)
    refine (allE (x := { x with fz := fz }) F.fz TK FO k hq2).e r hkk _ imm₂ own₂ ι₂ σ₂ _ _ _ E X₂ (hl₂.mono hx₂) (PostS.on (hl₂.mono hx₂) h₂ fun j σ₃ w₃ h₃' tk₃ imm₃ own₃ ι₃ hx₃ X₃ hr₃ h₃ => ?_)
    refine wpAny_bind (wpAny_standAt (wpAny_bind (wpAny_holding ?_)))
    cases hp : putAt σ₃ u j q.2 with
    | none => rw [hp] at h₃; exact h₃.elim
    | some σ₄ =>
      rw [hp] at h₃
      exact store_at X₃ (hr₂.mono hx₃) hr₃ (r2.mono (hx₂.trans hx₃)) hp fun h₄ own₄ X₄ => wpAny_release (wpAny_pure (h₃ _ h₄ tk₃ _ imm₃ own₄ ι₃ Ext.refl X₄ (.next (hl₂.mono (hx₂.trans hx₃)))))
section
variable {prog : Program} {w : World} {A : Around} {E : Value → Shared → Prop}
theorem draw_list {it t : Addr} {items : Array Value} (hne : t ≠ it) (n : Nat) : ∀ (i : Nat) (s : Shared) (Q : List Value → Shared → Prop), Heap.IsListIter s.heap it t i → s.heap.IsList t items → i + n ≤ items.size →
    (∀ h', Heap.IsListIter h' it t (i + n) → Heap.SameBut it s.heap h' → Q ((items.toList.drop i).take n) { s with heap := h' }) → wpAny (model prog w) A (draw (.ref it) n) Q E s := by
  induction n with
  | zero =>
    intro i s Q hit _ _ k
    refine wpAny_pure ?_
    have := k s.heap hit (Heap.SameBut.refl ..)
    rwa [List.take_zero] at this
  | succ n ih =>
    intro i s Q hit hl hle k
    have hi : i < items.size := Nat.lt_of_lt_of_le (Nat.lt_add_of_pos_right (Nat.succ_pos n)) hle
    refine wpAny_bind (wpAny_pyNext_list_item hit hl (Array.getElem?_eq_getElem hi) fun h₁ hit₁ hs₁ => ?_)
    refine wpAny_bind (wpAny_holding (ih (i + 1) _ _ hit₁ (hl.extBut hs₁.extBut hne) (by omega) fun h₂ hit₂ hs₂ => wpAny_pure ?_))
    have := k h₂ (by rw [show i + (n + 1) = i + 1 + n by omega]; exact hit₂) (hs₁.trans hs₂)
    rw [List.drop_eq_getElem_cons (by simpa using hi), List.take_succ_cons] at this
    exact this
theorem unpack_list {t : Addr} {items : Array Value} {env : Env} {elts : List Expr} {x1} {pos : Pos} {s : Shared} {Q : Unit → Shared → Prop} (hh : A.handled = none) (hl : s.heap.IsList t items) (hn : (assignEach elts env).length = items.size) (hstar : (assignEach elts env).findIdx? (·.1) = none)
    (k : ∀ h', Heap.ExtBut s.heap.objs.size s.heap h' → wpAny (model prog w) A (assignInOrder ((assignEach elts env).map (·.2)) items.toList) Q E { s with heap := h' }) :
    wpAny (model prog w) A (assign (.Tuple elts x1 pos) env (.ref t)) Q E s := by
  have hlt : t ≠ s.heap.objs.size := by obtain ⟨o, ho, _⟩ := hl; exact Nat.ne_of_lt (Heap.lt_size ho)
  rw [assign_Tuple]
  refine wpAny_bind (wpAny_standAt ?_)
  unfold unpack
  rw [hn, hstar]
  refine wpAny_bind (wpAny_holding ?_)
  unfold unpackItems
  refine wpAny_bind ?_
  unfold notIterableAtAll
  refine wpAny_bind (wpAny_specialOf hl.typeIs slot_list_iter.lookup (wpAny_pure ?_))
  simp only [Bool.false_eq_true, if_false]
  refine wpAny_bind (wpAny_holding (wpAny_pyIter_list hl ?_))
  refine wpAny_bind (wpAny_holding (draw_list hlt items.size 0 _ _ ⟨_, Heap.get?_push_size _ rfl, rfl, rfl⟩ (hl.push _) (by omega) fun h₁ hit₁ hs₁ => ?_))
  have hall : List.take items.size (List.drop 0 items.toList) = items.toList := List.take_of_length_le (by simp)
  rw [hall, if_neg (by simp)]
  have hl₁ : h₁.IsList t items := (hl.push _).extBut hs₁.extBut hlt
  refine wpAny_bind (wpAny_holding (wpAny_pyNext_list_end hh hit₁ hl₁ (by simp) fun h₂ he₂ => ?_))
  simp only [Option.isSome_none, Bool.false_eq_true, if_false]
  exact wpAny_pure (k h₂ fun b o hb e => he₂ b o hb (hs₁.extBut b o hb (Heap.get?_push_of_some _ e)))
end
theorem lstOf_inv {v : V} {vs : List V} (h : lstOf v = some vs) : v = .lst vs := by
  cases v with
  | lst us => exact congrArg V.lst (Option.some.inj h)
  | _ => cases h
theorem s_unpackL (F : Frm c x (d + 1)) (TK : TopOk c P) (FO : FnsOK c P d Φ) {is : List Nat} {e : ME} (hq : QE x P e) (hc : x.quiet = false) : SoundS c x Φ (.unpackL is e) := by
  intro t hm fz s imm own ι σ ρ m Q E hE X hl h
  obtain ⟨ts, p1, p2, y, p3, rfl, hk⟩ := ms_unpackL hm
  simp only [Bool.and_eq_true] at hk
  obtain ⟨⟨ht, he⟩, hn⟩ := hk
  simp only [xs_expr, xs_append, xs_assign, xs_unpack, xs_setattr, xs_setitem, xs_unpackSub, xs_unpackL, xs_ite, xs_forIn, xs_forRange, xs_forTup, xs_while, xs_ret, xs_retNone, xs_brk, xs_cont, xs_pass, xs_raise, xs_try, xs_hand] at h
  refine Assign_Tuple ?_ (by unfold swapsWithSole; exact swaps_no he) (by cases y <;> first | rfl | cases hn)
  refine (allE (x := { x with fz := fz }) F.fz TK FO e hq).e y he s imm own ι σ ρ m _ E X hl (PostS.on hl h fun v σ₁ w h' tk imm' own' ι' hx X' hr h₁ => ?_)
  cases hv : (lstOf v).bind fun vs => setAll is vs ρ with
  | none => rw [hv] at h₁; exact h₁.elim
  | some ρ' =>
    rw [hv] at h₁
    obtain ⟨vs, hv1, hρ⟩ := Option.bind_eq_some_iff.mp hv
    obtain rfl := lstOf_inv hv1
    obtain ⟨b, xs, rfl, hL, rs⟩ := X'.isList hr rfl
    obtain ⟨q1, q2⟩ := each_names (env := x.env) (is := is) (ts := ts) ht
    refine unpack_list (F.calm hc) hL (by rw [q1, List.size_toArray, rs.length, set_len hρ]) q2 fun h'' he'' => ?_
    exact assign_names F ht hρ rs (X'.keep (X'.fr.extBut he'' (Nat.le_refl _)) (X'.news.extBut he'' (Nat.le_refl _))) (hl.mono hx) fun h₃ tk₃ m₃ X₃ hl₃ => h₁ _ h₃ tk₃ m₃ imm' own' ι' Ext.refl X₃ (.next hl₃)
theorem b_nil : SoundB c x Φ [] := by
  intro ts hm fz s imm own ι σ ρ m Q E hE X hl h
  cases ts with
  | cons _ _ => (first | cases mss_n hm | cases hm)
  | nil =>
    simp only [xb_0, xb_1] at h
    exact wpAny_execs_nil (PostS.ok (tk := s.toks) h X (.next hl))
theorem b_cons {st : MS} {r : List MS} (h1 : SoundS c x Φ st) (h2 : SoundB c x Φ r) : SoundB c x Φ (st :: r) := by
  intro ts hm fz s imm own ι σ ρ m Q E hE X hl h
  cases ts with
  | nil => (first | cases mss_n hm | cases hm)
  | cons t ts =>
    simp only [mss, List.head?_cons, Option.any_some, List.tail_cons, Bool.and_eq_true] at hm
    simp only [xb_0, xb_1] at h
    refine wpAny_execs_cons (h1 t hm.1 fz s imm own ι σ ρ m _ E hE X hl ?_)
    revert h
    cases execS Φ st ρ σ with
    | exn _ _ _ _ => exact fun h => h
    | stuck => exact fun h => h
    | ok fl σ₁ =>
      intro h fy h' tk m' imm' own' ι' hx X' hf
      cases hf with
      | next hl' =>
        exact h2 ts hm.2 fz _ imm' own' ι' σ₁ _ m' Q E hE X' hl' (PostS.lift hx h)
      | brk hl' => exact h _ h' tk m' imm' own' ι' hx X' (.brk hl')
      | cont hl' => exact h _ h' tk m' imm' own' ι' hx X' (.cont hl')
      | ret hr => exact h _ h' tk m' imm' own' ι' hx X' (.ret hr)
end
end Mine
set_option maxRecDepth 100000
set_option linter.unusedVariables false
set_option linter.unusedSectionVars false
namespace Mine
open PySem PySem.W PyProof.Rows PySem.Calls

section
variable {Z : Nms} {B : Bas} {h₀ : Heap → Prop} {L : Addr} {fz : Led} {h : Heap} {m : Str → Option Value} {imm own : Led} {ι : List Addr} {σ : Store}
/-- an iterator is made -/
theorem St.addFz {o : Obj} (X : St Z B h₀ L fz h m imm own ι σ) (ho : o.isFreed = false) : St Z B h₀ L ((h.objs.size, o) :: fz) (h.push o) m imm own ι σ := by
  have hp : (own ++ (imm ++ (h.objs.size, o) :: fz)).Perm ((h.objs.size, o) :: (own ++ (imm ++ fz))) := by
    rw [← List.append_assoc, ← List.append_assoc]; exact List.perm_middle
  exact ⟨X.g, X.gd, X.fr.push o, News.sub (News.push X.fr X.news o ho) fun p q => hp.mem_iff.mp q, nodup_new hp X.nd X.lt, X.owned, X.base⟩
/-- it goes on -/
theorem St.setFz {I : Addr} {o o' : Obj} {h' : Heap} (X : St Z B h₀ L ((I, o) :: fz) h m imm own ι σ) (hs : Heap.SameBut I h h') (ho : h'.get? I = some o') : St Z B h₀ L ((I, o') :: fz) h' m imm own ι σ := by
  have hI := X.news (I, o) (List.mem_append_right _ (List.mem_append_right _ (.head _)))
  have nd := X.nd
  have hp : (own ++ (imm ++ (I, o) :: fz)).Perm ((I, o) :: (own ++ (imm ++ fz))) := by
    rw [← List.append_assoc, ← List.append_assoc]; exact List.perm_middle
  have nd' := ((hp.map (·.1)).nodup_iff).mp nd
  rw [List.map_cons, List.nodup_cons] at nd'
  have hp' : (own ++ (imm ++ (I, o') :: fz)).Perm ((I, o') :: (own ++ (imm ++ fz))) := by
    rw [← List.append_assoc, ← List.append_assoc]; exact List.perm_middle
  refine ⟨X.g, X.gd, ?_, fun p q => ?_, ?_, X.owned, X.base⟩
  · obtain ⟨oL, es, ep, hL, r⟩ := X.fr.ns
    refine ⟨⟨oL, es, ep, (hs.2 L (Ne.symm hI.2.1)).trans hL, r⟩, fun b ob e => ?_, X.fr.above⟩
    have hb : b ≠ I := by rintro rfl; rw [hI.2.2] at e; cases e
    exact (hs.2 b hb).trans (X.fr.keep b ob e)
  · rcases List.mem_cons.mp (hp'.mem_iff.mp q) with rfl | q
    · exact ⟨ho, hI.2⟩
    · have hq := X.news p (hp.mem_iff.mpr (.tail _ q))
      have hne : p.1 ≠ I := fun e => nd'.1 (List.mem_map.mpr ⟨p, q, e⟩)
      exact ⟨(hs.2 _ hne).trans hq.1, hq.2⟩
  · refine ((hp'.map (·.1)).nodup_iff).mpr ?_
    rw [List.map_cons]
    exact List.nodup_cons.mpr nd'
/-- it is done with -/
theorem St.dropFz {I : Addr} {o : Obj} {h' : Heap} (X : St Z B h₀ L ((I, o) :: fz) h m imm own ι σ) (he : Heap.ExtBut I h h') : St Z B h₀ L fz h' m imm own ι σ := by
  have hI := X.news (I, o) (List.mem_append_right _ (List.mem_append_right _ (.head _)))
  have nd := X.nd
  have hp : (own ++ (imm ++ (I, o) :: fz)).Perm ((I, o) :: (own ++ (imm ++ fz))) := by
    rw [← List.append_assoc, ← List.append_assoc]; exact List.perm_middle
  have nd' := ((hp.map (·.1)).nodup_iff).mp nd
  rw [List.map_cons, List.nodup_cons] at nd'
  refine ⟨X.g, X.gd, ?_, fun p q => ?_, nd'.2, X.owned, X.base⟩
  · obtain ⟨oL, es, ep, hL, r⟩ := X.fr.ns
    refine ⟨⟨oL, es, ep, he L oL (Ne.symm hI.2.1) hL, r⟩, fun b ob e => ?_, X.fr.above⟩
    have hb : b ≠ I := by rintro rfl; rw [hI.2.2] at e; cases e
    exact he b ob hb (X.fr.keep b ob e)
  · have hq := X.news p (hp.mem_iff.mpr (.tail _ q))
    have hne : p.1 ≠ I := fun e => nd'.1 (List.mem_map.mpr ⟨p, q, e⟩)
    exact ⟨he _ _ hne hq.1, hq.2⟩
theorem St.getFz {p : Addr × Obj} (X : St Z B h₀ L fz h m imm own ι σ) (hp : p ∈ fz) : h.get? p.1 = some p.2 := (X.news p (List.mem_append_right _ (List.mem_append_right _ hp))).1
end

section
variable {c : Cx} {x : Fx} {d : Nat} {Φ : Fns} {P : Prog}

theorem RaisedS.less {base G h : Heap} {l : List Env} {e t : Addr} {cls : Value} {vs : List Value} {news news' : Led} (R : RaisedS base G l e cls t vs news h) (hs : ∀ p ∈ news', p ∈ news) : RaisedS base G l e cls t vs news' h := by
  obtain ⟨⟨B, b1, b2, b3, b4⟩, r⟩ := R
  exact ⟨⟨B, b1, b2, fun q hq => b3 q (hs q hq), b4⟩, r⟩
/-- the iterators of the loops left behind -/
theorem Thrown.drop {p : Addr × Obj} {fz : Led} {m : Str → Option Value} {imm : Led} {ι : List Addr} {k : Nat} {σ' : Store} {s s' : Shared} {e : Addr} (T : Thrown c { x with fz := p :: fz } m imm ι k σ' s s' e) : Thrown c { x with fz := fz } m imm ι k σ' s s' e := by
  obtain ⟨h0, C, g, imm', own', ι', q, G, hx, nd, ow, G', t, vs, r1, r2, r3⟩ := T
  have sb : (own' ++ (imm' ++ fz)).Sublist (own' ++ (imm' ++ p :: fz)) := List.Sublist.append (List.Sublist.refl _) (List.Sublist.append (List.Sublist.refl _) (List.sublist_cons_self _ _))
  exact ⟨h0, C, g, imm', own', ι', q, G, hx, (sb.map _).nodup nd, ow, G', t, vs, r1, RaisedS.less r2 fun q hq => sb.subset hq, r3⟩
theorem ThrownS.drop {p : Addr × Obj} {fz : Led} {imm : Led} {ι : List Addr} {b : Bool} {k : Nat} {ρ : Loc} {σ' : Store} {s s' : Shared} {e : Addr} (T : ThrownS c { x with fz := p :: fz } imm ι b k ρ σ' s s' e) : ThrownS c { x with fz := fz } imm ι b k ρ σ' s s' e := by
  cases b with
  | false =>
    obtain ⟨m, i, j, h, t, q, r, w⟩ := T
    exact ⟨m, i, j, h, t, q, r, Thrown.drop w⟩
  | true =>
    obtain ⟨m, i, o, j, h, vs, C, h', tk, q, r, X, w⟩ := T
    exact ⟨m, i, o, j, h, vs, C, h', tk, q, r, X.dropFz (I := p.1) (o := p.2) fun _ _ _ e => e, w⟩

/-- a loop whatever its target -/
theorem loop_any {prog : Program} {w : World} {A : Around} {s : Shared} {R : Result → Shared → Prop} {target : Expr} {it : Value} {body orelse : List Stmt} {env : Env} (I : Nat → Shared → Prop)
    (turn : ∀ n s, I n s → wpAny (model prog w) A (pyNext it) (fun r s₁ => match r with
      | none => wpAny (model prog w) A (execs orelse env) (fun f s₃ => R (.ok f) s₃) (notedBy (model prog w) A env fun e s' => R (.error e) s') s₁
      | some v => wpAny (model prog w) A (letOwnedTupleGo target it v) (fun _ s₀ => wpAny (model prog w) A (assign target env v) (fun _ s₂ => wpAny (model prog w) A (execs body env) (fun f s₃ => match f with
          | .next | .cont => ∃ m, m < n ∧ I m s₃
          | .brk => R (.ok .next) s₃
          | .ret v => R (.ok (.ret v)) s₃) (notedBy (model prog w) A env fun e s' => R (.error e) s') s₂) (notedBy (model prog w) A env fun e s' => R (.error e) s') s₀) (notedBy (model prog w) A env fun e s' => R (.error e) s') s₁) (notedBy (model prog w) A env fun e s' => R (.error e) s') s)
    (n : Nat) (h : I n s) : codeAny (model prog w) A (.forLoop target it body orelse env) R s := by
  refine codeAny_loop' rfl I (fun n s hI => ?_) n h
  show wpAny _ _ ((forTurn target it body orelse env).onRaise (fun x => do noteFrame x env; theTreesLotGoes x)) _ _ s
  refine wpAny_noted ?_
  simp only [forTurn]
  refine wpAny_bind (wpAny_standAt (wpAny_bind (wpAny_onRaise (wpAny_mono (turn n s hI) (fun r s₁ h₁ => ?_) fun _ _ h' => wpAny_standAt h'))))
  cases r with
  | none => exact wpAny_pure (.inr ⟨rfl, codeAny_block h₁⟩)
  | some v =>
    refine wpAny_bind (wpAny_mono h₁ (fun _ s₀ h₀ => wpAny_bind (wpAny_mono h₀ (fun _ s₂ h₂ => wpAny_bind (wpAny_mono h₂ (fun f s₃ h₃ => ?_) fun _ _ h' => h')) fun _ _ h' => h')) fun _ _ h' => h')
    cases f with
    | next => exact wpAny_pure (.inl ⟨rfl, h₃⟩)
    | cont => exact wpAny_pure (.inl ⟨rfl, h₃⟩)
    | brk => exact wpAny_pure h₃
    | ret v => exact wpAny_pure h₃
/-- what a loop's target does -/
noncomputable def Target (c : Cx) (x : Fx) (tg : Expr) (bnd : V → Loc → Option Loc) : Prop :=
  ∀ (I l : Addr) (j : Nat) (v : V) (u : Value) (fz : Led) (s : Shared) (imm own : Led) (ι : List Addr) (σ : Store) (ρ ρ₁ : Loc) (m : Str → Option Value) (Q : Unit → Shared → Prop) (E : Value → Shared → Prop), bnd v ρ = some ρ₁ → Rep c.B imm ι v u → Heap.IsListIter s.heap I l j →
    St c.Z c.B (Gnd x) x.L fz s.heap m imm own ι σ → LocRel c.B imm ι x.S ρ m → (∀ h' tk m', St c.Z c.B (Gnd x) x.L fz h' m' imm own ι σ → LocRel c.B imm ι x.S ρ₁ m' → Q () { s with heap := h', toks := tk }) →
    wpAny (model c.prog c.w) x.A (letOwnedTupleGo tg (.ref I) u) (fun _ s₀ => wpAny (model c.prog c.w) x.A (assign tg x.env u) Q E s₀) E s
theorem t_lt {n j : Nat} (h : j < n) : n + 1 - (j + 1) < n + 1 - j := by omega
theorem t_end {n j : Nat} (h : j ≤ n) (h' : ¬ j < n) : j = n := by omega
/-- how a loop stands ahead of a turn: j turns are done -/
inductive Turn (c : Cx) (x y : Fx) (s : Shared) (imm₁ : Led) (ι₁ : List Addr) (Q : Flow → Shared → Prop) (E : Value → Shared → Prop) (n : Nat) (fz : Nat → Led → Prop) (run : Nat → Loc → Store → SR) (ok : Store → Prop) : Nat → Shared → Prop
  | mk (j : Nat) (f : Led) (h : Heap) (tk : Nat) (m : Str → Option Value) (imm own : Led) (ι : List Addr) (σ : Store) (ρ : Loc) : j ≤ n → fz j f → Ext imm₁ imm ι₁ ι → St c.Z c.B (Gnd x) x.L f h m imm own ι σ → LocRel c.B imm ι x.S ρ m → ok σ →
    PostS c y imm ι (run j ρ σ) Q E { s with heap := h, toks := tk } → Turn c x y s imm₁ ι₁ Q E n fz run ok (n + 1 - j) { s with heap := h, toks := tk }
theorem for_list (F : Frm c x (d + 1)) (hc : x.quiet = false) {body : List MS} {b : List Stmt} {tg : Expr} {bnd : V → Loc → Option Loc} (TG : Target c x tg bnd) (hb : SoundB c x Φ body) (hbb : mss c.T x.G x.S c.M body b = true) {fz : Led} {s : Shared} {imm₁ own₁ : Led} {ι₁ : List Addr} {σ₁ : Store} {ρ : Loc} {m : Str → Option Value} {Q : Flow → Shared → Prop} {E : Value → Shared → Prop} {src : V} {all : List V} {w : Value} {h' : Heap} {tk : Nat}
    (hE : PassesOwn (model c.prog c.w) x.A x.env E) (X₁ : St c.Z c.B (Gnd x) x.L fz h' m imm₁ own₁ ι₁ σ₁) (hl : LocRel c.B imm₁ ι₁ x.S ρ m) (hr₁ : Rep c.B imm₁ ι₁ src w) (hall : listOf σ₁ src = some all)
    (h₁ : PostS c { x with fz := fz } imm₁ ι₁ (forG src all (execB Φ body) bnd all ρ σ₁) Q E { s with heap := h', toks := tk }) :
    wpAny (model c.prog c.w) x.A (pyIter w) (fun it s₂ => codeAny (model c.prog c.w) x.A (.forLoop tg it b [] x.env) (fun r s' => match r with | .ok f => Q f s' | .error e => cameBackBy (model c.prog c.w) x.A x.env E e s') s₂) E { s with heap := h', toks := tk } := by
  obtain ⟨l, xs, rfl, hL, rs⟩ := X₁.isList hr₁ hall
  refine wpAny_pyIter_list hL ?_
  have X₂ := X₁.addFz (o := { cls := .type "list_iterator", data := .fields #[.ref l, .int 0 0] }) rfl
  refine loop_any (Turn c x { x with fz := fz } s imm₁ ι₁ Q E all.length (fun j f => ∃ o : Obj, f = (h'.objs.size, o) :: fz ∧ o.cls = .type "list_iterator" ∧ o.data = .fields #[.ref l, .int j 0]) (fun j ρ σ => forG src all (execB Φ body) bnd (all.drop j) ρ σ) (fun σ => listOf σ src = some all)) ?_ (all.length + 1)
    (.mk 0 _ _ tk m imm₁ own₁ ι₁ σ₁ ρ (Nat.zero_le _) ⟨_, rfl, rfl, rfl⟩ Ext.refl X₂ hl hall (by rw [List.drop_zero]; exact PostS.lift Ext.refl h₁))
  rintro k s' ⟨j, f, h'', tk'', m'', imm'', own'', ι'', σ'', ρ'', hj, ⟨o, rfl, ho1, ho2⟩, hx'', X'', hl'', hall'', hP⟩
  have hit : Heap.IsListIter h'' h'.objs.size l j := ⟨o, X''.getFz (p := (h'.objs.size, o)) (.head _), ho1, ho2⟩
  obtain ⟨l', xs', el, hL', rs'⟩ := X''.isList (hr₁.mono hx'') hall''
  cases el
  by_cases hlt : j < all.length
  · obtain ⟨u, hu, ru⟩ := rs'.get (List.getElem?_eq_getElem hlt)
    refine wpAny_pyNext_list_item hit hL' (by simpa using hu) fun h₃ hit₃ hs₃ => ?_
    obtain ⟨o₃, ho₃, hc₃, hd₃⟩ := hit₃
    have X₃ := X''.setFz hs₃ ho₃
    rw [List.drop_eq_getElem_cons hlt] at hP
    simp only [fg_0, fg_1] at hP
    cases hbnd : bnd all[j] ρ'' with
    | none => rw [hbnd] at hP; exact hP.elim
    | some ρ₄ =>
    rw [hbnd] at hP
    refine TG _ l (j + 1) _ u ((h'.objs.size, o₃) :: fz) _ imm'' own'' ι'' σ'' ρ'' ρ₄ _ _ _ hbnd ru ⟨o₃, ho₃, hc₃, hd₃⟩ X₃ hl'' fun h₄ tk₄ m₄ X₄ hl₄ => ?_
    refine wpAny_passesOwn hE (hb b hbb ((h'.objs.size, o₃) :: fz) _ imm'' own'' ι'' σ'' ρ₄ _ _ E hE X₄ hl₄ ?_)
    revert hP
    dsimp only
    cases execB Φ body ρ₄ σ'' with
    | exn _ _ _ _ => exact fun h e s' T => h e s' (ThrownS.drop T)
    | stuck => exact fun h => h
    | ok fl σ₅ =>
      intro hP fy h₅ tk₅ m₅ imm₅ own₅ ι₅ hx₅ X₅ hf
      cases hf with
      | next hl₅ =>
        dsimp only at hP
        split at hP
        · rename_i hall₅
          exact ⟨_, t_lt hlt, .mk (j + 1) _ h₅ tk₅ m₅ imm₅ own₅ ι₅ σ₅ _ hlt ⟨o₃, rfl, hc₃, hd₃⟩ (hx''.trans hx₅) X₅ hl₅ hall₅ (PostS.lift hx₅ hP)⟩
        · exact hP.elim
      | cont hl₅ =>
        dsimp only at hP
        split at hP
        · rename_i hall₅
          exact ⟨_, t_lt hlt, .mk (j + 1) _ h₅ tk₅ m₅ imm₅ own₅ ι₅ σ₅ _ hlt ⟨o₃, rfl, hc₃, hd₃⟩ (hx''.trans hx₅) X₅ hl₅ hall₅ (PostS.lift hx₅ hP)⟩
        · exact hP.elim
      | brk hl₅ => exact hP _ h₅ tk₅ m₅ imm₅ own₅ ι₅ hx₅ (X₅.dropFz fun _ _ _ e => e) (.next hl₅)
      | ret hr₅ => exact hP _ h₅ tk₅ m₅ imm₅ own₅ ι₅ hx₅ (X₅.dropFz fun _ _ _ e => e) (.ret hr₅)
  · have hj' : j = all.length := t_end hj hlt
    subst hj'
    refine wpAny_pyNext_list_end (F.calm hc) hit hL' (by simp [rs'.length]) fun h₃ he₃ => ?_
    simp only [List.drop_length, fg_0, fg_1] at hP
    exact wpAny_execs_nil (hP _ h₃ tk'' m'' imm'' own'' ι'' Ext.refl (X''.dropFz he₃) (.next hl''))

theorem s_forIn (F : Frm c x (d + 1)) (TK : TopOk c P) (FO : FnsOK c P d Φ) {i : Nat} {it : ME} {body : List MS} (hq : QE x P it) (hc : x.quiet = false) (hb : SoundB c x Φ body) : SoundS c x Φ (.forIn i it body) := by
  intro t hm fz s imm own ι σ ρ m Q E hE X hl h
  obtain ⟨z, p1, y, b, p, rfl, hk⟩ := ms_forIn hm
  simp only [Bool.and_eq_true, beq_iff_eq] at hk
  obtain ⟨⟨hz, hy⟩, hbb⟩ := hk
  simp only [xs_expr, xs_append, xs_assign, xs_unpack, xs_setattr, xs_setitem, xs_unpackSub, xs_unpackL, xs_ite, xs_forIn, xs_forRange, xs_forTup, xs_while, xs_ret, xs_retNone, xs_brk, xs_cont, xs_pass, xs_raise, xs_try, xs_hand] at h
  refine wpAny_For ?_ (fold_no hy)
  refine (allE (x := { x with fz := fz }) F.fz TK FO it hq).e y hy s imm own ι σ ρ m _ _ X hl (PostS.on hl h fun src σ₁ w h' tk imm₁ own₁ ι₁ hx₁ X₁ hr₁ h₁ => ?_)
  split at h₁
  · rename_i all hall
    rw [forL_eq] at h₁
    refine for_list F hc (fun I l j v u fz s imm own ι σ ρ ρ₁ m Q E e ru _ X hl k => ?_) hb hbb hE X₁ (hl.mono hx₁) hr₁ hall h₁
    cases e
    refine wpAny_pure ?_
    exact PyProof.Rows.assign_Name (stN X.fr X.news (fun h₄ F₄ N₄ => k h₄ _ _ (X.setName F₄ N₄) (hl.set F.nd hz ru)) F.kind (F.loc z (List.mem_of_getElem? hz)))
  · exact h₁.elim
theorem s_forTup (F : Frm c x (d + 1)) (TK : TopOk c P) (FO : FnsOK c P d Φ) {is : List Nat} {it : ME} {body : List MS} (hq : QE x P it) (hc : x.quiet = false) (hb : SoundB c x Φ body) : SoundS c x Φ (.forTup is it body) := by
  intro t hm fz s imm own ι σ ρ m Q E hE X hl h
  obtain ⟨ts, p1, p2, y, b, p, rfl, hk⟩ := ms_forTup hm
  simp only [Bool.and_eq_true] at hk
  obtain ⟨⟨hz, hy⟩, hbb⟩ := hk
  simp only [xs_expr, xs_append, xs_assign, xs_unpack, xs_setattr, xs_setitem, xs_unpackSub, xs_unpackL, xs_ite, xs_forIn, xs_forRange, xs_forTup, xs_while, xs_ret, xs_retNone, xs_brk, xs_cont, xs_pass, xs_raise, xs_try, xs_hand] at h
  refine wpAny_For ?_ (fold_no hy)
  refine (allE (x := { x with fz := fz }) F.fz TK FO it hq).e y hy s imm own ι σ ρ m _ _ X hl (PostS.on hl h fun src σ₁ w h' tk imm₁ own₁ ι₁ hx₁ X₁ hr₁ h₁ => ?_)
  split at h₁
  · rename_i all hall
    refine for_list F hc (fun I l j v u fz s imm own ι σ ρ ρ₁ m Q E e ru hit X hl k => ?_) hb hbb hE X₁ (hl.mono hx₁) hr₁ hall h₁
    cases v with
    | tup vs =>
      obtain ⟨T, xs, rfl, hT, rs⟩ := X.isTup ru
      obtain ⟨q1, q2⟩ := each_names (env := x.env) (is := is) (ts := ts) hz
      refine wpAny_letOwnedTupleGo_listiter hit ?_
      refine unpackN_ X.fr X.news hT (F.calm hc) (by rw [q1, List.size_toArray, rs.length, set_len e]) q2 fun h'' F' N' => ?_
      exact assign_names F hz e rs (X.keep F' N') hl fun h₃ tk₃ m₃ X₃ hl₃ => k h₃ tk₃ m₃ X₃ hl₃
    | _ => cases e
  · exact h₁.elim

theorem t_q {n j : Nat} (h : j < n) : n - j = (n - (j + 1)) + 1 := by omega
theorem t_j (lo : Int) (j : Nat) : lo + (j : Int) + 1 = lo + ((j + 1 : Nat) : Int) := by omega
theorem t_n (n j : Nat) : (n : Int) - (j : Int) - 1 = (n : Int) - ((j + 1 : Nat) : Int) := by omega
theorem t_pos {n j : Nat} (h : j < n) : 0 < (n : Int) - (j : Int) := by omega
theorem t_no {n : Nat} : (n : Int) - (n : Int) ≤ 0 := by omega
theorem far1 {a : Int} (h : -1000000 < a) : -(2 ^ 62) ≤ a := by omega
theorem far2 {a : Int} (h : a < 1000000) : a < 2 ^ 62 := by omega
theorem s_forRange (F : Frm c x (d + 1)) (TK : TopOk c P) (FO : FnsOK c P d Φ) {i : Nat} {args : List ME} {body : List MS} (hq : QEs x P args) (hc : x.quiet = false) (hb : SoundB c x Φ body) : SoundS c x Φ (.forRange i args body) := by
  intro t hm fz s imm own ι σ ρ m Q E hE X hl h
  obtain ⟨z, p1, y, p2, es, p3, b, p, rfl, hk⟩ := ms_forRange hm
  simp only [Bool.and_eq_true, beq_iff_eq] at hk
  obtain ⟨⟨⟨⟨⟨hz, rfl⟩, hg⟩, hs⟩, hne⟩, hbb⟩ := hk
  simp only [xs_expr, xs_append, xs_assign, xs_unpack, xs_setattr, xs_setitem, xs_unpackSub, xs_unpackL, xs_ite, xs_forIn, xs_forRange, xs_forTup, xs_while, xs_ret, xs_retNone, xs_brk, xs_cont, xs_pass, xs_raise, xs_try, xs_hand] at h
  refine wpAny_For ?_ (by intro _; rfl)
  refine Call_ (name_B X.fr (F.kin X.gd) (topRead_of (F.top X.gd)) (TK.boot _ (by decide)) boot_range (by decide) ?_ F.kind (Fx.glob hg) (by decide))
  cases args with
  | nil => simp at hne
  | cons a args =>
  cases es with
  | nil => (first | cases mts_n hs | cases mts_n hs.2 | (exact Bool.noConfusion (show false = true from hs)) | exact Bool.noConfusion (show false = true from hs.2))
  | cons e es =>
  have hs' := hs
  simp only [mts, List.head?_cons, Option.any_some, List.tail_cons, Bool.and_eq_true] at hs
  refine Pv.callWith_type1 ?_ (star_cons hs.1) (star_none hs.2)
  refine (allEs (x := { x with fz := fz }) F.fz TK FO (a :: args) hq).es (e :: es) p3 hs' s imm own ι σ ρ m _ _ X hl (PostS.on hl h fun vs σ₁ ys h' tk imm₁ own₁ ι₁ hx₁ X₁ hr₁ h₁ => ?_)
  split at h₁
  · rename_i lo n hrange
    · -- the loop over the range object at r
      have go : ∀ (r : Addr) (h₂ : Heap) (tk₂ : Nat) (hi : Int) (t u v : Tok), IsRange h₂ r lo hi 1 t u v → (∀ b o, h'.get? b = some o → h₂.get? b = some o) → n = (hi - lo).toNat → -(2 ^ 62) ≤ hi → hi < 2 ^ 62 → -(2 ^ 62) ≤ lo → lo < 2 ^ 62 →
          wpAny (model c.prog c.w) x.A (pyIter (.ref r)) (fun it s₂ => codeAny (model c.prog c.w) x.A (.forLoop (.Name z p1) it b [] x.env) (fun r s' => match r with | .ok f => Q f s' | .error e => cameBackBy (model c.prog c.w) x.A x.env E e s') s₂) E { s with heap := h₂, toks := tk₂ } := by
        intro r h₂ tk₂ hi t u v hR hkeep hn hlo hhi hlo' hhi'
        have X₂ := X₁.keeps hkeep
        refine wpAny_pyIter_range hR (small_one hlo' hhi' hlo hhi) ?_
        have X₃ := X₂.addFz (o := { cls := .type "range_iterator", data := .fields #[rawInt lo, rawInt (Builtin.Range.rangeSize lo hi 1), rawInt 1] }) rfl
        have hsz : Builtin.Range.rangeSize lo hi 1 = (n : Int) := by rw [hn]; exact rangeSize_nat lo hi
        refine codeAny_forLoop (Turn c x { x with fz := fz } s imm₁ ι₁ Q E n (fun j f => f = (h₂.objs.size, { cls := .type "range_iterator", data := .fields #[rawInt (lo + (j : Int)), rawInt ((n : Int) - (j : Int)), rawInt 1] }) :: fz) (fun j ρ σ => forR (execB Φ body) i (n - j) (lo + (j : Int)) ρ σ) (fun _ => True)) ?_ (n + 1)
          (.mk 0 _ _ tk₂ m imm₁ own₁ ι₁ σ₁ ρ (Nat.zero_le _) rfl Ext.refl (by have X₃ : St c.Z c.B (Gnd x) x.L _ _ m imm₁ own₁ ι₁ σ₁ := X₃; simpa [hsz] using X₃) (hl.mono hx₁) trivial (by simpa using PostS.lift Ext.refl h₁))
        rintro k s' ⟨j, f, h'', tk'', m'', imm'', own'', ι'', σ'', ρ'', hj, rfl, hx'', X'', hl'', -, hP⟩
        have hit : IsRangeIter h'' h₂.objs.size (lo + (j : Int)) ((n : Int) - (j : Int)) 1 := X''.getFz (p := (h₂.objs.size, _)) (.head _)
        by_cases hlt : j < n
        · refine wpAny_pyNext_range_item hit (t_pos hlt) fun h₄ hit₄ hs₄ => ?_
          have X₄ := X''.setFz hs₄ hit₄
          refine PyProof.Rows.assign_Name (stN X₄.fr X₄.news (fun h₅ F₅ N₅ => ?_) F.kind (F.loc z (List.mem_of_getElem? hz)))
          have X₅ := X₄.setName F₅ N₅
          refine wpAny_passesOwn hE (hb b hbb _ _ imm'' own'' ι'' σ'' (ρ''.set i (some (.int (lo + (j : Int))))) _ _ E hE X₅ (hl''.set F.nd hz (.int _ _)) ?_)
          rw [t_q hlt] at hP
          simp only [fr_0, fr_1] at hP
          rw [t_j] at hP
          rw [t_j, t_n]
          revert hP
          cases execB Φ body (ρ''.set i (some (.int (lo + (j : Int))))) σ'' with
          | exn _ _ _ _ => exact fun h e s' T => h e s' (ThrownS.drop T)
          | stuck => exact fun h => h
          | ok fl σ₆ =>
            intro hP fy h₆ tk₆ m₆ imm₆ own₆ ι₆ hx₆ X₆ hf
            cases hf with
            | next hl₆ => exact ⟨_, t_lt hlt, .mk (j + 1) _ h₆ tk₆ m₆ imm₆ own₆ ι₆ σ₆ _ hlt rfl (hx''.trans hx₆) X₆ hl₆ trivial (PostS.lift hx₆ hP)⟩
            | cont hl₆ => exact ⟨_, t_lt hlt, .mk (j + 1) _ h₆ tk₆ m₆ imm₆ own₆ ι₆ σ₆ _ hlt rfl (hx''.trans hx₆) X₆ hl₆ trivial (PostS.lift hx₆ hP)⟩
            | brk hl₆ => exact hP _ h₆ tk₆ m₆ imm₆ own₆ ι₆ hx₆ (X₆.dropFz fun _ _ _ e => e) (.next hl₆)
            | ret hr₆ => exact hP _ h₆ tk₆ m₆ imm₆ own₆ ι₆ hx₆ (X₆.dropFz fun _ _ _ e => e) (.ret hr₆)
        · have hj' : j = n := t_end hj hlt
          subst hj'
          refine wpAny_pyNext_range_end (F.calm hc) hit t_no fun h₄ he₄ => ?_
          simp only [Nat.sub_self, fr_0, fr_1] at hP
          exact wpAny_execs_nil (hP _ h₄ tk'' m'' imm'' own'' ι'' Ext.refl (X''.dropFz he₄) (.next hl''))
      cases hr₁ with
      | nil => cases hrange
      | cons h1 hr₁ =>
      cases hr₁ with
      | nil =>
        obtain ⟨q, e1, hrange2⟩ := Option.bind_eq_some_iff.mp hrange
        clear hrange
        have hrange := hrange2
        clear hrange2
        obtain rfl := asInt_inv e1
        obtain ⟨t1, rfl⟩ := inv_int h1
        split at hrange
        · rename_i hc1
          cases hrange
          exact call_range_1 (go _ _ _ _ _ _ _ (IsRange.new h' _ _ _ _ _ _) (fun b o e => Heap.get?_push_of_some _ e) (by simp) (far1 hc1.1) (far2 hc1.2) (by decide) (by decide))
        · cases hrange
      | cons h2 hr₁ =>
      cases hr₁ with
      | nil =>
        obtain ⟨q, e1, hrange2⟩ := Option.bind_eq_some_iff.mp hrange
        clear hrange
        obtain ⟨q', e2, hrange⟩ := Option.bind_eq_some_iff.mp hrange2
        clear hrange2
        obtain rfl := asInt_inv e1
        obtain rfl := asInt_inv e2
        obtain ⟨t1, rfl⟩ := inv_int h1
        obtain ⟨t2, rfl⟩ := inv_int h2
        split at hrange
        · rename_i hc1
          cases hrange
          exact call_range_2 (go _ _ _ _ _ _ _ (IsRange.new h' _ _ _ _ _ _) (fun b o e => Heap.get?_push_of_some _ e) rfl (far1 hc1.2.1) (far2 hc1.2.2) (far1 hc1.1.1) (far2 hc1.1.2))
        · cases hrange
      | cons _ _ => cases hrange
  · exact h₁.elim

theorem s_while (F : Frm c x (d + 1)) (TK : TopOk c P) (FO : FnsOK c P d Φ) {fuel : Nat} {e : ME} {body : List MS} (hq : QE x P e) (hb : SoundB c x Φ body) : SoundS c x Φ (.while fuel e body) := by
  intro t hm fz s imm own ι σ ρ m Q E hE X hl h
  obtain ⟨u, b, p, rfl, hk⟩ := ms_while hm
  simp only [Bool.and_eq_true] at hk
  simp only [xs_expr, xs_append, xs_assign, xs_unpack, xs_setattr, xs_setitem, xs_unpackSub, xs_unpackL, xs_ite, xs_forIn, xs_forRange, xs_forTup, xs_while, xs_ret, xs_retNone, xs_brk, xs_cont, xs_pass, xs_raise, xs_try, xs_hand] at h
  refine wpAny_While ?_
  refine codeAny_whileLoop (fun k s' => ∃ h'' tk'' m'' imm'' own'' ι'' σ'' ρ'', s' = { s with heap := h'', toks := tk'' } ∧ Ext imm imm'' ι ι'' ∧ St c.Z c.B (Gnd x) x.L fz h'' m'' imm'' own'' ι'' σ'' ∧ LocRel c.B imm'' ι'' x.S ρ'' m'' ∧
    PostS c { x with fz := fz } imm'' ι'' (whileL (fun ρ σ => evalE Φ ρ e σ) (execB Φ body) k ρ'' σ'') Q E s') ?_ fuel ⟨_, s.toks, m, imm, own, ι, σ, ρ, rfl, Ext.refl, X, hl, h⟩
  rintro k s' ⟨h'', tk'', m'', imm'', own'', ι'', σ'', ρ'', rfl, hx'', X'', hl'', hP⟩
  cases k with
  | zero => exact hP.elim
  | succ k =>
    simp only [wl_0, wl_1] at hP
    refine wpAny_passesOwn hE ((allE (x := { x with fz := fz }) F.fz TK FO e hq).t u hk.1 _ imm'' own'' ι'' σ'' ρ'' m'' _ E X'' hl'' ?_)
    revert hP
    cases evalE Φ ρ'' e σ'' with
    | exn _ _ => exact fun h e s' T => h e s' ⟨m'', imm'', ι'', h'', tk'', Ext.refl, hl'', T⟩
    | stuck => exact fun h => h
    | ok v σ₁ =>
      simp only [R.on, R.bind]
      cases ht : truth v with
      | none => exact fun h => h
      | some t =>
        intro hP y h₁ tk₁ imm₁ own₁ ι₁ hx₁ X₁ ey
        subst ey
        cases t with
        | false =>
          simp only [Bool.false_eq_true, if_false] at hP ⊢
          exact wpAny_execs_nil (hP _ h₁ tk₁ m'' imm₁ own₁ ι₁ hx₁ X₁ (.next (hl''.mono hx₁)))
        | true =>
          simp only [if_true] at hP ⊢
          refine wpAny_passesOwn hE (hb b hk.2 fz _ imm₁ own₁ ι₁ σ₁ ρ'' m'' _ E hE X₁ (hl''.mono hx₁) ?_)
          revert hP
          cases execB Φ body ρ'' σ₁ with
          | exn _ _ _ _ => exact fun h e s' T => h e s' (T.back hx₁)
          | stuck => exact fun h => h
          | ok fl σ₂ =>
            intro hP fy h₂ tk₂ m₂ imm₂ own₂ ι₂ hx₂ X₂ hf
            cases hf with
            | next hl₂ => exact ⟨k, Nat.lt_succ_self _, h₂, tk₂, m₂, imm₂, own₂, ι₂, σ₂, _, rfl, hx''.trans (hx₁.trans hx₂), X₂, hl₂, PostS.lift (hx₁.trans hx₂) hP⟩
            | cont hl₂ => exact ⟨k, Nat.lt_succ_self _, h₂, tk₂, m₂, imm₂, own₂, ι₂, σ₂, _, rfl, hx''.trans (hx₁.trans hx₂), X₂, hl₂, PostS.lift (hx₁.trans hx₂) hP⟩
            | brk hl₂ => exact hP _ h₂ tk₂ m₂ imm₂ own₂ ι₂ (hx₁.trans hx₂) X₂ (.next hl₂)
            | ret hr₂ => exact hP _ h₂ tk₂ m₂ imm₂ own₂ ι₂ (hx₁.trans hx₂) X₂ (.ret hr₂)

end
end Mine
set_option maxRecDepth 100000
set_option linter.unusedVariables false
set_option linter.unusedSectionVars false
namespace Mine
open PySem PySem.W PyProof.Rows PySem.Calls

mutual
noncomputable def quietS (P : Prog) : MS → Bool
  | .expr e => quietE P e
  | .append o e => quietE P o && quietE P e
  | .assign _ e => quietE P e
  | .setattr o _ e => quietE P o && quietE P e
  | .ite e a b => quietE P e && (quietB P a && quietB P b)
  | .ret e => quietE P e
  | .retNone => true
  | .brk => true
  | .cont => true
  | .pass => true
  | .unpack _ _ => false
  | .setitem _ _ _ => false
  | .unpackSub _ _ _ _ => false
  | .unpackL _ _ => false
  | .forIn _ _ _ => false
  | .forRange _ _ _ => false
  | .forTup _ _ _ => false
  | .while _ _ _ => false
  | .raise _ _ _ => false
  | .try _ _ => false
  | .hand _ _ _ => false
noncomputable def quietB (P : Prog) : List MS → Bool
  | [] => true
  | s :: r => quietS P s && quietB P r
end
mutual
/-- the suites of all clauses are quiet -/
noncomputable def tameS (P : Prog) : MS → Bool
  | .expr _ => true
  | .append _ _ => true
  | .assign _ _ => true
  | .setattr _ _ _ => true
  | .ite _ a b => tameB P a && tameB P b
  | .ret _ => true
  | .retNone => true
  | .brk => true
  | .cont => true
  | .pass => true
  | .unpack _ _ => true
  | .setitem _ _ _ => false
  | .unpackL _ _ => false
  | .unpackSub _ _ _ _ => false
  | .forIn _ _ b => tameB P b
  | .forRange _ _ b => tameB P b
  | .forTup _ _ b => tameB P b
  | .while _ _ b => tameB P b
  | .raise _ _ _ => true
  | .try b hs => tameB P b && tameB P hs
  | .hand _ _ suite => quietB P suite && tameB P suite
noncomputable def tameB (P : Prog) : List MS → Bool
  | [] => true
  | s :: r => tameS P s && tameB P r
end
noncomputable def QS (x : Fx) (P : Prog) (st : MS) : Prop := x.quiet = true → quietS P st = true
noncomputable def QB (x : Fx) (P : Prog) (b : List MS) : Prop := x.quiet = true → quietB P b = true
/-- the frame as a def's own -/
noncomputable def Deep (x : Fx) : Prop := x.quiet = false → x.A = x.A₀.deeper x.env

section
variable {c : Cx} {x : Fx} {d : Nat} {Φ : Fns} {P : Prog}
theorem TopOk.at (TK : TopOk c P) {k : Nat} {y : Str} {C : Addr} (h : c.T.xs[k]? = some (y, C)) : c.B.xs[k]? = some C := by
  rw [TK.xs, List.getElem?_map, h]; rfl

theorem s_raise (F : Frm c x (d + 1)) (TK : TopOk c P) {y z : Str} {k : Nat} (hc : x.quiet = false) : SoundS c x Φ (.raise y k z) := by
  intro t hm fz s imm own ι σ ρ m Q E hE X hl h
  obtain ⟨u, p1, p2, p3, p4, p5, rfl, hk⟩ := ms_raise hm
  simp only [Bool.and_eq_true, beq_iff_eq, bne_iff_ne, ne_eq] at hk
  obtain ⟨⟨⟨rfl, hg⟩, hd⟩, hn⟩ := hk
  obtain ⟨C, hC⟩ := nmX_inv hn
  have EX := TK.exc k _ C hC
  simp only [xs_expr, xs_append, xs_assign, xs_unpack, xs_setattr, xs_setitem, xs_unpackSub, xs_unpackL, xs_ite, xs_forIn, xs_forRange, xs_forTup, xs_while, xs_ret, xs_retNone, xs_brk, xs_cont, xs_pass, xs_raise, xs_try, xs_hand] at h
  refine Raise_own X.fr (TopRead.g (topRead_of (F.top X.gd))) (own_of_in (F.kin X.gd) (topRead_of (F.top X.gd)) EX.ns EX.exc) PySem.F.excBase_ValueError (F.calm hc) ?_ rfl rfl F.kind (Fx.glob hg) (by simpa using hd)
  refine args_cons (Calls.Constant_str (args_nil ⟨by rw [sizeLine_eq]; simp, X.fr.keep, fun h' e hx => ?_⟩)) rfl
  exact h e _ ⟨m, imm, own, ι, s.heap, _, C, h', _, Ext.refl, TK.at hC, X, hx, rfl⟩
/-- the frame while an exception is in hand -/
noncomputable abbrev Fx.held (x : Fx) (e : Addr) : Fx := { x with A := x.A.mark (some (.ref e)), quiet := true }
theorem Frm.held (F : Frm c x d) (e : Addr) : Frm c (x.held e) d :=
  ⟨F.kinB, F.topB, F.atB, F.imp, F.frames, (fun q => Bool.noConfusion q), F.kind, F.loc, F.nd, F.depth, F.units, F.tree, F.gen, F.coro⟩

theorem LocRel.clr {B : Bas} {imm : Led} {ι : List Addr} {S : List Str} {ρ : Loc} {m : Str → Option Value} {i : Nat} {n : Str} {v : Option Value} (h : LocRel B imm ι S ρ m) (hn : S.Nodup) (hi : S[i]? = some n) : LocRel B imm ι S (ρ.set i Option.none) (fun y => if y = n then v else m y) := by
  intro j z w hz hw
  by_cases e : j = i
  · subst e
    rw [List.getElem?_set] at hw
    split at hw
    · split at hw <;> cases hw
    · exact absurd rfl ‹_›
  · have hne : z ≠ n := fun q => e (nodup_at hn (q ▸ hz) hi)
    rw [List.getElem?_set_ne (Ne.symm e)] at hw
    obtain ⟨y', h1, h2⟩ := h j z w hz hw
    exact ⟨y', by simp [hne, h1], h2⟩

theorem msh_hand {T : Tops} {G : Str → Bool} {S : List Str} {M : Nat → Option Str} {st : MS} {hs : List MS} {l : List ExceptHandler} (h : msh T G S M (st :: hs) l = true) : ∃ j as suite, st = .hand j as suite := by
  cases st <;> first | exact ⟨_, _, _, rfl⟩ | exact Bool.noConfusion (show false = true from h)
/-- the clauses -/
theorem h_all (F : Frm c x (d + 1)) (TK : TopOk c P) (hA : x.A = x.A₀.deeper x.env) {fz : Led} {imm imm' own' : Led} {ι ι' : List Addr} {k : Nat} {ρ : Loc} {σ : Store} {m : Str → Option Value} {Q : Flow → Shared → Prop} {E : Value → Shared → Prop} {s : Shared} {e t C : Addr} {g G' : Heap} {vs : List Value}
    (hC : c.B.xs[k]? = some C) (G : Gnd x g) (hx : Ext imm imm' ι ι') (nd : ((own' ++ (imm' ++ fz)).map (·.1)).Nodup) (ow : Own c.Z c.B imm' ι' ι' own' σ) (hl : LocRel c.B imm' ι' x.S ρ m) (F' : Fr g x.L G' m) (hs : List MS) :
    ∀ (l : List ExceptHandler), msh c.T x.G x.S c.M hs l = true → (∀ j as suite, .hand j as suite ∈ hs → SoundB c (x.held e) Φ suite) → ∀ (h₁ : Heap) (tk : Nat), RaisedS x.base G' (x.env :: x.outer) e (.ref C) t vs (own' ++ (imm' ++ fz)) h₁ → G'.UpToSlots h₁ →
      PostS c { x with fz := fz } imm ι (execH Φ hs k ρ σ) Q E s → wpAny (model c.prog c.w) x.A (handleBy (.ref e) x.env l) Q E { s with heap := h₁, toks := tk } := by
  induction hs with
  | nil =>
    intro l hm hS h₁ tk R U h
    simp only [xh_0, xh_9] at h
    exact h.elim
  | cons st hs ih =>
    intro l hm hS h₁ tk R U h
    obtain ⟨j, as, suite, rfl⟩ := msh_hand hm
    obtain ⟨y, p, n, b, pos, r, rfl, hg, hd, hn, has, hne, hb, hr⟩ := msh_c hm
    obtain ⟨D, hD⟩ := nmX_inv hn
    obtain ⟨y₁, hC₁⟩ : ∃ y₁, c.T.xs[k]? = some (y₁, C) := by
      rw [TK.xs, List.getElem?_map, Option.map_eq_some_iff] at hC
      obtain ⟨q, h1, h2⟩ := hC
      exact ⟨q.1, by rw [h1, ← h2]⟩
    have hsub := ((TK.exc k _ C hC₁).sub j _ D hD).1
    have tst : ∀ v, subX k j = v → KtsTest c.prog c.w c.K c.p c.loose c.mg c.mb x.qual x.scope x.L x.f x.cd (.ref C) (.Name y p) v := fun v e => test_name (.inl (TK.exc j _ D hD).ns) (e ▸ hsub) F.kind (Fx.glob hg) (by simpa using hd)
    simp only [xh_0, xh_9] at h
    cases hv : subX k j with
    | false =>
      rw [hv] at h
      simp only [Bool.false_eq_true, if_false] at h
      rw [hA]
      refine pass_S (s' := { s with heap := h₁, toks := tk }) R F' G.2.1 U F.kinB F.topB G.2.2 (tst false hv) fun h' R' U' => ?_
      have := ih r hr (fun j as suite hm => hS j as suite (.tail _ hm)) h' tk R' U' h
      rw [hA] at this
      exact this
    | true =>
      rw [hv] at h
      simp only [if_true] at h
      refine wpAny_noRaise ?_
      cases b with
      | nil =>
        cases suite with
        | nil => cases hne
        | cons st r => obtain ⟨_, _, e, _⟩ := mss_c hb; cases e
      | cons b₀ b =>
      have hSu := hS j as suite (.head _)
      have stay : ∀ {g' : Heap}, Below x.A₀ x.base x.outer g' → c.B.h.StaysIn g' := fun B => by rw [F.atB]; exact B.stays
      cases as with
      | none =>
        have hn : n = none := non_inv has
        subst hn
        rw [hA]
        refine hit_S0 (s' := { s with heap := h₁, toks := tk }) R F' G.2.1 U F.kinB F.topB G.2.2 G.1 (tst true hv) (fun h' g' news₂ T₁ F₁ N₁ got N₂ B₁ K₁ P₁ D₁ => ?_) PassesOwnAt.never
        have X₁ : St c.Z c.B (Gnd x) x.L fz h' m imm' own' ι' σ := ⟨g', ⟨T₁, B₁, D₁⟩, F₁, N₂, nd, ow, stay B₁⟩
        rw [← hA]
        refine hSu (b₀ :: b) hb fz _ imm' own' ι' σ ρ m _ _ PassesOwn.never X₁ hl ?_
        revert h
        simp only [putX]
        cases execB Φ suite ρ σ with
        | exn _ _ _ _ => exact fun h => h.elim
        | stuck => exact fun h => h
        | ok fl σ₁ =>
          intro h fy h₂ tk₂ m₂ imm₂ own₂ ι₂ hx₂ X₂ hf
          refine h fy h₂ tk₂ m₂ imm₂ own₂ ι₂ (hx.trans hx₂) X₂ ?_
          cases hf with
          | next q => exact .next q
          | brk q => exact .brk q
          | cont q => exact .cont q
          | ret q => exact .ret q
      | some i =>
        obtain ⟨nn, rfl, hi⟩ := any_inv has
        have hi : x.S[i]? = some nn := beq_iff_eq.mp hi
        have hlo := F.loc nn (List.mem_of_getElem? hi)
        rw [hA]
        refine hit_SB (s' := { s with heap := h₁, toks := tk }) R F' G.2.1 U F.kinB F.topB G.2.2 G.1 (tst true hv) (fun h' g' news₂ tk' T₁ F₁ N₁ got N₂ B₁ K₁ P₁ D₁ => ?_) F.kind hlo
        refine wpAny_noRaise ?_
        obtain ⟨oe, ot, ws, nt, g1, g2, g3, g4, g5, g6, g7⟩ := got
        have hnew : ∀ q ∈ own' ++ (imm' ++ fz), q.1 ≠ e := by
          intro q hq z
          obtain ⟨⟨B, b1, b2, b3, b4, b5⟩, _⟩ := R
          have := (b3 q hq).1
          rw [z, b4.2.1] at this
          cases this
        have hp : (own' ++ (((e, oe) :: imm') ++ fz)).Perm ((e, oe) :: (own' ++ (imm' ++ fz))) := List.perm_middle
        have X₁ : St c.Z c.B (Gnd x) x.L fz h' (fun y => if y = nn then some (.ref e) else m y) ((e, oe) :: imm') own' ι' σ := by
          refine ⟨g', ⟨T₁, B₁, D₁⟩, F₁, fun q hq => ?_, ?_, ow.mono (Ext.imm _), stay B₁⟩
          · rcases List.mem_cons.mp (hp.mem_iff.mp hq) with rfl | hq
            · exact N₁ _ g1
            · exact N₂ q hq
          · refine ((hp.map (·.1)).nodup_iff).mpr ?_
            rw [List.map_cons]
            refine List.nodup_cons.mpr ⟨fun hm => ?_, nd⟩
            obtain ⟨q, hq, z⟩ := List.mem_map.mp hm
            exact hnew q hq z
        have hl₁ : LocRel c.B ((e, oe) :: imm') ι' x.S (ρ.set i (some (.exc k))) (fun y => if y = nn then some (.ref e) else m y) := (hl.mono (Ext.imm _)).set F.nd hi (.exc (.head _) hC g3)
        rw [← hA]
        refine hSu (b₀ :: b) hb fz _ _ own' ι' σ (ρ.set i (some (.exc k))) _ _ _ PassesOwn.never X₁ hl₁ ?_
        revert h
        simp only [putX]
        cases execB Φ suite (ρ.set i (some (.exc k))) σ with
        | exn _ _ _ _ => exact fun h => h.elim
        | stuck => exact fun h => h
        | ok fl σ₁ =>
          intro h fy h₂ tk₂ m₂ imm₂ own₂ ι₂ hx₂ X₂ hf
          refine name_goes_keeps X₂.fr X₂.news (fun h₃ v F₃ N₃ => ?_) F.kind hlo
          refine h fy h₃ _ _ imm₂ own₂ ι₂ (hx.trans ((Ext.imm _).trans hx₂)) (X₂.setName F₃ N₃) ?_
          cases hf with
          | next q => exact .next (q.clr F.nd hi)
          | brk q => exact .brk (q.clr F.nd hi)
          | cont q => exact .cont (q.clr F.nd hi)
          | ret q => exact .ret q

theorem s_try (F : Frm c x (d + 1)) (TK : TopOk c P) (hc : x.quiet = false) (hA : x.A = x.A₀.deeper x.env) {body hs : List MS} (hb : SoundB c x Φ body) (hS : ∀ e j as suite, .hand j as suite ∈ hs → SoundB c (x.held e) Φ suite) : SoundS c x Φ (.try body hs) := by
  intro t hm fz s imm own ι σ ρ m Q E hE X hl h
  obtain ⟨b, l, p1, rfl, hk⟩ := ms_try hm
  simp only [Bool.and_eq_true] at hk
  obtain ⟨⟨hb1, hh⟩, hne⟩ := hk
  simp only [xs_expr, xs_append, xs_assign, xs_unpack, xs_setattr, xs_setitem, xs_unpackSub, xs_unpackL, xs_ite, xs_forIn, xs_forRange, xs_forTup, xs_while, xs_ret, xs_retNone, xs_brk, xs_cont, xs_pass, xs_raise, xs_try, xs_hand] at h
  cases l with
  | nil =>
    cases hs with
    | nil => cases hne
    | cons st r =>
      obtain ⟨j, as, suite, rfl⟩ := msh_hand hh
      obtain ⟨_, _, _, _, _, _, e, _⟩ := msh_c hh
      cases e
  | cons h₀ l =>
  refine wpAny_Try_except ?_
  refine hb b hb1 fz s imm own ι σ ρ m _ _ PassesOwn.looking X hl ?_
  revert h
  cases execB Φ body ρ σ with
  | stuck => exact fun h => h
  | ok fl σ₁ =>
    intro h fy h' tk m' imm' own' ι' hx X' hf
    have := h fy h' tk m' imm' own' ι' hx X' hf
    cases hf with
    | next q => exact wpAny_execs_nil this
    | brk q => exact this
    | cont q => exact this
    | ret q => exact this
  | exn b k ρ₁ σ₁ =>
    cases b with
    | true => exact fun h => h.elim
    | false =>
      intro h e s' T
      obtain ⟨m₁, imm₁, ι₁, h₁, tk₁, hx₁, hl₁, ⟨h₂, tk₂, rfl⟩, C, g, imm', own', ι', hC, G, hx₂, nd, ow, G', t, vs, F', R, U⟩ := T
      have key : ∀ h₃, RaisedS x.base G' (x.env :: x.outer) e (.ref C) t vs (own' ++ (imm' ++ fz)) h₃ → G'.UpToSlots h₃ → wpAny (model c.prog c.w) x.A (handleBy (.ref e) x.env (h₀ :: l)) Q E { s with heap := h₃, toks := tk₂ } := fun h₃ R₃ U₃ =>
        h_all F TK hA hC G (hx₁.trans hx₂) nd ow (hl₁.mono hx₂) F' hs (h₀ :: l) hh (hS e) h₃ tk₂ R₃ U₃ h
      rw [hA] at key ⊢
      exact kts_lookS (s' := { s with heap := h₂, toks := tk₂ }) R F' G.2.1 U G.2.2 fun h₃ R₃ U₃ => key h₃ R₃ U₃
/-- a clause's suite -/
noncomputable def SoundH (c : Cx) (x : Fx) (Φ : Fns) (st : MS) : Prop := ∀ j as suite, st = .hand j as suite → ∀ e, SoundB c (x.held e) Φ suite
theorem not_q {p : Prop} (h : x.quiet = true → false = true) : x.quiet = true → p := fun z => Bool.noConfusion (h z)
theorem qs1 {st : MS} {r : List MS} (h : QB x P (st :: r)) : QS x P st := q1 h
theorem qs2 {st : MS} {r : List MS} (h : QB x P (st :: r)) : QB x P r := q2 h

variable (TK : TopOk c P) (FO : FnsOK c P d Φ)
include TK FO
mutual
theorem allS : ∀ (st : MS) (x : Fx), Frm c x (d + 1) → QS x P st → tameS P st = true → Deep x → SoundS c x Φ st ∧ SoundH c x Φ st
  | .expr e, x, F, q, _, _ => ⟨s_expr F TK FO q, fun _ _ _ e => nomatch e⟩
  | .append o e, x, F, q, _, _ => ⟨s_append F TK FO (q1 q) (q2 q), fun _ _ _ e => nomatch e⟩
  | .assign i e, x, F, q, _, _ => ⟨s_assign F TK FO q, fun _ _ _ e => nomatch e⟩
  | .unpack is e, x, F, q, _, _ => ⟨s_unpack F TK FO (not_q q) (q0 q), fun _ _ _ e => nomatch e⟩
  | .setitem _ _ _, x, F, q, t, _ => Bool.noConfusion (show false = true from t)
  | .unpackL _ _, x, F, q, t, _ => Bool.noConfusion (show false = true from t)
  | .unpackSub _ _ _ _, x, F, q, t, _ => Bool.noConfusion (show false = true from t)
  | .setattr o k e, x, F, q, _, _ => ⟨s_setattr F TK FO (q1 q) (q2 q), fun _ _ _ e => nomatch e⟩
  | .ite e a b, x, F, q, t, dp => ⟨s_ite F TK FO (q1 q) (allB a x F (q1 (q2 q)) (and_inv t).1 dp).1 (allB b x F (q2 (q2 q)) (and_inv t).2 dp).1, fun _ _ _ e => nomatch e⟩
  | .forIn i it body, x, F, q, t, dp => ⟨s_forIn F TK FO (not_q q) (q0 q) (allB body x F (not_q q) t dp).1, fun _ _ _ e => nomatch e⟩
  | .forTup i it body, x, F, q, t, dp => ⟨s_forTup F TK FO (not_q q) (q0 q) (allB body x F (not_q q) t dp).1, fun _ _ _ e => nomatch e⟩
  | .forRange i args body, x, F, q, t, dp => ⟨s_forRange F TK FO (not_q q) (q0 q) (allB body x F (not_q q) t dp).1, fun _ _ _ e => nomatch e⟩
  | .while fuel e body, x, F, q, t, dp => ⟨s_while F TK FO (not_q q) (allB body x F (not_q q) t dp).1, fun _ _ _ e => nomatch e⟩
  | .ret e, x, F, q, _, _ => ⟨s_ret F TK FO q, fun _ _ _ e => nomatch e⟩
  | .retNone, x, F, q, _, _ => ⟨s_retNone, fun _ _ _ e => nomatch e⟩
  | .brk, x, F, q, _, _ => ⟨s_brk, fun _ _ _ e => nomatch e⟩
  | .cont, x, F, q, _, _ => ⟨s_cont, fun _ _ _ e => nomatch e⟩
  | .pass, x, F, q, _, _ => ⟨s_pass, fun _ _ _ e => nomatch e⟩
  | .raise y k z, x, F, q, _, _ => ⟨s_raise F TK (q0 q), fun _ _ _ e => nomatch e⟩
  | .try body hs, x, F, q, t, dp => ⟨s_try F TK (q0 q) (dp (q0 q)) (allB body x F (not_q q) (and_inv t).1 dp).1 fun e j as suite hm => (allB hs x F (not_q q) (and_inv t).2 dp).2 _ hm j as suite rfl e, fun _ _ _ e => nomatch e⟩
  | .hand j as suite, x, F, q, t, dp => ⟨fun _ hm => Bool.noConfusion (show false = true from hm), fun _ _ _ z e => by
      cases z
      exact (allB suite (x.held e) (F.held e) (fun _ => (and_inv t).1) (and_inv t).2 (fun z => Bool.noConfusion z)).1⟩
theorem allB : ∀ (b : List MS) (x : Fx), Frm c x (d + 1) → QB x P b → tameB P b = true → Deep x → SoundB c x Φ b ∧ ∀ st ∈ b, SoundH c x Φ st
  | [], x, F, q, t, dp => ⟨b_nil, fun _ h => nomatch h⟩
  | st :: r, x, F, q, t, dp =>
    have a := allS st x F (qs1 q) (and_inv t).1 dp
    have b := allB r x F (qs2 q) (and_inv t).2 dp
    ⟨b_cons a.1 b.1, fun s h => (List.mem_cons.mp h).elim (fun e => e ▸ a.2) (b.2 s)⟩
end
end
end Mine
set_option maxRecDepth 100000
set_option linter.unusedVariables false
set_option linter.unusedSectionVars false
namespace Mine
open PySem PySem.W PyProof.Rows PySem.Calls

/-- what the written part says of a def -/
inductive FnAt (c : Cx) (P : Prog) (D : Fn) : Prop
  | mk (tame : tameB P D.body = true) (quiet : D.quiet = true → quietB P D.body = true) (oc : Value) (od : Option Addr) (name qual : Str) (params : Arguments) (body : List Stmt) (scope : Scope) (dV kV doc pm : Value) (an : Option Addr) (cdv ct : Value) (osl : Array (Option Value))
    (hK : c.K.lookup D.addr = some ⟨oc, od, .func (fnOf name qual params body scope dV kV doc pm an cdv ct), osl⟩) (hcd : codeIn c.K cdv qual = true)
    (hb : ∀ (s : Shared) (ys : List Value), ys.length = D.nargs → BindsTo s (fnOf name qual params body scope dV kV doc pm an cdv ct) ⟨ys, []⟩ ((D.slots.take D.nargs).zip ys))
    (h7 : ∀ y ∈ D.slots, scope.names.lookup y = some .local) (h8 : D.slots.Nodup) (h9 : D.nargs ≤ D.slots.length) (h10 : scope.isCoroutine = false) (h11 : scope.isGenerator = false) (h12 : scope.kind = .function) (h13 : ∀ q ∈ scope.names, q.2 ≠ .cell)
    (h14 : mss c.T (fun y => scope.names.lookup y == some .globalImplicit) D.slots c.M D.body body = true) : FnAt c P D

theorem zip_sub : ∀ (xs : List Str) (ys : List Value), ((xs.zip ys).map (·.1)).Sublist xs
  | [], _ => by simp
  | _ :: _, [] => by simp
  | x :: xs, y :: ys => by simpa using zip_sub xs ys
theorem zip_lookup : ∀ {xs : List Str} {ys : List Value} {i : Nat} {x : Str} {y : Value}, xs.Nodup → xs[i]? = some x → ys[i]? = some y → (xs.zip ys).reverse.lookup x = some y := by
  have key : ∀ (l : List (Str × Value)) (x : Str) (y : Value), (l.map (·.1)).Nodup → (x, y) ∈ l → l.lookup x = some y := by
    intro l
    induction l with
    | nil => intro x y _ h; cases h
    | cons p r ih =>
      intro x y hn hm
      obtain ⟨a, b⟩ := p
      simp only [List.map_cons, List.nodup_cons] at hn
      rw [List.lookup_cons]
      rcases List.mem_cons.mp hm with e | hm
      · cases e; simp
      · have hne : (x == a) = false := by
          rw [beq_eq_false_iff_ne]
          rintro rfl
          exact hn.1 (List.mem_map.mpr ⟨_, ‹_ ∈ r›, rfl⟩)
        rw [hne]
        exact ih x y hn.2 hm
  intro xs ys i x y hn hx hy
  refine key _ x y ?_ ?_
  · rw [List.map_reverse, (List.reverse_perm _).nodup_iff]
    exact (zip_sub xs ys).nodup hn
  · rw [List.mem_reverse]
    refine List.mem_of_getElem? (i := i) ?_
    rw [List.getElem?_zip_eq_some]
    exact ⟨hx, hy⟩

/-- what a def throws, in the frame that called it -/
theorem thrown_up {c : Cx} {x : Fx} {d : Nat} {P : Prog} (F : Frm c x d) {m : Str → Option Value} {imm own imm' own' : Led} {ι ι' : List Addr} {σ σ₁ : Store} {s : Shared} {k : Nat} {e t C : Addr} {vs : List Value} {g g₂ h' : Heap} {tk : Nat} (X : St c.Z c.B (Gnd x) x.L x.fz s.heap m imm own ι σ)
    (FG : Fr X.g x.L g m) (T : KtsTurn ((x.env :: x.outer).filterMap (·.frame)) g g₂) (hC : c.B.xs[k]? = some C) (hx : Ext imm imm' ι ι') (nd : ((own' ++ (imm' ++ x.fz)).map (·.1)).Nodup) (ow : Own c.Z c.B imm' ι' ι' own' σ₁)
    (R : RaisedS x.base g₂ (x.env :: x.outer) e (.ref C) t vs (own' ++ (imm' ++ x.fz)) h') (U : g₂.UpToSlots h') : Thrown c x m imm ι k σ₁ s { s with heap := h', toks := tk } e := by
  obtain ⟨g₃, T₃, F₃, B₃⟩ := kts_ground (name := x.qual) (scope := x.scope) (a := x.f) (cd := x.cd) (B := g₂) (h₅ := g₂) X.gd.2.1 FG (fun b o q nm => T.other b o q nm) (fun _ _ q => q) (fun b o q _ => T.up q)
  exact ⟨⟨h', tk, rfl⟩, C, g₃, imm', own', ι', hC, ⟨X.gd.1.trans T₃, B₃, X.gd.2.2.turn T₃⟩, hx, nd, ow, g₂, t, vs, F₃, R, U⟩

theorem fn_ok {c : Cx} {P : Prog} {d : Nat} {Φ : Fns} {D : Fn} (TK : TopOk c P) (FO : FnsOK c P d Φ) (A1 : FnAt c P D) : FnOK c (d + 2) D (callFn Φ D) := by
  intro x m s imm own ι σ vs ys Q F hq X hr h
  obtain ⟨htame, hquiet, oc, od, name, qual, params, body, scope, dV, kV, doc, pm, an, cdv, ct, osl, hK, hcd, hbind, hloc, hnd, hna, hco, hgen, hkind, hcell, hbody⟩ := A1
  have hdep := F.depth
  have hun := F.units
  unfold callFn at h
  split at h
  · rename_i hvl
    have hyl : ys.length = D.nargs := by rw [hr.length, hvl]
    refine code_defS X.gd.2.1 X.fr (F.kin X.gd) X.news (F.top X.gd) F.kinB F.topB X.gd.2.2 X.gd.1 F.frames hK hcd (by omega) (hbind s ys hyl) (fun q hq => ?_) (fun g L' h₁ FG F' N' B' X' T' D' => ?_) F.kind hco hgen hkind hcell
    · exact hloc _ (List.mem_of_mem_take (List.of_mem_zip hq).1)
    · let x' : Fx := { qual := qual, scope := scope, S := D.slots, L := L', f := D.addr, cd := cdv, h₀ := g, base := x.base, outer := x.env :: x.outer, A := x.A.deeper (envOf qual scope L' D.addr cdv), A₀ := x.A, fz := x.fz, quiet := x.quiet }
      have FR : Frm c x' (d + 1) := by
        refine ⟨F.kinB, F.topB, F.atB, F.imp, ?_, F.calm, hkind, hloc, hnd, ?_, ?_, F.tree, hgen, hco⟩
        · show x.A.frames.map _ = _
          rw [F.frames]; rfl
        · show x.A.depth + 1 + (d + 1) + 120 < recursionLimit
          omega
        · show x.A.units + 3 + 8 * (d + 1) + 200 < cLine
          omega
      have X₁ : St c.Z c.B (Gnd x') L' x.fz h₁ (fun y => ((D.slots.take D.nargs).zip ys).reverse.lookup y) imm own ι σ := ⟨g, ⟨KtsTurn.refl, B', D'⟩, F', N', X.nd, X.owned, fun b o e => FG.keep b o (X.base b o e)⟩
      have HL : LocRel c.B imm ι D.slots (vs.map some ++ List.replicate (D.slots.length - D.nargs) Option.none) (fun y => ((D.slots.take D.nargs).zip ys).reverse.lookup y) := by
        intro i z v hz hv
        have hi : i < vs.length := by
          rcases Nat.lt_or_ge i vs.length with q | q
          · exact q
          · rw [List.getElem?_append_right (by simpa using q)] at hv
            rw [List.getElem?_replicate] at hv
            split at hv <;> simp at hv
        rw [List.getElem?_append_left (by simpa using hi)] at hv
        simp only [List.getElem?_map, Option.map_eq_some_iff] at hv
        obtain ⟨v', hv', e⟩ := hv
        cases e
        obtain ⟨y, hy, ry⟩ := hr.get hv'
        refine ⟨y, zip_lookup (hnd.sublist (List.take_sublist _ _)) ?_ hy, ry⟩
        rw [List.getElem?_take_of_lt (by omega)]
        exact hz
      have stay : ∀ {g' : Heap}, Below x.A₀ x.base x.outer g' → c.B.h.StaysIn g' := fun B => by rw [F.atB]; exact B.stays
      refine (allB TK FO D.body x' FR (fun q => hquiet (hq q)) htame (fun _ => rfl)).1 body hbody x.fz { s with heap := h₁, toks := s.toks + ((D.slots.take D.nargs).zip ys).length } imm own ι σ _ _ _ _ PassesOwn.leaving X₁ HL ?_
      revert h
      cases execB Φ D.body (vs.map some ++ List.replicate (D.slots.length - D.nargs) Option.none) σ with
      | stuck => exact fun h => h
      | exn b k ρ₁ σ₁ =>
        intro h e s' T
        cases b with
        | false =>
          obtain ⟨m₁, imm₁, ι₁, h₁', tk₁, hx₁, hl₁, ⟨h₂, tk₂, rfl⟩, C, g₂, imm', own', ι', hC, G₂, hx₂, nd, ow, G', t, us, F₂, R, U⟩ := T
          exact leave_onS G₂.2.1 F₂ R U fun h₃ R₃ _ U₃ => h e _ (thrown_up (P := P) F X FG G₂.1 hC (hx₁.trans hx₂) nd ow R₃ U₃)
        | true =>
          obtain ⟨m₁, imm', own', ι', h₁', us, C, h₂, tk₂, hx₁, hC, X₂, hmade, rfl⟩ := T
          exact leave_raiseS X₂.gd.2.1 hmade X₂.fr X₂.news (fun h₃ t R₃ _ U₃ => h e _ (thrown_up (P := P) F X FG X₂.gd.1 hC hx₁ X₂.nd X₂.owned R₃ U₃)) hkind
      | ok fl σ₁ =>
        intro h fy h₂ tk₂ m₂ imm₂ own₂ ι₂ hx₂ X₂ hf₂
        cases hf₂ with
        | next hl₂ =>
          refine leaveS_r X₂.fr X₂.news X₂.gd.1 fun h₀' T₃ F₃ N₃ B₃ K₃ P₃ D₃ => ?_
          exact h _ h₂ tk₂ imm₂ own₂ ι₂ hx₂ ⟨h₀', ⟨T₃, B₃, D₃⟩, F₃, N₃, X₂.nd, X₂.owned, stay B₃⟩ .none
        | brk hl₂ => exact h.elim
        | cont hl₂ => exact h.elim
        | ret hr₂ =>
          refine leaveS_r X₂.fr X₂.news X₂.gd.1 fun h₀' T₃ F₃ N₃ B₃ K₃ P₃ D₃ => ?_
          exact h _ h₂ tk₂ imm₂ own₂ ι₂ hx₂ ⟨h₀', ⟨T₃, B₃, D₃⟩, F₃, N₃, X₂.nd, X₂.owned, stay B₃⟩ hr₂
  · exact h.elim
end Mine
set_option maxRecDepth 100000
set_option linter.unusedVariables false
set_option linter.unusedSectionVars false
namespace Mine
open PySem PySem.W PyProof.Rows PySem.Calls

/-- what the written part says of the classes -/
structure ClsOK (c : Cx) (P : Prog) : Prop where
  classes : c.Z.classes = P.classes
  make : ∀ (k : Nat) (C : Addr) (f : Nat), P.classes[k]? = some (C, f) → ∃ D, P.fns.lookup f = some D ∧ makesIn c.K C = true ∧ findIn c.K (.ref C) "__init__" = some (some (.ref D.addr)) ∧ isFn c.K (.ref D.addr) = true
  meth : ∀ k f, (k, f) ∈ P.meths → ∃ C g D x, P.classes[k]? = some (C, g) ∧ P.fns.lookup f = some D ∧ c.M f = some x ∧ x ∉ c.Z.attrs ∧ plainGet c.K C x = true ∧ findIn c.K (.ref C) x = some (some (.ref D.addr)) ∧ isFn c.K (.ref D.addr) = true ∧ keepIn c.K (.ref D.addr) = true
  attr : ∀ k j, (k, j) ∈ P.attrs → ∃ C g x a, P.classes[k]? = some (C, g) ∧ c.Z.attrs[j]? = some x ∧ plainGet c.K C x = true ∧ hasDictIn c.K C = true ∧ findIn c.K (.ref C) x = some a ∧ noGet c.K a = true ∧
    findIn c.K (.ref C) "__setattr__" = some (some (.builtin "object.__setattr__")) ∧ plainOver c.K C = true ∧ takerIn c.K C x = some none

theorem FnOK.mono {c : Cx} {d d' : Nat} {D : Fn} {φ : List V → Store → R V} (h : FnOK c d D φ) (hd : d ≤ d') : FnOK c d' D φ :=
  fun x m s imm own ι σ vs ys Q F hq X hr hp => h x m s imm own ι σ vs ys Q (F.less hd) hq X hr hp

theorem fns_ok {c : Cx} {P : Prog} (TK : TopOk c P) (CL : ClsOK c P) (hat : ∀ f D, P.fns.lookup f = some D → FnAt c P D) : ∀ n, FnsOK c P (2 * n) (pre P n) := by
  intro n
  have rest : ∀ Ψ, (∀ f vs σ, Ψ f vs σ ≠ R.stuck → ∃ D, P.fns.lookup f = some D ∧ FnOK c (2 * n) D (Ψ f)) → FnsOK c P (2 * n) (mkFns P Ψ) := by
    intro Ψ hΨ
    refine ⟨hΨ, fun k f hi => ?_, fun k C f h => CL.make k C f (CL.classes ▸ h), fun k f hm => ?_, fun k j hm => ?_⟩
    · simp only [mkFns, Option.map_eq_some_iff] at hi
      obtain ⟨⟨C, g⟩, h1, rfl⟩ := hi
      exact ⟨C, by rw [CL.classes]; exact h1⟩
    · have := CL.meth k f (by simpa [mkFns] using hm)
      rw [← CL.classes] at this
      exact this
    · have := CL.attr k j (by simpa [mkFns] using hm)
      rw [← CL.classes] at this
      exact this
  refine rest _ ?_
  induction n with
  | zero => intro f vs σ h; exact absurd rfl h
  | succ n ih =>
    have FO : FnsOK c P (2 * n) (pre P n) := by
      refine ⟨ih ?_, fun k f hi => ?_, fun k C f h => CL.make k C f (CL.classes ▸ h), fun k f hm => ?_, fun k j hm => ?_⟩
      · intro Ψ hΨ
        refine ⟨hΨ, fun k f hi => ?_, fun k C f h => CL.make k C f (CL.classes ▸ h), fun k f hm => ?_, fun k j hm => ?_⟩
        · simp only [mkFns, Option.map_eq_some_iff] at hi
          obtain ⟨⟨C, g⟩, h1, rfl⟩ := hi
          exact ⟨C, by rw [CL.classes]; exact h1⟩
        · have := CL.meth k f (by simpa [mkFns] using hm)
          rw [← CL.classes] at this
          exact this
        · have := CL.attr k j (by simpa [mkFns] using hm)
          rw [← CL.classes] at this
          exact this
      · simp only [pre, mkFns, Option.map_eq_some_iff] at hi
        obtain ⟨⟨C, g⟩, h1, rfl⟩ := hi
        exact ⟨C, by rw [CL.classes]; exact h1⟩
      · have := CL.meth k f (by simpa [pre, mkFns] using hm)
        rw [← CL.classes] at this
        exact this
      · have := CL.attr k j (by simpa [pre, mkFns] using hm)
        rw [← CL.classes] at this
        exact this
    intro f vs σ h
    by_cases hlt : f < n
    · have e : upTo P (n + 1) f = upTo P n f := by
        funext vs σ
        rw [upTo, if_pos hlt]
      rw [e] at h ⊢
      obtain ⟨D, hD, hf⟩ := FO.fn f vs σ h
      exact ⟨D, hD, hf.mono (by omega)⟩
    · by_cases he : f = n
      · subst he
        cases hl : P.fns.lookup f with
        | none => exact absurd (by rw [upTo, if_neg hlt, if_pos rfl, hl]) h
        | some D =>
          have e : upTo P (f + 1) f = callFn (pre P f) D := by
            funext vs σ
            rw [upTo, if_neg hlt, if_pos rfl, hl]; rfl
          rw [e]
          exact ⟨D, rfl, (fn_ok TK FO (hat f D hl)).mono (by omega)⟩
      · exact absurd (by rw [upTo, if_neg hlt, if_neg he]) h

/-- the law's own frame -/
theorem run_law {c : Cx} {P : Prog} {n : Nat} (TK : TopOk c P) (CL : ClsOK c P) (hat : ∀ f D, P.fns.lookup f = some D → FnAt c P D) {s₁ : Shared} {h₁ : Heap} {tk : Nat} {qual : Str} {scope : Scope} {a : Addr} {cd : Value} {body : List Stmt} {l : Addr} {vs : List Value} {ns : List Int} {m₀ : Str → Option Value}
    {S : List Str} {z : Str} {b : List MS} {σ' : Store} {Q : Flow → Shared → Prop} {E : Value → Shared → Prop} (hB : c.B.h = s₁.heap) (T : Top c.p c.loose c.mean c.mg c.mb s₁.heap) (KX : c.K.In s₁.heap) (K0 : Below callerA s₁.heap [] s₁.heap) (F : Fr s₁.heap s₁.heap.objs.size h₁ m₀)
    (hm : m₀ z = some (.ref l)) (hL : s₁.heap.IsList l vs.toArray) (hI : IntsAre vs ns) (hz : S[0]? = some z) (hkind : scope.kind = .function) (hloc : ∀ y ∈ S, scope.names.lookup y = some .local) (hnd : S.Nodup) (hgen : scope.isGenerator = false) (hco : scope.isCoroutine = false)
    (htree : c.prog.given.tree = none) (himp : importsNone c.p = true) (htame : tameB P b = true) (hbody : mss c.T (fun y => scope.names.lookup y == some .globalImplicit) S c.M b body = true) (hn : 2 * n + 1 < 200)
    (res : execB (pre P n) b (some (.lst (ns.map .int)) :: List.replicate (S.length - 1) Option.none) [] = .ok (.ret (.bool true)) σ')
    (hQ : ∀ h' tk m', Fr s₁.heap s₁.heap.objs.size h' m' → Q (.ret (.bool true)) { s₁ with heap := h', toks := tk }) :
    wpAny (model c.prog c.w) (callerA.deeper (envOf qual scope s₁.heap.objs.size a cd)) (execs body (envOf qual scope s₁.heap.objs.size a cd)) Q E { s₁ with heap := h₁, toks := tk } := by
  let x : Fx := { qual := qual, scope := scope, S := S, L := s₁.heap.objs.size, f := a, cd := cd, h₀ := s₁.heap, base := s₁.heap, outer := [], A := callerA.deeper (envOf qual scope s₁.heap.objs.size a cd), A₀ := callerA, fz := [] }
  have FR : Frm c x (2 * n + 1) := by
    refine ⟨KX, T, hB, himp, rfl, fun _ => rfl, hkind, hloc, hnd, ?_, ?_, htree, hgen, hco⟩
    · show callerA.depth + 1 + (2 * n + 1) + 120 < recursionLimit
      have : callerA.depth = 301 := rfl
      rw [this]
      simp only [recursionLimit]
      omega
    · show callerA.units + 3 + 8 * (2 * n + 1) + 200 < cLine
      have : callerA.units ≤ 100 := by decide
      simp only [cLine]
      omega
  have X₁ : St c.Z c.B (Gnd x) s₁.heap.objs.size [] h₁ m₀ [] [] [] [] := ⟨s₁.heap, ⟨KtsTurn.refl, K0, ktsDicts_nil⟩, F, News.nil, by simp, .nil, by rw [hB]; exact fun _ _ e => e⟩
  refine wpAny_noRaise ?_
  refine (allB TK (fns_ok TK CL hat n) b x FR (fun q => Bool.noConfusion q) htame (fun _ => rfl)).1 body hbody [] _ [] [] [] [] (some (.lst (ns.map .int)) :: List.replicate (S.length - 1) Option.none) m₀ Q _ PassesOwn.never X₁ ?_ ?_
  · intro i y v hy hv
    cases i with
    | zero =>
      simp at hv
      subst hv
      have : S[0]? = some y := hy
      rw [hz] at this; cases this
      exact ⟨_, hm, .base (by rw [hB]; exact hL) (are_ints hI)⟩
    | succ i =>
      simp only [List.getElem?_cons_succ, List.getElem?_replicate] at hv
      split at hv <;> simp at hv
  · rw [res]
    intro fy h' tk' m' imm' own' ι' hx X' hf
    cases hf with
    | ret hr =>
      obtain rfl := inv_bool hr
      have T' := X'.gd.1
      exact hQ h' tk' m' ⟨X'.fr.ns, fun b o e => X'.fr.keep b o (T'.other b o e fun q => nomatch q), Nat.le_refl _⟩
end Mine
set_option maxRecDepth 100000
set_option linter.unusedVariables false
namespace Mine
open PySem PySem.W PyProof.Rows PySem.Calls

noncomputable def fragOf (as : List Addr) (h : Heap) : Frag := as.filterMap fun a => (h.get? a).map fun o => (a, o)
theorem look_mem {α β : Type} [BEq α] [LawfulBEq α] : ∀ {l : List (α × β)} {a : α} {b : β}, l.lookup a = some b → (a, b) ∈ l
  | [], _, _, h => by cases h
  | (x, y) :: l, a, b, h => by
    rw [List.lookup_cons] at h
    split at h
    · rename_i e
      cases h
      rw [beq_iff_eq.mp e]
      exact .head _
    · exact .tail _ (look_mem h)
theorem fragOf_in {as : List Addr} {h : Heap} : (fragOf as h).In h := by
  intro a o e
  obtain ⟨b, _, hb⟩ := List.mem_filterMap.mp (look_mem e)
  obtain ⟨o', h1, h2⟩ := Option.map_eq_some_iff.mp hb
  cases h2
  exact h1

/-- plain parameters -/
noncomputable def plainArgs (p : Arguments) (xs : List Str) : Bool := p.posonlyargs.isEmpty && p.kwonlyargs.isEmpty && p.vararg.isNone && p.kwarg.isNone && decide (p.args.map (·.arg) = xs)
theorem zip_find : ∀ {xs : List Str} {ys : List Value}, xs.Nodup → ys.length = xs.length → ∀ x ∈ xs, ∃ y, (xs.zip ys).lookup x = some y
  | [], _, _, _, _, h => by cases h
  | a :: xs, [], _, e, _, _ => by simp at e
  | a :: xs, b :: ys, n, e, x, h => by
    rw [List.zip_cons_cons, List.lookup_cons]
    by_cases q : x = a
    · subst q; exact ⟨b, by simp⟩
    · have : (x == a) = false := beq_eq_false_iff_ne.mpr q
      rw [this]
      exact zip_find (List.nodup_cons.mp n).2 (by simpa using e) x ((List.mem_cons.mp h).resolve_left q)
theorem fm_congr {α β : Type} {f g : α → Option β} : ∀ {l : List α}, (∀ x ∈ l, f x = g x) → l.filterMap f = l.filterMap g
  | [], _ => rfl
  | a :: l, h => by rw [List.filterMap_cons, List.filterMap_cons, h a (.head _), fm_congr fun x hx => h x (.tail _ hx)]
theorem zip_all : ∀ {xs : List Str} {ys : List Value}, xs.Nodup → ys.length = xs.length → xs.filterMap (fun n => ((xs.zip ys).lookup n).map (n, ·)) = xs.zip ys
  | [], _, _, _ => rfl
  | a :: xs, [], _, e => by simp at e
  | a :: xs, b :: ys, n, e => by
    obtain ⟨na, n'⟩ := List.nodup_cons.mp n
    have ih := zip_all n' (by simpa using e : ys.length = xs.length)
    rw [List.filterMap_cons, List.zip_cons_cons]
    have e1 : ((a, b) :: xs.zip ys).lookup a = some b := by simp
    rw [e1]
    simp only [Option.map_some]
    congr 1
    refine Eq.trans (fm_congr fun x hx => ?_) ih
    have : (x == a) = false := beq_eq_false_iff_ne.mpr fun q => na (q ▸ hx)
    rw [List.lookup_cons, this]
theorem pure_to {α β : Type} (a : α) (f : α → Sem β) : (pure a >>= f : Sem β) = f a := rfl
theorem stand_none : notAStandIn Value.none = pure () := rfl
theorem binds_plain {s : Shared} {name qual : Str} {params : Arguments} {body : List Stmt} {scope : Scope} {kV doc pm : Value} {an : Option Addr} {cdv ct : Value} {xs : List Str} {ys : List Value} (hp : plainArgs params xs = true) (hn : xs.Nodup) (hl : ys.length = xs.length) :
    BindsTo s (fnOf name qual params body scope .none kV doc pm an cdv ct) ⟨ys, []⟩ (xs.zip ys) := by
  refine BindsTo.of_eq ?_
  obtain ⟨po, ar, va, ko, kd, kw, df⟩ := params
  simp only [plainArgs, Bool.and_eq_true, List.isEmpty_iff, Option.isNone_iff_eq_none, decide_eq_true_eq] at hp
  obtain ⟨⟨⟨⟨rfl, rfl⟩, rfl⟩, rfl⟩, hx⟩ := hp
  have m0 : xs.filter (fun n => ((xs.zip ys).lookup n).isNone) = [] := by
    rw [List.filter_eq_nil_iff]
    intro x h
    obtain ⟨y, e⟩ := zip_find hn hl x h
    simp [e]
  have z := zip_all hn hl
  unfold bindArgs
  simp only [List.map_nil, List.nil_append, hx, List.append_nil, hl, seqItems?, Nat.lt_irrefl, gt_iff_lt, decide_false, Bool.false_and, Bool.false_eq_true, if_false, List.forIn_nil, pure_to, stand_none, Option.getD, List.drop_nil, List.length_nil, Nat.sub_zero, List.take_length, m0, List.isEmpty_nil, Bool.not_true, z, List.zip_nil_right]

noncomputable def chkFn (T : Tops) (M : Nat → Option Str) (K : Frag) (D : Fn) : Bool := match K.lookup D.addr with
  | some o => (match o.data with
    | .func fd => (match fd.body with
      | .stmts body => fd.globals == mainGlobals && (fd.closure.isEmpty && (fd.builtins == builtinsNs && (codeIn K fd.code fd.qualname && (plainArgs fd.params (D.slots.take D.nargs) && (decide (fd.defaults = .none) &&
          (D.slots.all (fun y => decide (fd.scope.names.lookup y = some .local)) && (decide D.slots.Nodup && (decide (D.nargs ≤ D.slots.length) && (!fd.scope.isCoroutine && (!fd.scope.isGenerator && (decide (fd.scope.kind = .function) &&
          (fd.scope.names.all (fun q => decide (q.2 ≠ .cell)) && mss T (fun y => fd.scope.names.lookup y == some .globalImplicit) D.slots M D.body body))))))))))))
      | _ => false)
    | _ => false)
  | none => false
theorem fnAt_of {c : Cx} {P : Prog} {D : Fn} (h0 : (tameB P D.body && (!D.quiet || quietB P D.body)) = true) (h : chkFn c.T c.M c.K D = true) : FnAt c P D := by
  obtain ⟨t1, t2⟩ := and_inv h0
  have t3 : D.quiet = true → quietB P D.body = true := fun q => by rw [q] at t2; exact t2
  clear h0 t2
  unfold chkFn at h
  cases hk : c.K.lookup D.addr with
  | none => rw [hk] at h; cases h
  | some o =>
    rw [hk] at h
    obtain ⟨oc, od, dt, osl⟩ := o
    cases dt with
    | func fd =>
      obtain ⟨name, qual, params, bd, scope, g, cl, dV, kV, doc, pm, an, cdv, ct, bi⟩ := fd
      cases bd with
      | stmts body =>
        simp only [Bool.and_eq_true, decide_eq_true_eq, beq_iff_eq, List.isEmpty_iff, Bool.not_eq_true', List.all_eq_true] at h
        obtain ⟨rfl, rfl, rfl, h4, h5, rfl, h7, h8, h9, h10, h11, h12, h13, h14⟩ := h
        refine .mk t1 t3 oc od name qual params body scope .none kV doc pm an cdv ct osl hk h4 (fun s ys e => ?_) h7 h8 h9 h10 h11 h12 h13 h14
        exact binds_plain h5 (h8.sublist (List.take_sublist _ _)) (by rw [e, List.length_take, Nat.min_eq_left h9])
      | _ => cases h
    | _ => cases h

noncomputable def chkX (T : Tops) (K : Frag) (k : Nat) (y : Str) (C : Addr) : Bool :=
  decide (nsIn K mainGlobals y = some (some (.ref C))) && (excIn K C [.type "ValueError", .type "Exception", .type "BaseException", .type "object"] "ValueError.__new__" &&
  (T.xs.zipIdx.all (fun r => decide (exmOne K (.ref C) (.ref r.1.2) = some (subX k r.2)) && decide (kitOne K (.ref C) (.ref r.1.2) = some (subX k r.2))) &&
  (decide (kitOne K (.ref C) (.type "ValueError") = some true) && ((clsIn K C).isSome && (xget K C && (decide (findIn K (.ref C) "__class__" = some (some (.builtin "object.__class__"))) &&
  (decide (specialIn K (.builtin "object.__class__") "__get__" = some (some (.builtin "getset_descriptor.__get__"))) && (decide (takesIn K (.builtin "object.__class__") = some true) && decide (mroIn K C (.type "object") = some true)))))))))
theorem zip_at {α : Type} {l : List α} {k : Nat} {a : α} (h : l[k]? = some a) : (a, k) ∈ l.zipIdx := by
  rw [List.mem_zipIdx_iff_getElem?]; exact h
theorem excAt_of {c : Cx} {k : Nat} {y : Str} {C : Addr} (h : chkX c.T c.K k y C = true) : ExcAt c k y C := by
  obtain ⟨h1, h⟩ := and_inv h
  obtain ⟨h2, h⟩ := and_inv h
  obtain ⟨h3, h⟩ := and_inv h
  obtain ⟨h4, h⟩ := and_inv h
  obtain ⟨h5, h⟩ := and_inv h
  obtain ⟨h6, h⟩ := and_inv h
  obtain ⟨h7, h⟩ := and_inv h
  obtain ⟨h8, h⟩ := and_inv h
  obtain ⟨h9, h⟩ := and_inv h
  exact ⟨of_decide_eq_true h1, h2, fun j z D e => have q := and_inv (List.all_eq_true.mp h3 ((z, D), j) (zip_at e)); ⟨of_decide_eq_true q.1, of_decide_eq_true q.2⟩, of_decide_eq_true h4, h5, h6, of_decide_eq_true h7, of_decide_eq_true h8, of_decide_eq_true h9, of_decide_eq_true h⟩
noncomputable def chkTop (P : Prog) (T : Tops) (cl : List (Addr × Nat)) (K : Frag) : Bool :=
  T.fns.all (fun q => match P.fns.lookup q.2 with | some d => decide (nsIn K mainGlobals q.1 = some (some (.ref d.addr))) && keepIn K (.ref d.addr) | none => false) &&
  (T.classes.all (fun q => match cl[q.2]? with | some r => decide (nsIn K mainGlobals q.1 = some (some (.ref r.1))) && keepIn K (.ref r.1) | none => false) &&
  (T.tint.all (fun q => match nsIn K mainGlobals q.1 with | some (some (.int k _)) => decide (k = q.2) | _ => false) &&
  (T.tstr.all (fun q => match nsIn K mainGlobals q.1 with | some (some (.str k _)) => decide (k = q.2) | _ => false) &&
  ((["len", "max", "min", "sorted", "sum", "int", "str", "list", "range", "isinstance", "bool", "tuple", "ValueError"] : List Str).all (fun x => decide (nsIn K mainGlobals x = some none)) &&
  T.xs.zipIdx.all fun r => chkX T K r.2 r.1.1 r.1.2))))
theorem topOk_of {c : Cx} {P : Prog} (hz : c.Z.attrs = c.T.attrs) (hy : c.B.xs = c.T.xs.map (·.2)) (h : chkTop P c.T c.Z.classes c.K = true) : TopOk c P := by
  unfold chkTop at h
  simp only [Bool.and_eq_true, List.all_eq_true] at h
  obtain ⟨h1, h2, h3, h4, h5, h6⟩ := h
  refine ⟨fun x f e => ?_, hz, hy, fun k y C e => excAt_of (h6 ((y, C), k) (zip_at e)), fun x k e => ?_, fun x k e => ?_, fun x k e => ?_, fun x m => of_decide_eq_true (h5 x m)⟩
  · have := h1 _ (look_mem e)
    dsimp only at this
    cases hl : P.fns.lookup f with
    | none => rw [hl] at this; cases this
    | some d =>
      rw [hl] at this
      simp only [Bool.and_eq_true, decide_eq_true_eq] at this
      exact ⟨d, rfl, this.1, this.2⟩
  · have := h2 _ (look_mem e)
    dsimp only at this
    cases hl : c.Z.classes[k]? with
    | none => rw [hl] at this; cases this
    | some d =>
      rw [hl] at this
      simp only [Bool.and_eq_true, decide_eq_true_eq] at this
      exact ⟨d.1, d.2, rfl, this.1, this.2⟩
  · have := h3 _ (look_mem e)
    dsimp only at this
    split at this
    · rename_i k' t' hn
      cases of_decide_eq_true this
      exact ⟨_, hn⟩
    · cases this
  · have := h4 _ (look_mem e)
    dsimp only at this
    split at this
    · rename_i k' t' hn
      cases of_decide_eq_true this
      exact ⟨_, hn⟩
    · cases this

noncomputable def chkCls (P : Prog) (M : Nat → Option Str) (ats : List Str) (K : Frag) : Bool :=
  P.classes.all (fun q => match P.fns.lookup q.2 with | some D => makesIn K q.1 && (decide (findIn K (.ref q.1) "__init__" = some (some (.ref D.addr))) && isFn K (.ref D.addr)) | none => false) &&
  (P.meths.all (fun q => match P.classes[q.1]? with
    | some r => (match P.fns.lookup q.2 with
      | some D => (match M q.2 with
        | some x => decide (x ∉ ats) && (plainGet K r.1 x && (decide (findIn K (.ref r.1) x = some (some (.ref D.addr))) && (isFn K (.ref D.addr) && keepIn K (.ref D.addr))))
        | none => false)
      | none => false)
    | none => false) &&
  P.attrs.all (fun q => match P.classes[q.1]? with
    | some r => (match ats[q.2]? with
      | some x => (match findIn K (.ref r.1) x with
        | some a => plainGet K r.1 x && (hasDictIn K r.1 && (noGet K a && (decide (findIn K (.ref r.1) "__setattr__" = some (some (.builtin "object.__setattr__"))) && (plainOver K r.1 && decide (takerIn K r.1 x = some none)))))
        | none => false)
      | none => false)
    | none => false))
theorem clsOk_of {c : Cx} {P : Prog} (hz : c.Z.classes = P.classes) (h : chkCls P c.M c.Z.attrs c.K = true) : ClsOK c P := by
  unfold chkCls at h
  simp only [Bool.and_eq_true, List.all_eq_true] at h
  obtain ⟨h1, h2, h3⟩ := h
  refine ⟨hz, fun k C f e => ?_, fun k f m => ?_, fun k j m => ?_⟩
  · have := h1 _ (List.mem_of_getElem? e)
    dsimp only at this
    cases hl : P.fns.lookup f with
    | none => rw [hl] at this; cases this
    | some D =>
      rw [hl] at this
      simp only [Bool.and_eq_true, decide_eq_true_eq] at this
      exact ⟨D, rfl, this⟩
  · have := h2 _ m
    dsimp only at this
    cases hc : P.classes[k]? with
    | none => rw [hc] at this; cases this
    | some r =>
      rw [hc] at this
      dsimp only at this
      cases hl : P.fns.lookup f with
      | none => rw [hl] at this; cases this
      | some D =>
        rw [hl] at this
        dsimp only at this
        cases hm : c.M f with
        | none => rw [hm] at this; cases this
        | some x =>
          rw [hm] at this
          simp only [Bool.and_eq_true, decide_eq_true_eq] at this
          exact ⟨r.1, r.2, D, x, rfl, rfl, rfl, this⟩
  · have := h3 _ m
    dsimp only at this
    cases hc : P.classes[k]? with
    | none => rw [hc] at this; cases this
    | some r =>
      rw [hc] at this
      dsimp only at this
      cases hl : c.Z.attrs[j]? with
      | none => rw [hl] at this; cases this
      | some x =>
        rw [hl] at this
        dsimp only at this
        cases hm : findIn c.K (.ref r.1) x with
        | none => rw [hm] at this; cases this
        | some a =>
          rw [hm] at this
          simp only [Bool.and_eq_true, decide_eq_true_eq] at this
          obtain ⟨a1, a2, a3, a4, a5, a6⟩ := this
          exact ⟨r.1, r.2, x, a, rfl, rfl, a1, a2, hm, a3, a4, a5, a6⟩

/-- the whole look at the written part -/
noncomputable def chkAll (P : Prog) (T : Tops) (M : Nat → Option Str) (K : Frag) : Bool := chkTop P T P.classes K && (chkCls P M T.attrs K && P.fns.all fun q => (tameB P q.2.body && (!q.2.quiet || quietB P q.2.body)) && chkFn T M K q.2)
noncomputable def lawHook (P : Prog) (T : Tops) (M : Nat → Option Str) (as : List Addr) : Hook where
  α := Bool
  obs := fun s => chkAll P T M (fragOf as s.heap)
  val := fun _ => true
  says := fun _ h => ∃ K : Frag, K.In h ∧ chkAll P T M K = true
  of := fun _ _ e => ⟨_, fragOf_in, e⟩
  keeps := fun _ _ _ ⟨K, a, b⟩ k => ⟨K, fun x o e => k _ _ (a x o e), b⟩
theorem of_chk {c : Cx} {P : Prog} (h1 : c.Z.classes = P.classes) (h2 : c.Z.attrs = c.T.attrs) (h3 : c.B.xs = c.T.xs.map (·.2)) (h : chkAll P c.T c.M c.K = true) : TopOk c P ∧ ClsOK c P ∧ ∀ f D, P.fns.lookup f = some D → FnAt c P D := by
  simp only [chkAll, Bool.and_eq_true, List.all_eq_true] at h
  refine ⟨topOk_of h2 h3 (h1 ▸ h.1), clsOk_of h1 (h2 ▸ h.2.1), fun f D e => have q := h.2.2 _ (look_mem e); fnAt_of (by simpa using q.1) q.2⟩
theorem run_chk {c : Cx} {P : Prog} {n : Nat} (hz1 : c.Z.classes = P.classes) (hz2 : c.Z.attrs = c.T.attrs) (hz3 : c.B.xs = c.T.xs.map (·.2)) (CK : chkAll P c.T c.M c.K = true) {s₁ : Shared} {h₁ : Heap} {tk : Nat} {qual : Str} {scope : Scope} {a : Addr} {cd : Value} {body : List Stmt} {l : Addr} {vs : List Value} {ns : List Int} {m₀ : Str → Option Value}
    {S : List Str} {z : Str} {b : List MS} {σ' : Store} {Q : Flow → Shared → Prop} {E : Value → Shared → Prop} (hB : c.B.h = s₁.heap) (T : Top c.p c.loose c.mean c.mg c.mb s₁.heap) (KX : c.K.In s₁.heap) (K0 : Below callerA s₁.heap [] s₁.heap) (F : Fr s₁.heap s₁.heap.objs.size h₁ m₀)
    (hm : m₀ z = some (.ref l)) (hL : s₁.heap.IsList l vs.toArray) (hI : IntsAre vs ns) (hz : S[0]? = some z) (hkind : scope.kind = .function) (hloc : ∀ y ∈ S, scope.names.lookup y = some .local) (hnd : S.Nodup) (hgen : scope.isGenerator = false) (hco : scope.isCoroutine = false)
    (htree : c.prog.given.tree = none) (himp : importsNone c.p = true) (htame : tameB P b = true) (hbody : mss c.T (fun y => scope.names.lookup y == some .globalImplicit) S c.M b body = true) (hn : 2 * n + 1 < 200)
    (res : execB (pre P n) b (some (.lst (ns.map .int)) :: List.replicate (S.length - 1) Option.none) [] = .ok (.ret (.bool true)) σ')
    (hQ : ∀ h' tk m', Fr s₁.heap s₁.heap.objs.size h' m' → Q (.ret (.bool true)) { s₁ with heap := h', toks := tk }) :
    wpAny (model c.prog c.w) (callerA.deeper (envOf qual scope s₁.heap.objs.size a cd)) (execs body (envOf qual scope s₁.heap.objs.size a cd)) Q E { s₁ with heap := h₁, toks := tk } :=
  have ⟨a, b, d⟩ := of_chk hz1 hz2 hz3 CK
  run_law a b d hB T KX K0 F hm hL hI hz hkind hloc hnd hgen hco htree himp htame hbody hn res hQ
end Mine
set_option maxRecDepth 100000
namespace Mine
open PySem
noncomputable def s_l_cell_at : List Str := ["_law_script", "_law_k"]
noncomputable def b_l_cell_at : List MS := [.ite (.cmp .Lt (.var 1) (.bi .len [.var 0])) [.ret (.idx (.var 0) (.var 1))] [],
  .ret (.cint 0)]
noncomputable def s_l_whole : List Str := ["_law_found"]
noncomputable def b_l_whole : List MS := [.ret (.and [.isi (.var 0) .int, .not (.isi (.var 0) .bool)])]
noncomputable def s_l_mixed : List Str := ["_law_cell", "_law_many"]
noncomputable def b_l_mixed : List MS := [.ret (.bin .Mod (.bin .Mod (.bin .Add (.bin .Mult (.var 0) (.cint 48271)) (.cint 12345)) (.cint 2147483647)) (.var 1))]
noncomputable def s_l_rate_by : List Str := ["_law_cell"]
noncomputable def b_l_rate_by : List MS := [.ite (.cmp .Eq (.bin .Mod (.var 0) (.cint 5)) (.cint 0)) [.ret (.idx (.lst false [.cint 0, .cint 1, .cint 99999, .cint 100000]) (.bin .Mod (.bin .FloorDiv (.var 0) (.cint 5)) (.cint 4)))] [],
  .ite (.cmp .Eq (.bin .Mod (.var 0) (.cint 5)) (.cint 1)) [.ret (.bin .Mod (.bin .FloorDiv (.var 0) (.cint 5)) (.cint 400))] [],
  .ret (.call 2 [.var 0, .cint 100001])]
noncomputable def s_l_row_by : List Str := ["_law_cell", "_law_many", "_law_wide", "_law_row", "_law_k", "_law_day"]
noncomputable def b_l_row_by : List MS := [.assign 3 (.lst true [.tup [.cint 0, .call 3 [.var 0]]]),
  .forRange 4 [.cint 1, .var 1] [.assign 5 (.bin .Add (.bin .Add (.idx (.idx (.var 3) (.neg (.cint 1))) (.cint 0)) (.cint 1)) (.call 2 [.bin .Add (.var 0) (.bin .Mult (.cint 13) (.var 4)), .var 2])),
    .append (.var 3) (.tup [.var 5, .call 3 [.bin .Add (.bin .FloorDiv (.var 0) (.cint 7)) (.bin .Mult (.cint 31) (.var 4))]])],
  .ret (.var 3)]
noncomputable def bodyRow : List MS := [.assign 5 (.bin .Add (.bin .Add (.idx (.idx (.var 3) (.neg (.cint 1))) (.cint 0)) (.cint 1)) (.call 2 [.bin .Add (.var 0) (.bin .Mult (.cint 13) (.var 4)), .var 2])),
    .append (.var 3) (.tup [.var 5, .call 3 [.bin .Add (.bin .FloorDiv (.var 0) (.cint 7)) (.bin .Mult (.cint 31) (.var 4))]])]
noncomputable def s_grown : List Str := ["rates", "start", "end", "total", "place", "low", "high"]
noncomputable def bodyGrown : List MS := [.assign 5 (.bi .max2 [.bin .Add (.var 1) (.cint 1), .idx (.idx (.var 0) (.var 4)) (.cint 0)]),
    .assign 6 (.var 2),
    .ite (.cmp .Lt (.bin .Add (.var 4) (.cint 1)) (.bi .len [.var 0])) [.assign 6 (.bi .min2 [.var 2, .bin .Sub (.idx (.idx (.var 0) (.bin .Add (.var 4) (.cint 1))) (.cint 0)) (.cint 1)])] [],
    .ite (.cmp .LtE (.var 5) (.var 6)) [.assign 3 (.bin .Add (.var 3) (.bin .Mult (.bin .Add (.bin .Sub (.var 6) (.var 5)) (.cint 1)) (.idx (.idx (.var 0) (.var 4)) (.cint 1))))] []]
noncomputable def b_grown : List MS := [.assign 3 (.cint 0),
  .forRange 4 [.bi .len [.var 0]] bodyGrown,
  .ret (.var 3)]
noncomputable def s_l_sum_by : List Str := ["_law_row", "_law_start", "_law_end", "_law_total", "_law_k", "_law_days"]
noncomputable def bodySum : List MS := [.assign 5 (.bin .Sub (.var 2) (.bi .max2 [.var 1, .bin .Sub (.idx (.idx (.var 0) (.var 4)) (.cint 0)) (.cint 1)])),
    .ite (.cmp .Gt (.var 5) (.cint 0)) [.assign 3 (.bin .Add (.var 3) (.bin .Mult (.bin .Sub (.idx (.idx (.var 0) (.var 4)) (.cint 1)) (.idx (.idx (.var 0) (.bin .Sub (.var 4) (.cint 1))) (.cint 1))) (.var 5)))] []]
noncomputable def b_l_sum_by : List MS := [.assign 3 (.bin .Mult (.idx (.idx (.var 0) (.cint 0)) (.cint 1)) (.bin .Sub (.var 2) (.var 1))),
  .forRange 4 [.cint 1, .bi .len [.var 0]] bodySum,
  .ret (.var 3)]
noncomputable def s_sure_rate : List Str := ["rate"]
noncomputable def b_sure_rate : List MS := [.ite (.or [.cmp .Lt (.var 0) (.cint 0), .cmp .Gt (.var 0) (.gint "MOST_RATE" 100000)]) [.raise "BadRate" 2 "no such rate"] []]
noncomputable def s_sure_row_day : List Str := ["day", "ahead"]
noncomputable def b_sure_row_day : List MS := [.ite (.or [.cmp .Lt (.var 0) (.cint 0), .cmp .Gt (.var 0) (.gint "LAST_DAY" 100000), .cmp .LtE (.var 0) (.var 1)]) [.raise "BadDay" 3 "no such day"] [],
  .ite (.and [.cmp .Lt (.var 1) (.cint 0), .cmp .Gt (.var 0) (.cint 0)]) [.raise "BadDay" 3 "the first day is 0"] []]
noncomputable def s_checked : List Str := ["rates", "ahead", "found", "pair"]
noncomputable def b_checked : List MS := [.ite (.cmp .Eq (.bi .len [.var 0]) (.cint 0)) [.raise "BadDay" 3 "no rates"] [],
  .assign 1 (.neg (.cint 1)),
  .assign 2 (.lst true []),
  .forIn 3 (.var 0) [.expr (.call 21 [.idx (.var 3) (.cint 0), .var 1]),
    .expr (.call 20 [.idx (.var 3) (.cint 1)]),
    .assign 1 (.idx (.var 3) (.cint 0)),
    .append (.var 2) (.var 3)],
  .ret (.var 2)]
noncomputable def s_Loan_init : List Str := ["self", "amount", "rates"]
noncomputable def b_Loan_init : List MS := [.ite (.or [.cmp .Lt (.var 1) (.cint 1), .cmp .Gt (.var 1) (.gint "MOST_AMOUNT" 1000000000000)]) [.raise "BadAmount" 1 "no such amount"] [],
  .setattr (.var 0) 0 (.call 22 [.var 2]),
  .setattr (.var 0) 1 (.var 1),
  .setattr (.var 0) 2 (.cint 0),
  .setattr (.var 0) 3 (.cint 0)]
noncomputable def s_Loan_stand : List Str := ["self", "day"]
noncomputable def b_Loan_stand : List MS := [.ite (.or [.cmp .Lt (.var 1) (.attr (.var 0) 3), .cmp .Gt (.var 1) (.gint "LAST_DAY" 100000)]) [.raise "BadDay" 3 "no such day"] [],
  .ret (.tup [.attr (.var 0) 1, .bin .Add (.attr (.var 0) 2) (.bin .Mult (.attr (.var 0) 1) (.call 19 [.attr (.var 0) 0, .attr (.var 0) 3, .var 1]))])]
noncomputable def s_Loan_owed : List Str := ["self", "day", "now"]
noncomputable def b_Loan_owed : List MS := [.assign 2 (.meth (.var 0) 24 [.var 1]),
  .ret (.bin .Add (.idx (.var 2) (.cint 0)) (.bin .FloorDiv (.bin .Sub (.bin .Add (.idx (.var 2) (.cint 1)) (.gint "MILLION" 1000000)) (.cint 1)) (.gint "MILLION" 1000000)))]
noncomputable def s_Loan_pay : List Str := ["self", "day", "cents", "now", "all_cents", "interest"]
noncomputable def b_Loan_pay : List MS := [.assign 3 (.meth (.var 0) 24 [.var 1]),
  .assign 4 (.meth (.var 0) 25 [.var 1]),
  .ite (.or [.cmp .Lt (.var 2) (.cint 1), .cmp .Gt (.var 2) (.var 4)]) [.raise "BadPay" 4 "no such payment"] [],
  .setattr (.var 0) 3 (.var 1),
  .ite (.cmp .Eq (.var 2) (.var 4)) [.setattr (.var 0) 1 (.cint 0),
    .setattr (.var 0) 2 (.cint 0),
    .ret (.tup [.bin .Sub (.var 2) (.idx (.var 3) (.cint 0)), .idx (.var 3) (.cint 0)])] [],
  .assign 5 (.bi .min2 [.var 2, .bin .FloorDiv (.idx (.var 3) (.cint 1)) (.gint "MILLION" 1000000)]),
  .setattr (.var 0) 1 (.bin .Sub (.idx (.var 3) (.cint 0)) (.bin .Sub (.var 2) (.var 5))),
  .setattr (.var 0) 2 (.bin .Sub (.idx (.var 3) (.cint 1)) (.bin .Mult (.var 5) (.gint "MILLION" 1000000))),
  .ret (.tup [.var 5, .bin .Sub (.var 2) (.var 5)])]
noncomputable def s_Loan_change : List Str := ["self", "day", "rate"]
noncomputable def b_Loan_change : List MS := [.ite (.or [.cmp .LtE (.var 1) (.attr (.var 0) 3), .cmp .LtE (.var 1) (.idx (.idx (.attr (.var 0) 0) (.neg (.cint 1))) (.cint 0)), .cmp .Gt (.var 1) (.gint "LAST_DAY" 100000)]) [.raise "BadDay" 3 "no such day"] [],
  .expr (.call 20 [.var 2]),
  .append (.attr (.var 0) 0) (.tup [.var 1, .var 2])]
noncomputable def bodyChecked : List MS := [.expr (.call 21 [.idx (.var 3) (.cint 0), .var 1]),
    .expr (.call 20 [.idx (.var 3) (.cint 1)]),
    .assign 1 (.idx (.var 3) (.cint 0)),
    .append (.var 2) (.var 3)]
noncomputable def s_l_amount_by : List Str := ["_law_cell"]
noncomputable def b_l_amount_by : List MS := [.ite (.cmp .Eq (.bin .Mod (.var 0) (.cint 4)) (.cint 0)) [.ret (.idx (.lst false [.cint 1, .cint 2, .cint 999999999999, .cint 1000000000000]) (.bin .Mod (.bin .FloorDiv (.var 0) (.cint 4)) (.cint 4)))] [],
  .ite (.cmp .Eq (.bin .Mod (.var 0) (.cint 4)) (.cint 1)) [.ret (.bin .Add (.cint 1) (.bin .Mod (.bin .FloorDiv (.var 0) (.cint 4)) (.cint 5000)))] [],
  .ret (.bin .Add (.cint 1) (.bin .Mod (.bin .Add (.bin .Mult (.call 2 [.var 0, .cint 2147483647]) (.cint 467)) (.cint 5)) (.cint 1000000000000)))]
noncomputable def s_l_owed : List Str := ["_law_left", "_law_begun"]
noncomputable def b_l_owed : List MS := [.ret (.bin .Add (.var 0) (.bin .FloorDiv (.bin .Add (.var 1) (.cint 999999)) (.cint 1000000)))]
noncomputable def s_l_parts : List Str := ["_law_left", "_law_begun", "_law_cents", "_law_owed_here", "_law_interest", "_law_off"]
noncomputable def b_l_parts : List MS := [.assign 3 (.bin .Add (.var 0) (.bin .FloorDiv (.bin .Add (.var 1) (.cint 999999)) (.cint 1000000))),
  .ite (.cmp .Eq (.var 2) (.var 3)) [.ret (.tup [.bin .Sub (.var 3) (.var 0), .var 0, .cint 0, .cint 0])] [],
  .assign 4 (.bi .min2 [.var 2, .bin .FloorDiv (.var 1) (.cint 1000000)]),
  .assign 5 (.bin .Sub (.var 2) (.var 4)),
  .ret (.tup [.var 4, .var 5, .bin .Sub (.var 0) (.var 5), .bin .Sub (.var 1) (.bin .Mult (.cint 1000000) (.var 4))])]
noncomputable def s_l_made : List Str := ["_law_amount", "_law_row", "_law_cell", "_law_keep", "_law_loan", "_law_pair"]
noncomputable def b_l_made : List MS := [.assign 3 (.bin .Add (.cint 1) (.bin .Mod (.var 2) (.bi .len [.var 1]))),
  .assign 4 (.make 0 [.var 0, .sliceTo false (.var 1) (.var 3)]),
  .forIn 5 (.sliceFrom false (.var 1) (.var 3)) [.expr (.meth (.var 4) 27 [.idx (.var 5) (.cint 0), .idx (.var 5) (.cint 1)])],
  .ret (.var 4)]
noncomputable def bodyMade : List MS := [.expr (.meth (.var 4) 27 [.idx (.var 5) (.cint 0), .idx (.var 5) (.cint 1)])]
noncomputable def s_l_at_by : List Str := ["_law_cell"]
noncomputable def b_l_at_by : List MS := [.ite (.cmp .Eq (.bin .Mod (.bin .FloorDiv (.var 0) (.cint 2)) (.cint 6)) (.cint 5)) [.ret (.call 2 [.var 0, .cint 3001])] [],
  .ret (.bin .Mod (.bin .FloorDiv (.var 0) (.cint 12)) (.cint 41))]
noncomputable def s_Loan_twin : List Str := ["self", "other"]
noncomputable def b_Loan_twin : List MS := [.assign 1 (.make 0 [.cint 1, .attr (.var 0) 0]),
  .setattr (.var 1) 1 (.attr (.var 0) 1),
  .setattr (.var 1) 2 (.attr (.var 0) 2),
  .setattr (.var 1) 3 (.attr (.var 0) 3),
  .ret (.var 1)]
noncomputable def s_sure_days : List Str := ["loan", "days", "ahead", "day"]
noncomputable def b_sure_days : List MS := [.ite (.cmp .Gt (.bi .len [.var 1]) (.gint "MOST_DAYS" 400)) [.raise "BadDay" 3 "too many due days"] [],
  .assign 2 (.bin .Sub (.attr (.var 0) 3) (.cint 1)),
  .forIn 3 (.var 1) [.ite (.or [.cmp .LtE (.var 3) (.var 2), .cmp .Gt (.var 3) (.gint "LAST_DAY" 100000)]) [.raise "BadDay" 3 "no such due day"] [],
    .assign 2 (.var 3)]]
noncomputable def s_sure_some_days : List Str := ["loan", "days"]
noncomputable def b_sure_some_days : List MS := [.ite (.cmp .Eq (.bi .len [.var 1]) (.cint 0)) [.raise "BadDay" 3 "no due days"] [],
  .expr (.call 29 [.var 0, .var 1])]
noncomputable def s_paid_by : List Str := ["loan", "days", "part", "rows", "day", "owed", "paid", "parts"]
noncomputable def b_paid_by : List MS := [.assign 3 (.lst true []),
  .forIn 4 (.var 1) [.assign 5 (.meth (.var 0) 25 [.var 4]),
    .ite (.cmp .Eq (.var 5) (.cint 0)) [.ret (.var 3)] [],
    .assign 6 (.bi .min2 [.var 2, .var 5]),
    .assign 7 (.meth (.var 0) 26 [.var 4, .var 6]),
    .append (.var 3) (.tup [.var 4, .var 6, .idx (.var 7) (.cint 0), .idx (.var 7) (.cint 1), .attr (.var 0) 1])],
  .ret (.var 3)]
noncomputable def s_l_days_by : List Str := ["_law_cell", "_law_at", "_law_many", "_law_wide", "_law_days", "_law_k"]
noncomputable def b_l_days_by : List MS := [.assign 4 (.lst true [.bin .Add (.var 1) (.bin .Mod (.var 0) (.cint 4))]),
  .forRange 5 [.cint 1, .var 2] [.append (.var 4) (.bin .Add (.bin .Add (.idx (.var 4) (.neg (.cint 1))) (.cint 1)) (.call 2 [.bin .Add (.var 0) (.bin .Mult (.cint 17) (.var 5)), .var 3]))],
  .ret (.sliceTo false (.var 4) (.var 2))]
noncomputable def s_l_behind : List Str := ["_law_stood", "_law_row", "_law_days", "_law_part", "_law_left", "_law_begun", "_law_at", "_law_paid", "_law_day", "_law_cents"]
noncomputable def b_l_behind : List MS := [.unpack [4, 5, 6] (.var 0),
  .assign 7 (.cint 0),
  .forIn 8 (.var 2) [.assign 5 (.bin .Add (.var 5) (.bin .Mult (.var 4) (.call 6 [.var 1, .var 6, .var 8]))),
    .assign 6 (.var 8),
    .assign 9 (.bi .min2 [.var 3, .call 8 [.var 4, .var 5]]),
    .ite (.cmp .Gt (.var 9) (.cint 0)) [.unpack [4, 5] (.sliceFrom false (.call 9 [.var 4, .var 5, .var 9]) (.cint 2)),
      .assign 7 (.bin .Add (.var 7) (.var 9))] []],
  .ret (.tup [.var 7, .call 8 [.var 4, .var 5]])]
noncomputable def s_sure_part : List Str := ["part"]
noncomputable def b_sure_part : List MS := [.ite (.cmp .Lt (.var 0) (.cint 1)) [.raise "BadPay" 4 "no such part"] []]
noncomputable def bodySure : List MS := [.ite (.or [.cmp .LtE (.var 3) (.var 2), .cmp .Gt (.var 3) (.gint "LAST_DAY" 100000)]) [.raise "BadDay" 3 "no such due day"] [],
    .assign 2 (.var 3)]
noncomputable def bodyPaid : List MS := [.assign 5 (.meth (.var 0) 25 [.var 4]),
    .ite (.cmp .Eq (.var 5) (.cint 0)) [.ret (.var 3)] [],
    .assign 6 (.bi .min2 [.var 2, .var 5]),
    .assign 7 (.meth (.var 0) 26 [.var 4, .var 6]),
    .append (.var 3) (.tup [.var 4, .var 6, .idx (.var 7) (.cint 0), .idx (.var 7) (.cint 1), .attr (.var 0) 1])]
noncomputable def s_l_loan_by : List Str := ["_law_script", "_law_row", "_law_amount", "_law_loan", "_law_left", "_law_begun", "_law_at", "_law_cents", "_law_more"]
noncomputable def b_l_loan_by : List MS := [.assign 2 (.call 7 [.call 0 [.var 0, .cint 0]]),
  .assign 3 (.call 41 [.var 2, .var 1, .call 0 [.var 0, .cint 10]]),
  .unpack [4, 5, 6] (.tup [.var 2, .cint 0, .cint 0]),
  .ite (.cmp .Eq (.bin .Mod (.call 0 [.var 0, .cint 2]) (.cint 2)) (.cint 1)) [.assign 6 (.call 11 [.call 0 [.var 0, .cint 2]]),
    .assign 5 (.bin .Mult (.var 2) (.call 6 [.var 1, .cint 0, .var 6])),
    .assign 7 (.bin .Add (.cint 1) (.bin .Mod (.bin .Mult (.call 2 [.call 0 [.var 0, .cint 3], .cint 2147483647]) (.cint 467)) (.call 8 [.var 2, .var 5]))),
    .ite (.cmp .Eq (.bin .Mod (.call 0 [.var 0, .cint 3]) (.cint 6)) (.cint 0)) [.assign 7 (.call 8 [.var 2, .var 5])] [],
    .expr (.meth (.var 3) 26 [.var 6, .var 7]),
    .unpack [4, 5] (.sliceFrom false (.call 9 [.var 2, .var 5, .var 7]) (.cint 2))] [],
  .assign 8 (.call 0 [.var 0, .cint 11]),
  .ite (.and [.cmp .Eq (.bin .Mod (.var 8) (.cint 3)) (.cint 1), .cmp .Lt (.bi .len [.var 1]) (.cint 60)]) [.assign 1 (.bin .Add (.var 1) (.lst false [.tup [.bin .Add (.bin .Add (.bi .max2 [.var 6, .idx (.idx (.var 1) (.neg (.cint 1))) (.cint 0)]) (.cint 1)) (.bin .Mod (.bin .FloorDiv (.var 8) (.cint 3)) (.cint 50)), .call 3 [.bin .FloorDiv (.var 8) (.cint 3)]]])),
    .expr (.meth (.var 3) 27 [.idx (.idx (.var 1) (.neg (.cint 1))) (.cint 0), .idx (.idx (.var 1) (.neg (.cint 1))) (.cint 1)])] [],
  .ret (.tup [.var 3, .tup [.var 4, .var 5, .var 6], .var 1])]
noncomputable def s_l_done_more : List Str := ["_law_loan", "_law_stood", "_law_row", "_law_cell", "_law_owed_here", "_law_cents", "_law_parts_here"]
noncomputable def b_l_done_more : List MS := [.ite (.and [.cmp .Eq (.bin .Mod (.var 3) (.cint 2)) (.cint 1), .cmp .Lt (.bi .len [.var 2]) (.cint 60)]) [.assign 2 (.bin .Add (.var 2) (.lst false [.tup [.bin .Add (.bin .Add (.bi .max2 [.idx (.var 1) (.cint 2), .idx (.idx (.var 2) (.neg (.cint 1))) (.cint 0)]) (.cint 1)) (.bin .Mod (.bin .FloorDiv (.var 3) (.cint 2)) (.cint 20)), .call 3 [.bin .FloorDiv (.var 3) (.cint 2)]]])),
    .expr (.meth (.var 0) 27 [.idx (.idx (.var 2) (.neg (.cint 1))) (.cint 0), .idx (.idx (.var 2) (.neg (.cint 1))) (.cint 1)]),
    .ret (.tup [.var 1, .var 2])] [],
  .assign 4 (.call 8 [.idx (.var 1) (.cint 0), .idx (.var 1) (.cint 1)]),
  .ite (.cmp .Eq (.var 4) (.cint 0)) [.ret (.tup [.var 1, .var 2])] [],
  .assign 5 (.bin .Add (.cint 1) (.bin .Mod (.bin .Mult (.call 2 [.var 3, .cint 2147483647]) (.cint 467)) (.var 4))),
  .expr (.meth (.var 0) 26 [.idx (.var 1) (.cint 2), .var 5]),
  .assign 6 (.call 9 [.idx (.var 1) (.cint 0), .idx (.var 1) (.cint 1), .var 5]),
  .ret (.tup [.tup [.idx (.var 6) (.cint 2), .idx (.var 6) (.cint 3), .idx (.var 1) (.cint 2)], .var 2])]
noncomputable def bodyBehind : List MS := [.assign 5 (.bin .Add (.var 5) (.bin .Mult (.var 4) (.call 6 [.var 1, .var 6, .var 8]))),
    .assign 6 (.var 8),
    .assign 9 (.bi .min2 [.var 3, .call 8 [.var 4, .var 5]]),
    .ite (.cmp .Gt (.var 9) (.cint 0)) [.unpack [4, 5] (.sliceFrom false (.call 9 [.var 4, .var 5, .var 9]) (.cint 2)),
      .assign 7 (.bin .Add (.var 7) (.var 9))] []]
noncomputable def bodyDays : List MS := [.append (.var 4) (.bin .Add (.bin .Add (.idx (.var 4) (.neg (.cint 1))) (.cint 1)) (.call 2 [.bin .Add (.var 0) (.bin .Mult (.cint 17) (.var 5)), .var 3]))]
noncomputable def s_cost_of : List Str := ["loan", "days", "part", "other", "rows"]
noncomputable def b_cost_of : List MS := [.assign 3 (.meth (.var 0) 28 []),
  .assign 4 (.call 32 [.var 3, .var 1, .var 2]),
  .ret (.bin .Add (.sumAt 1 4) (.meth (.var 3) 25 [.idx (.var 1) (.neg (.cint 1))]))]
noncomputable def s_cost : List Str := ["loan", "days", "part"]
noncomputable def b_cost : List MS := [.expr (.call 30 [.var 0, .var 1]),
  .expr (.call 31 [.var 2]),
  .ret (.call 35 [.var 0, .var 1, .var 2])]
noncomputable def s_saved : List Str := ["loan", "days", "part", "day", "cents", "behind"]
noncomputable def b_saved : List MS := [.expr (.call 30 [.var 0, .var 1]),
  .expr (.call 31 [.var 2]),
  .ite (.or [.cmp .Lt (.var 3) (.attr (.var 0) 3), .cmp .Gt (.var 3) (.idx (.var 1) (.cint 0))]) [.raise "BadDay" 3 "no such early day"] [],
  .assign 5 (.meth (.var 0) 28 []),
  .expr (.meth (.var 5) 26 [.var 3, .var 4]),
  .ret (.bin .Sub (.bin .Sub (.call 35 [.var 0, .var 1, .var 2]) (.var 4)) (.call 35 [.var 5, .var 1, .var 2]))]
noncomputable def s_l_cost : List Str := ["_law_stood", "_law_row", "_law_days", "_law_part", "_law_paid", "_law_owed_here"]
noncomputable def b_l_cost : List MS := [.unpack [4, 5] (.call 50 [.var 0, .var 1, .var 2, .var 3]),
  .ret (.bin .Add (.var 4) (.var 5))]
noncomputable def s_l_row_of : List Str := ["_law_cell", "_law_size", "_law_wide"]
noncomputable def b_l_row_of : List MS := [.assign 1 (.bin .Add (.cint 1) (.bin .Mod (.var 0) (.cint 4))),
  .assign 2 (.idx (.lst false [.cint 9, .cint 9000]) (.bin .Mod (.bin .FloorDiv (.var 0) (.cint 4)) (.cint 2))),
  .ite (.cmp .Eq (.bin .Mod (.bin .FloorDiv (.var 0) (.cint 8)) (.cint 8)) (.cint 1)) [.assign 1 (.bin .Add (.cint 1) (.bin .Mod (.bin .FloorDiv (.var 0) (.cint 64)) (.cint 60))),
    .assign 2 (.idx (.lst false [.cint 9, .cint 1000]) (.bin .Mod (.bin .FloorDiv (.var 0) (.cint 4)) (.cint 2)))] [],
  .ret (.call 4 [.var 0, .var 1, .var 2])]
noncomputable def s_l_dues : List Str := ["_law_script", "_law_at", "_law_head", "_law_first", "_law_many", "_law_wide"]
noncomputable def b_l_dues : List MS := [.assign 2 (.call 0 [.var 0, .cint 4]),
  .assign 3 (.bin .Add (.var 1) (.bin .Mod (.var 2) (.cint 91))),
  .ite (.cmp .Eq (.bin .Mod (.call 0 [.var 0, .cint 9]) (.cint 4)) (.cint 1)) [.assign 3 (.bin .Add (.var 1) (.call 2 [.call 0 [.var 0, .cint 9], .cint 15000]))] [],
  .assign 4 (.bin .Add (.cint 1) (.bin .Mod (.bin .FloorDiv (.var 2) (.cint 91)) (.cint 10))),
  .assign 5 (.idx (.lst false [.cint 30, .cint 900]) (.bin .Mod (.bin .FloorDiv (.var 2) (.cint 910)) (.cint 2))),
  .ite (.cmp .Eq (.bin .Mod (.bin .FloorDiv (.var 2) (.cint 1820)) (.cint 8)) (.cint 1)) [.assign 4 (.bin .Add (.cint 1) (.bin .Mod (.bin .FloorDiv (.var 2) (.cint 14560)) (.cint 400))),
    .assign 5 (.cint 200)] [],
  .ret (.call 12 [.bin .Mult (.cint 4) (.call 0 [.var 0, .cint 5]), .var 3, .var 4, .var 5])]
noncomputable def s_l_part_of : List Str := ["_law_ways", "_law_share", "_law_some"]
noncomputable def b_l_part_of : List MS := [.assign 2 (.lst false [.cint 1, .var 1, .bin .Add (.bin .Add (.var 1) (.bin .FloorDiv (.var 1) (.cint 4))) (.cint 1), .bin .Add (.bin .Pow (.cint 10) (.cint 18)) (.bin .Mod (.bin .Mult (.var 0) (.var 0)) (.bin .Pow (.cint 10) (.cint 40))), .bin .FloorDiv (.var 1) (.cint 2)]),
  .ite (.cmp .Eq (.bin .Mod (.bin .FloorDiv (.var 0) (.cint 5)) (.cint 3)) (.cint 1)) [.ret (.bin .Add (.cint 1) (.bin .Mod (.bin .Mult (.call 2 [.var 0, .cint 2147483647]) (.cint 467)) (.bin .Add (.bin .Mult (.cint 2) (.var 1)) (.cint 2))))] [],
  .ret (.bi .max2 [.cint 1, .idx (.var 2) (.bin .Mod (.var 0) (.cint 5))])]
noncomputable def s_l_saved_again : List Str := ["_law_loan", "_law_stood", "_law_row", "_law_days", "_law_part", "_law_due", "_law_owed_here", "_law_cents", "_law_less", "_law_other"]
noncomputable def b_l_saved_again : List MS := [.assign 6 (.call 8 [.idx (.var 1) (.cint 0), .idx (.var 1) (.cint 1)]),
  .ite (.cmp .Eq (.var 6) (.cint 0)) [.ret (.cbool true)] [],
  .assign 7 (.bin .FloorDiv (.bin .Add (.var 6) (.cint 1)) (.cint 2)),
  .assign 8 (.call 9 [.idx (.var 1) (.cint 0), .idx (.var 1) (.cint 1), .var 7]),
  .assign 9 (.call 51 [.tup [.idx (.var 8) (.cint 2), .idx (.var 8) (.cint 3), .idx (.var 1) (.cint 2)], .var 2, .var 3, .var 4]),
  .ret (.cmp .Eq (.call 37 [.var 0, .var 3, .var 4, .idx (.var 1) (.cint 2), .var 7]) (.bin .Sub (.bin .Sub (.var 5) (.var 7)) (.var 9)))]
noncomputable def s_law : List Str := ["_law_script", "_law_row", "_law_loan", "_law_stood", "_law_left", "_law_begun", "_law_at", "_law_days", "_law_part", "_law_day", "_law_then", "_law_owed_here", "_law_ways", "_law_cents", "_law_handed", "_law_whole_here", "_law_found", "_law_due", "_law_less", "_law_other", "_law_again"]
noncomputable def b_law : List MS := [.assign 1 (.call 43 [.call 0 [.var 0, .cint 1]]),
  .unpack [2, 3, 1] (.call 42 [.var 0, .var 1]),
  .unpack [4, 5, 6] (.var 3),
  .ite (.cmp .Eq (.call 8 [.var 4, .var 5]) (.cint 0)) [.ret (.cmp .Eq (.call 36 [.var 2, .lst false [.var 6], .cint 5]) (.cint 0))] [],
  .assign 7 (.call 44 [.var 0, .var 6]),
  .assign 8 (.call 47 [.call 0 [.var 0, .cint 6], .bin .FloorDiv (.var 4) (.bi .len [.var 7])]),
  .assign 9 (.bin .Add (.var 6) (.bin .Mod (.call 0 [.var 0, .cint 7]) (.bin .Add (.bin .Sub (.idx (.var 7) (.cint 0)) (.var 6)) (.cint 1)))),
  .assign 10 (.bin .Add (.var 5) (.bin .Mult (.var 4) (.call 6 [.var 1, .var 6, .var 9]))),
  .assign 11 (.call 8 [.var 4, .var 10]),
  .assign 12 (.call 0 [.var 0, .cint 8]),
  .assign 13 (.bi .max2 [.cint 1, .idx (.lst false [.cint 1, .bin .FloorDiv (.var 11) (.cint 100), .var 11, .bin .Add (.cint 1) (.bin .Mod (.bin .Mult (.call 2 [.var 12, .cint 2147483647]) (.cint 467)) (.var 11))]) (.bin .Mod (.var 12) (.cint 4))]),
  .assign 14 (.copy false (.var 7)),
  .assign 15 (.cnone),
  .ite (.cmp .Eq (.bin .Mod (.bin .FloorDiv (.var 12) (.cint 4)) (.cint 2)) (.cint 1)) [.assign 15 (.call 36 [.var 2, .var 14, .var 8])] [],
  .assign 16 (.call 37 [.var 2, .var 14, .var 8, .var 9, .var 13]),
  .ite (.cmp .Eq (.bin .Mod (.bin .FloorDiv (.var 12) (.cint 4)) (.cint 2)) (.cint 0)) [.assign 15 (.call 36 [.var 2, .var 14, .var 8])] [],
  .assign 17 (.call 51 [.var 3, .var 1, .var 7, .var 8]),
  .assign 18 (.call 9 [.var 4, .var 10, .var 13]),
  .assign 19 (.call 51 [.tup [.idx (.var 18) (.cint 2), .idx (.var 18) (.cint 3), .var 9], .var 1, .var 7, .var 8]),
  .ite (.or [.not (.call 1 [.var 15]), .cmp .NotEq (.var 15) (.var 17), .not (.call 1 [.var 16]), .cmp .Lt (.var 16) (.cint 0)]) [.ret (.cbool false)] [],
  .ite (.or [.cmp .NotEq (.var 14) (.var 7), .cmp .NotEq (.attr (.var 2) 0) (.var 1), .cmp .NotEq (.tup [.attr (.var 2) 1, .attr (.var 2) 2, .attr (.var 2) 3]) (.var 3)]) [.ret (.cbool false)] [],
  .unpack [3, 1] (.call 45 [.var 2, .var 3, .var 1, .call 0 [.var 0, .cint 12]]),
  .assign 20 (.call 51 [.var 3, .var 1, .var 7, .var 8]),
  .ite (.or [.cmp .NotEq (.call 36 [.var 2, .var 14, .var 8]) (.var 20), .cmp .NotEq (.var 16) (.bin .Sub (.bin .Sub (.var 17) (.var 13)) (.var 19))]) [.ret (.cbool false)] [],
  .ite (.not (.call 52 [.var 2, .var 3, .var 1, .var 14, .var 8, .var 20])) [.ret (.cbool false)] [],
  .ret (.and [.cmp .Eq (.var 14) (.var 7), .cmp .Eq (.attr (.var 2) 0) (.var 1), .cmp .Eq (.tup [.attr (.var 2) 1, .attr (.var 2) 2, .attr (.var 2) 3]) (.var 3)])]
noncomputable def Pg : Prog where
  fns := [(0, { addr := 213, name := "_law_cell_at", slots := s_l_cell_at, nargs := 2, body := b_l_cell_at }),
    (1, { addr := 220, name := "_law_whole", slots := s_l_whole, nargs := 1, body := b_l_whole }),
    (2, { addr := 227, name := "_law_mixed", slots := s_l_mixed, nargs := 2, body := b_l_mixed }),
    (3, { addr := 234, name := "_law_rate_by", slots := s_l_rate_by, nargs := 1, body := b_l_rate_by }),
    (4, { addr := 241, name := "_law_row_by", slots := s_l_row_by, nargs := 3, body := b_l_row_by }),
    (6, { addr := 248, name := "_law_sum_by", slots := s_l_sum_by, nargs := 3, body := b_l_sum_by }),
    (7, { addr := 255, name := "_law_amount_by", slots := s_l_amount_by, nargs := 1, body := b_l_amount_by }),
    (8, { addr := 262, name := "_law_owed", slots := s_l_owed, nargs := 2, body := b_l_owed }),
    (9, { addr := 269, name := "_law_parts", slots := s_l_parts, nargs := 3, body := b_l_parts }),
    (11, { addr := 290, name := "_law_at_by", slots := s_l_at_by, nargs := 1, body := b_l_at_by }),
    (12, { addr := 276, name := "_law_days_by", slots := s_l_days_by, nargs := 4, body := b_l_days_by }),
    (19, { addr := 103, name := "grown", slots := s_grown, nargs := 3, body := b_grown }),
    (20, { addr := 82, name := "sure_rate", slots := s_sure_rate, nargs := 1, body := b_sure_rate }),
    (21, { addr := 89, name := "sure_row_day", slots := s_sure_row_day, nargs := 2, body := b_sure_row_day }),
    (22, { addr := 96, name := "checked", slots := s_checked, nargs := 1, body := b_checked }),
    (23, { addr := 164, name := "Loan.__init__", slots := s_Loan_init, nargs := 3, body := b_Loan_init }),
    (24, { addr := 171, name := "Loan.stand", slots := s_Loan_stand, nargs := 2, body := b_Loan_stand }),
    (25, { addr := 178, name := "Loan.owed", slots := s_Loan_owed, nargs := 2, body := b_Loan_owed }),
    (26, { addr := 185, name := "Loan.pay", slots := s_Loan_pay, nargs := 3, body := b_Loan_pay }),
    (27, { addr := 192, name := "Loan.change", slots := s_Loan_change, nargs := 3, body := b_Loan_change }),
    (28, { addr := 199, name := "Loan.twin", slots := s_Loan_twin, nargs := 1, body := b_Loan_twin }),
    (29, { addr := 110, name := "sure_days", slots := s_sure_days, nargs := 2, body := b_sure_days }),
    (30, { addr := 117, name := "sure_some_days", slots := s_sure_some_days, nargs := 2, body := b_sure_some_days }),
    (31, { addr := 124, name := "sure_part", slots := s_sure_part, nargs := 1, body := b_sure_part }),
    (32, { addr := 131, name := "paid_by", slots := s_paid_by, nargs := 3, body := b_paid_by }),
    (35, { addr := 136, name := "cost_of", slots := s_cost_of, nargs := 3, body := b_cost_of }),
    (36, { addr := 143, name := "cost", slots := s_cost, nargs := 3, body := b_cost }),
    (37, { addr := 150, name := "saved", slots := s_saved, nargs := 5, body := b_saved }),
    (41, { addr := 297, name := "_law_made", slots := s_l_made, nargs := 3, body := b_l_made }),
    (42, { addr := 304, name := "_law_loan_by", slots := s_l_loan_by, nargs := 2, body := b_l_loan_by }),
    (43, { addr := 325, name := "_law_row_of", slots := s_l_row_of, nargs := 1, body := b_l_row_of }),
    (44, { addr := 332, name := "_law_dues", slots := s_l_dues, nargs := 2, body := b_l_dues }),
    (45, { addr := 318, name := "_law_done_more", slots := s_l_done_more, nargs := 4, body := b_l_done_more }),
    (47, { addr := 339, name := "_law_part_of", slots := s_l_part_of, nargs := 2, body := b_l_part_of }),
    (50, { addr := 283, name := "_law_behind", slots := s_l_behind, nargs := 4, body := b_l_behind }),
    (51, { addr := 311, name := "_law_cost", slots := s_l_cost, nargs := 4, body := b_l_cost }),
    (52, { addr := 346, name := "_law_saved_again", slots := s_l_saved_again, nargs := 6, body := b_l_saved_again })]
  classes := [(202, 23)]
  meths := [(0, 24), (0, 25), (0, 26), (0, 27), (0, 28)]
  attrs := [(0, 0), (0, 1), (0, 2), (0, 3)]
open PySem PySem.W PyProof.Rows
noncomputable def Tt : Tops where
  fns := [("_law_cell_at", 0), ("_law_whole", 1), ("_law_mixed", 2), ("_law_rate_by", 3), ("_law_row_by", 4), ("_law_sum_by", 6), ("_law_amount_by", 7), ("_law_owed", 8), ("_law_parts", 9), ("_law_at_by", 11), ("_law_days_by", 12), ("grown", 19), ("sure_rate", 20), ("sure_row_day", 21), ("checked", 22), ("sure_days", 29), ("sure_some_days", 30), ("sure_part", 31), ("paid_by", 32), ("cost_of", 35), ("cost", 36), ("saved", 37), ("_law_made", 41), ("_law_loan_by", 42), ("_law_row_of", 43), ("_law_dues", 44), ("_law_done_more", 45), ("_law_part_of", 47), ("_law_behind", 50), ("_law_cost", 51), ("_law_saved_again", 52)]
  classes := [("Loan", 0)]
  tint := [("LAST_DAY", 100000), ("MOST_RATE", 100000), ("MOST_DAYS", 400), ("MOST_AMOUNT", 1000000000000), ("MILLION", 1000000)]
  tstr := []
  attrs := ["rates", "left", "begun", "day"]
  xs := [("LoanError", 24), ("BadAmount", 37), ("BadRate", 49), ("BadDay", 61), ("BadPay", 73)]
noncomputable def Mt (n : Nat) : Option Str := [(24, ("stand" : Str)), (25, ("owed" : Str)), (26, ("pay" : Str)), (27, ("change" : Str)), (28, ("twin" : Str))].lookup n
noncomputable def hk : Hook := lawHook Pg Tt Mt [2, 3, 15, 22, 23, 24, 25, 28, 35, 36, 37, 40, 47, 48, 49, 52, 59, 60, 61, 64, 71, 72, 73, 76, 78, 79, 81, 82, 83, 85, 86, 88, 89, 90, 92, 93, 95, 96, 97, 99, 100, 102, 103, 104, 106, 107, 109, 110, 111, 113, 114, 116, 117, 118, 120, 121, 123, 124, 125, 127, 128, 130, 131, 132, 135, 136, 137, 139, 140, 142, 143, 144, 146, 147, 149, 150, 158, 160, 161, 163, 164, 165, 167, 168, 170, 171, 172, 174, 175, 177, 178, 179, 181, 182, 184, 185, 186, 188, 189, 191, 192, 193, 195, 196, 198, 199, 200, 201, 202, 203, 204, 207, 209, 210, 212, 213, 214, 216, 217, 219, 220, 221, 223, 224, 226, 227, 228, 230, 231, 233, 234, 235, 237, 238, 240, 241, 242, 244, 245, 247, 248, 249, 251, 252, 254, 255, 256, 258, 259, 261, 262, 263, 265, 266, 268, 269, 270, 272, 273, 275, 276, 277, 279, 280, 282, 283, 284, 286, 287, 289, 290, 291, 293, 294, 296, 297, 298, 300, 301, 303, 304, 305, 307, 308, 310, 311, 312, 314, 315, 317, 318, 319, 321, 322, 324, 325, 326, 328, 329, 331, 332, 333, 335, 336, 338, 339, 340, 342, 343, 345, 346, 347, 349, 350, 352, 353]
set_option maxHeartbeats 8000000 in
theorem hl2 (w : World) : (openEnds treeTable PySem.Challenge.rw_uf050010_11.row.prog w 5272).map (fun s => hk.obs s) = some true := by
  kernel_rfl
end Mine
set_option maxRecDepth 100000
set_option linter.unusedVariables false
set_option linter.unusedSimpArgs false
namespace Mine
open PySem

theorem bits64 {y : Int} (h1 : -(2 ^ 63) ≤ y) (h2 : y < 2 ^ 63) : Builtin.Int.intBits y ≤ 64 := PySem.intBits_le_64 (by omega) (by omega)
section ops
variable {σ : Store} {x y : Int}
theorem bin_add : binV σ .Add (.int x) (.int y) = some (.int (x + y)) := rfl
theorem bin_sub : binV σ .Sub (.int x) (.int y) = some (.int (x - y)) := rfl
theorem bin_mod (h : 0 < y) : binV σ .Mod (.int x) (.int y) = some (.int (x % y)) := by
  show modF x y = _
  unfold modF
  rw [if_neg (by omega), Int.fmod_eq_emod_of_nonneg _ (by omega)]
theorem bin_div (h : 0 < y) : binV σ .FloorDiv (.int x) (.int y) = some (.int (x / y)) := by
  show divF x y = _
  unfold divF
  rw [if_neg (by omega), Int.fdiv_eq_ediv_of_nonneg _ (by omega)]
theorem bin_mulr (h1 : -(2 ^ 63) ≤ y) (h2 : y < 2 ^ 63) : binV σ .Mult (.int x) (.int y) = some (.int (x * y)) := by
  show mulF x y = _
  unfold mulF
  rw [if_pos (.inl (.inr (bits64 h1 h2)))]
theorem bin_mull (h1 : -(2 ^ 63) ≤ x) (h2 : x < 2 ^ 63) : binV σ .Mult (.int x) (.int y) = some (.int (x * y)) := by
  show mulF x y = _
  unfold mulF
  rw [if_pos (.inl (.inl (bits64 h1 h2)))]
theorem cmp_lt : cmpV σ .Lt (.int x) (.int y) = some (.bool (decide (x < y))) := rfl
theorem cmp_le : cmpV σ .LtE (.int x) (.int y) = some (.bool (decide (x ≤ y))) := rfl
theorem cmp_gt : cmpV σ .Gt (.int x) (.int y) = some (.bool (decide (y < x))) := rfl
theorem cmp_ge : cmpV σ .GtE (.int x) (.int y) = some (.bool (decide (y ≤ x))) := rfl
theorem eq_ints : eqV σ (.int x) (.int y) = some (decide (x = y)) := by
  unfold eqV
  dsimp only
  rw [if_pos (⟨rfl, rfl⟩ : plain 8 (seen σ (V.int x)) = true ∧ plain 8 (seen σ (V.int y)) = true)]
  by_cases e : x = y
  · subst e
    simp
  · have e' : ¬ seen σ (V.int x) = seen σ (V.int y) := fun q => e (V.int.inj q)
    simp [e, e']
theorem cmp_eq : cmpV σ .Eq (.int x) (.int y) = some (.bool (decide (x = y))) := congrArg (Option.map V.bool) eq_ints
theorem cmp_ne : cmpV σ .NotEq (.int x) (.int y) = some (.bool (decide (x ≠ y))) := by
  have h : (!decide (x = y)) = decide (x ≠ y) := by by_cases e : x = y <;> simp [e]
  exact (congrArg (Option.map fun r => V.bool (!r)) eq_ints).trans (congrArg (fun b => some (V.bool b)) h)
theorem biV_max : biV σ .max2 [.int x, .int y] = some (.int (if x < y then y else x)) := rfl
theorem biV_min : biV σ .min2 [.int x, .int y] = some (.int (if y < x then y else x)) := rfl
theorem range_one {n : Nat} (h : x = (n : Int)) (h' : x < 1000000) : rangeOf [.int x] = some (0, n) := by
  have h0 : -1000000 < x := by omega
  have e : x.toNat = n := by omega
  clear h
  show (if -1000000 < x ∧ x < 1000000 then some ((0 : Int), x.toNat) else none) = _
  rw [if_pos ⟨h0, h'⟩, e]
theorem range_two {n : Nat} (h : y - x = (n : Int)) (h1 : -1000000 < x) (h2 : x < 1000000) (h3 : -1000000 < y) (h4 : y < 1000000) : rangeOf [.int x, .int y] = some (x, n) := by
  have e : (y - x).toNat = n := by omega
  clear h
  show (if (-1000000 < x ∧ x < 1000000) ∧ (-1000000 < y ∧ y < 1000000) then some (x, (y - x).toNat) else none) = _
  rw [if_pos ⟨⟨h1, h2⟩, h3, h4⟩, e]
variable {u v z : V} {r : List V}
theorem it_l0 : itemV σ (.lst (u :: r)) (.int 0) = some u := rfl
theorem it_l1 : itemV σ (.lst (u :: v :: r)) (.int 1) = some v := rfl
theorem it_l2 : itemV σ (.lst (u :: v :: z :: r)) (.int 2) = some z := rfl
theorem it_l3 {u' : V} : itemV σ (.lst (u :: v :: z :: u' :: r)) (.int 3) = some u' := rfl
theorem it_t0 : itemV σ (.tup (u :: r)) (.int 0) = some u := rfl
theorem it_t1 : itemV σ (.tup (u :: v :: r)) (.int 1) = some v := rfl
theorem it_t2 : itemV σ (.tup (u :: v :: z :: r)) (.int 2) = some z := rfl
theorem it_t3 {u' : V} : itemV σ (.tup (u :: v :: z :: u' :: r)) (.int 3) = some u' := rfl
end ops

-- the defs (printed by gen.py)
-- what the defs reckon
noncomputable def mixed (a m : Int) : Int := (a * 48271 + 12345) % 2147483647 % m
noncomputable def rateBy (a : Int) : Int :=
  if a % 5 = 0 then (if a / 5 % 4 = 0 then 0 else if a / 5 % 4 = 1 then 1 else if a / 5 % 4 = 2 then 99999 else 100000)
  else if a % 5 = 1 then a / 5 % 400 else mixed a 100001
noncomputable def cellAt (ns : List Int) (k : Nat) : Int := ns.getD k 0
noncomputable abbrev pairV (p : Int × Int) : V := .tup [.int p.1, .int p.2]
noncomputable abbrev rowV (l : List (Int × Int)) : List V := l.map pairV


/-- the program has this def under this number -/
noncomputable def Has (P : Prog) (n : Nat) (s : List Str) (k : Nat) (b : List MS) : Prop := ∃ a nm q, P.fns.lookup n = some { addr := a, name := nm, slots := s, nargs := k, body := b, quiet := q }
theorem fn_has {P : Prog} {n : Nat} {s : List Str} {k : Nat} {b : List MS} (h : Has P n s k b) (vs : List V) (σ : Store) : fn P n vs σ = callFn (pre P n) { addr := 0, name := "", slots := s, nargs := k, body := b } vs σ := by
  obtain ⟨a, nm, q, h⟩ := h
  rw [fn_def h]
  rfl
theorem callFn_ret {Φ : Fns} {a : Addr} {nm : Str} {s : List Str} {k : Nat} {b : List MS} {vs : List V} {σ σ' : Store} {v : V} (h : vs.length = k) (hr : execB Φ b (vs.map some ++ List.replicate (s.length - k) Option.none) σ = .ok (.ret v) σ') : callFn Φ { addr := a, name := nm, slots := s, nargs := k, body := b } vs σ = .ok v σ' := by
  simp only [callFn]
  rw [if_pos h, hr]
theorem callFn_next {Φ : Fns} {a : Addr} {nm : Str} {s : List Str} {k : Nat} {b : List MS} {vs : List V} {σ σ' : Store} {ρ : Loc} (h : vs.length = k) (hr : execB Φ b (vs.map some ++ List.replicate (s.length - k) Option.none) σ = .ok (.next ρ) σ') : callFn Φ { addr := a, name := nm, slots := s, nargs := k, body := b } vs σ = .ok .none σ' := by
  simp only [callFn]
  rw [if_pos h, hr]
theorem step {Φ : Fns} {s : MS} {r : List MS} {ρ ρ' : Loc} {σ σ' : Store} {x : SR} (h : execS Φ s ρ σ = .ok (.next ρ') σ') (k : execB Φ r ρ' σ' = x) : execB Φ (s :: r) ρ σ = x := by
  simp only [xb_0, xb_1, h, k]
theorem ex_range {Φ : Fns} {i : Nat} {args : List ME} {body : List MS} {ρ : Loc} {σ σ' : Store} {vs : List V} {a : Int} {n : Nat} {x : SR} (h : evalEs Φ ρ args σ = .ok vs σ') (hr : rangeOf vs = some (a, n)) (k : forR (execB Φ body) i n a ρ σ' = x) : execS Φ (.forRange i args body) ρ σ = x := by
  simp only [xs_expr, xs_append, xs_assign, xs_unpack, xs_setattr, xs_setitem, xs_unpackSub, xs_unpackL, xs_ite, xs_forIn, xs_forRange, xs_forTup, xs_while, xs_ret, xs_retNone, xs_brk, xs_cont, xs_pass, xs_raise, xs_try, xs_hand, h, R.on]
  rw [hr]
  exact k
theorem ex_for {Φ : Fns} {i : Nat} {e : ME} {body : List MS} {ρ : Loc} {σ σ' : Store} {v : V} {vs : List V} {x : SR} (h : evalE Φ ρ e σ = .ok v σ') (hr : listOf σ' v = some vs) (k : forL v vs (execB Φ body) i vs ρ σ' = x) : execS Φ (.forIn i e body) ρ σ = x := by
  simp only [xs_expr, xs_append, xs_assign, xs_unpack, xs_setattr, xs_setitem, xs_unpackSub, xs_unpackL, xs_ite, xs_forIn, xs_forRange, xs_forTup, xs_while, xs_ret, xs_retNone, xs_brk, xs_cont, xs_pass, xs_raise, xs_try, xs_hand, h, R.on]
  rw [hr]
  exact k
theorem ex_assign {Φ : Fns} {i : Nat} {e : ME} {ρ : Loc} {σ σ' : Store} {v : V} (h : evalE Φ ρ e σ = .ok v σ') : execS Φ (.assign i e) ρ σ = .ok (.next (ρ.set i (some v))) σ' := by
  simp only [xs_expr, xs_append, xs_assign, xs_unpack, xs_setattr, xs_setitem, xs_unpackSub, xs_unpackL, xs_ite, xs_forIn, xs_forRange, xs_forTup, xs_while, xs_ret, xs_retNone, xs_brk, xs_cont, xs_pass, xs_raise, xs_try, xs_hand, h, R.on]
theorem ex_ret {Φ : Fns} {e : ME} {r : List MS} {ρ : Loc} {σ σ' : Store} {v : V} (h : evalE Φ ρ e σ = .ok v σ') : execB Φ (.ret e :: r) ρ σ = .ok (.ret v) σ' := by
  simp only [xb_0, xb_1, xs_expr, xs_append, xs_assign, xs_unpack, xs_setattr, xs_setitem, xs_unpackSub, xs_unpackL, xs_ite, xs_forIn, xs_forRange, xs_forTup, xs_while, xs_ret, xs_retNone, xs_brk, xs_cont, xs_pass, xs_raise, xs_try, xs_hand, h, R.on]
theorem ex_ite {Φ : Fns} {c : ME} {a b : List MS} {ρ : Loc} {σ σ' : Store} {t : Bool} {x : SR} (h : evalE Φ ρ c σ = .ok (.bool t) σ') (k : execB Φ (if t then a else b) ρ σ' = x) : execS Φ (.ite c a b) ρ σ = x := by
  cases t <;> simpa [xs_expr, xs_append, xs_assign, xs_unpack, xs_setattr, xs_setitem, xs_unpackSub, xs_unpackL, xs_ite, xs_forIn, xs_forRange, xs_forTup, xs_while, xs_ret, xs_retNone, xs_brk, xs_cont, xs_pass, xs_raise, xs_try, xs_hand, h, R.on, truth] using k
theorem if_assign {Φ : Fns} {c e : ME} {i : Nat} {ρ : Loc} {σ : Store} {b : Bool} {v w : Int} (hc : evalE Φ ρ c σ = .ok (.bool b) σ) (he : evalE Φ ρ e σ = .ok (.int v) σ) (hw : ρ[i]? = some (some (.int w))) :
    execS Φ (.ite c [.assign i e] []) ρ σ = .ok (.next (ρ.set i (some (.int (if b then v else w))))) σ := by
  cases b with
  | true => simp [xs_expr, xs_append, xs_assign, xs_unpack, xs_setattr, xs_setitem, xs_unpackSub, xs_unpackL, xs_ite, xs_forIn, xs_forRange, xs_forTup, xs_while, xs_ret, xs_retNone, xs_brk, xs_cont, xs_pass, xs_raise, xs_try, xs_hand, xb_0, xb_1, hc, he, R.on, truth]
  | false =>
    simp [xs_expr, xs_append, xs_assign, xs_unpack, xs_setattr, xs_setitem, xs_unpackSub, xs_unpackL, xs_ite, xs_forIn, xs_forRange, xs_forTup, xs_while, xs_ret, xs_retNone, xs_brk, xs_cont, xs_pass, xs_raise, xs_try, xs_hand, xb_0, xb_1, hc, R.on, truth]
    obtain ⟨hlt, e⟩ := List.getElem?_eq_some_iff.mp hw
    rw [← e, List.set_getElem_self]
/-- the law helpers that every law has -/
structure Base (P : Prog) : Prop where
  cell : Has P 0 s_l_cell_at 2 b_l_cell_at
  mixed : Has P 2 s_l_mixed 2 b_l_mixed
  rate : Has P 3 s_l_rate_by 1 b_l_rate_by
  row : (P.fns.lookup 4).isSome = true → Has P 4 s_l_row_by 3 b_l_row_by
noncomputable def HasWhole (P : Prog) : Prop := Has P 1 s_l_whole 1 b_l_whole
section
variable {P : Prog}
theorem F_cell (HB : Base P) (ns : List Int) (k : Int) (hl : ns.length ≤ 63) (h0 : 0 ≤ k) (hk : k < 100) (σ : Store) : fn P 0 [.lst (ns.map .int), .int k] σ = .ok (.int (cellAt ns k.toNat)) σ := by
  rw [fn_has HB.cell]
  have h1 : (ns.map V.int).length ≤ 1000000 := by rw [List.length_map]; omega
  have h2 : k < 1000000 := by omega
  have e1 : seqOf σ (.lst (ns.map .int)) = some (ns.map .int) := rfl
  have e2 : biV σ .len [.lst (ns.map .int)] = some (.int (ns.length : Int)) := by
    simp only [biV, bi1, e1, Option.bind_some]
    rw [if_pos h1, List.length_map]
  by_cases h : k < (ns.length : Int)
  · have hh : k.toNat < ns.length := by omega
    have e3 : itemV σ (.lst (ns.map .int)) (.int k) = some (.int (cellAt ns k.toNat)) := by
      simp only [itemV, e1, Option.bind_some, V.asInt]
      rw [if_pos h0, if_pos h2]
      simp [cellAt, hh]
    simp [callFn, b_l_cell_at, s_l_cell_at, xb_0, xb_1, xs_expr, xs_append, xs_assign, xs_unpack, xs_setattr, xs_setitem, xs_unpackSub, xs_unpackL, xs_ite, xs_forIn, xs_forRange, xs_forTup, xs_while, xs_ret, xs_retNone, xs_brk, xs_cont, xs_pass, xs_raise, xs_try, xs_hand, ee_var, ee_cint, ee_cstr, ee_cnone, ee_cbool, ee_gint, ee_gstr, ee_bin, ee_neg, ee_not, ee_and, ee_or, ee_cmp, ee_cmp2, ee_call, ee_bi, ee_copy, ee_isi, ee_make, ee_meth, ee_attr, ee_idx, ee_sliceTo, ee_sliceFrom, ee_tup, ee_lst, ee_sumAt, ee_rev, ee_strMul, es_0, es_1, R.bind, R.got, R.on, R.son, ofOpt, cmp_lt, truth, e2, e3, h]
  · have hh : ¬ k.toNat < ns.length := by omega
    have e3 : cellAt ns k.toNat = 0 := by simp [cellAt, List.getElem?_eq_none (Nat.le_of_not_lt hh)]
    simp [callFn, b_l_cell_at, s_l_cell_at, xb_0, xb_1, xs_expr, xs_append, xs_assign, xs_unpack, xs_setattr, xs_setitem, xs_unpackSub, xs_unpackL, xs_ite, xs_forIn, xs_forRange, xs_forTup, xs_while, xs_ret, xs_retNone, xs_brk, xs_cont, xs_pass, xs_raise, xs_try, xs_hand, ee_var, ee_cint, ee_cstr, ee_cnone, ee_cbool, ee_gint, ee_gstr, ee_bin, ee_neg, ee_not, ee_and, ee_or, ee_cmp, ee_cmp2, ee_call, ee_bi, ee_copy, ee_isi, ee_make, ee_meth, ee_attr, ee_idx, ee_sliceTo, ee_sliceFrom, ee_tup, ee_lst, ee_sumAt, ee_rev, ee_strMul, es_0, es_1, R.bind, R.got, R.on, R.son, ofOpt, cmp_lt, truth, e2, h, e3]
theorem F_whole (HW : HasWhole P) (i : Int) (σ : Store) : fn P 1 [.int i] σ = .ok (.bool true) σ := by
  rw [fn_has HW]
  simp [callFn, b_l_whole, s_l_whole, xb_0, xb_1, xs_expr, xs_append, xs_assign, xs_unpack, xs_setattr, xs_setitem, xs_unpackSub, xs_unpackL, xs_ite, xs_forIn, xs_forRange, xs_forTup, xs_while, xs_ret, xs_retNone, xs_brk, xs_cont, xs_pass, xs_raise, xs_try, xs_hand, ee_var, ee_cint, ee_cstr, ee_cnone, ee_cbool, ee_gint, ee_gstr, ee_bin, ee_neg, ee_not, ee_and, ee_or, ee_cmp, ee_cmp2, ee_call, ee_bi, ee_copy, ee_isi, ee_make, ee_meth, ee_attr, ee_idx, ee_sliceTo, ee_sliceFrom, ee_tup, ee_lst, ee_sumAt, ee_rev, ee_strMul, es_0, es_1, ea_0, ea_1, R.bind, R.got, R.on, R.son, ofOpt, isiV, isI, isB, truth]
theorem F_mixed (HB : Base P) (a b : Int) (hb : 0 < b) (σ : Store) : fn P 2 [.int a, .int b] σ = .ok (.int (mixed a b)) σ := by
  rw [fn_has HB.mixed]
  simp [callFn, b_l_mixed, s_l_mixed, xb_0, xb_1, xs_expr, xs_append, xs_assign, xs_unpack, xs_setattr, xs_setitem, xs_unpackSub, xs_unpackL, xs_ite, xs_forIn, xs_forRange, xs_forTup, xs_while, xs_ret, xs_retNone, xs_brk, xs_cont, xs_pass, xs_raise, xs_try, xs_hand, ee_var, ee_cint, ee_cstr, ee_cnone, ee_cbool, ee_gint, ee_gstr, ee_bin, ee_neg, ee_not, ee_and, ee_or, ee_cmp, ee_cmp2, ee_call, ee_bi, ee_copy, ee_isi, ee_make, ee_meth, ee_attr, ee_idx, ee_sliceTo, ee_sliceFrom, ee_tup, ee_lst, ee_sumAt, ee_rev, ee_strMul, es_0, es_1, R.bind, R.got, R.on, R.son, ofOpt, bin_add, bin_mod, bin_mulr, hb, mixed]
theorem F_rate (HB : Base P) (a : Int) (σ : Store) : fn P 3 [.int a] σ = .ok (.int (rateBy a)) σ := by
  rw [fn_has HB.rate]
  by_cases h0 : a % 5 = 0
  · have h4 : a / 5 % 4 = 0 ∨ a / 5 % 4 = 1 ∨ a / 5 % 4 = 2 ∨ a / 5 % 4 = 3 := by omega
    rcases h4 with h4 | h4 | h4 | h4 <;>
    simp [callFn, b_l_rate_by, s_l_rate_by, xb_0, xb_1, xs_expr, xs_append, xs_assign, xs_unpack, xs_setattr, xs_setitem, xs_unpackSub, xs_unpackL, xs_ite, xs_forIn, xs_forRange, xs_forTup, xs_while, xs_ret, xs_retNone, xs_brk, xs_cont, xs_pass, xs_raise, xs_try, xs_hand, ee_var, ee_cint, ee_cstr, ee_cnone, ee_cbool, ee_gint, ee_gstr, ee_bin, ee_neg, ee_not, ee_and, ee_or, ee_cmp, ee_cmp2, ee_call, ee_bi, ee_copy, ee_isi, ee_make, ee_meth, ee_attr, ee_idx, ee_sliceTo, ee_sliceFrom, ee_tup, ee_lst, ee_sumAt, ee_rev, ee_strMul, es_0, es_1, R.bind, R.got, R.on, R.son, ofOpt, bin_div, bin_mod, cmp_eq, truth, h0, h4, rateBy, itemV, seqOf, listOf, V.asInt]
  · by_cases h1 : a % 5 = 1
    · simp [callFn, b_l_rate_by, s_l_rate_by, xb_0, xb_1, xs_expr, xs_append, xs_assign, xs_unpack, xs_setattr, xs_setitem, xs_unpackSub, xs_unpackL, xs_ite, xs_forIn, xs_forRange, xs_forTup, xs_while, xs_ret, xs_retNone, xs_brk, xs_cont, xs_pass, xs_raise, xs_try, xs_hand, ee_var, ee_cint, ee_cstr, ee_cnone, ee_cbool, ee_gint, ee_gstr, ee_bin, ee_neg, ee_not, ee_and, ee_or, ee_cmp, ee_cmp2, ee_call, ee_bi, ee_copy, ee_isi, ee_make, ee_meth, ee_attr, ee_idx, ee_sliceTo, ee_sliceFrom, ee_tup, ee_lst, ee_sumAt, ee_rev, ee_strMul, es_0, es_1, R.bind, R.got, R.on, R.son, ofOpt, bin_div, bin_mod, cmp_eq, truth, h0, h1, rateBy]
    · simp [callFn, b_l_rate_by, s_l_rate_by, xb_0, xb_1, xs_expr, xs_append, xs_assign, xs_unpack, xs_setattr, xs_setitem, xs_unpackSub, xs_unpackL, xs_ite, xs_forIn, xs_forRange, xs_forTup, xs_while, xs_ret, xs_retNone, xs_brk, xs_cont, xs_pass, xs_raise, xs_try, xs_hand, ee_var, ee_cint, ee_cstr, ee_cnone, ee_cbool, ee_gint, ee_gstr, ee_bin, ee_neg, ee_not, ee_and, ee_or, ee_cmp, ee_cmp2, ee_call, ee_bi, ee_copy, ee_isi, ee_make, ee_meth, ee_attr, ee_idx, ee_sliceTo, ee_sliceFrom, ee_tup, ee_lst, ee_sumAt, ee_rev, ee_strMul, es_0, es_1, R.bind, R.got, R.on, R.son, ofOpt, bin_div, bin_mod, cmp_eq, truth, h0, h1, rateBy, pre_fn, F_mixed HB]

noncomputable def rowD (cell wide : Int) : Nat → Int
  | 0 => 0
  | k + 1 => rowD cell wide k + 1 + mixed (cell + 13 * ((k : Int) + 1)) wide
noncomputable def rowR (cell : Int) : Nat → Int
  | 0 => rateBy cell
  | k + 1 => rateBy (cell / 7 + 31 * ((k : Int) + 1))
noncomputable def rowL (cell wide : Int) (n : Nat) : List (Int × Int) := (List.range (n + 1)).map fun k => (rowD cell wide k, rowR cell k)
theorem rowL_succ (cell wide : Int) (n : Nat) : rowL cell wide (n + 1) = rowL cell wide n ++ [(rowD cell wide (n + 1), rowR cell (n + 1))] := by
  simp [rowL, List.range_succ]
theorem rowL_len (cell wide : Int) (n : Nat) : (rowL cell wide n).length = n + 1 := by simp [rowL]
theorem rowL_get (cell wide : Int) {n k : Nat} (h : k ≤ n) : (rowL cell wide n)[k]? = some (rowD cell wide k, rowR cell k) := by
  simp [rowL, Nat.lt_succ_of_le h]

theorem st_get (σ : Store) (ob : Ob) : (σ ++ [ob])[σ.length]? = some ob := by simp
theorem st_set (σ : Store) (ob ob' : Ob) : (σ ++ [ob]).set σ.length ob' = σ ++ [ob'] := by simp
/-- an item of a row, by an index in it -/
theorem item_row {σ : Store} {v : V} {l : List (Int × Int)} {k : Int} {p : Int × Int} (hl : listOf σ v = some (rowV l)) (hv : ∀ vs, v ≠ .tup vs) (h0 : 0 ≤ k) (h1 : k < 1000000) (hp : l[k.toNat]? = some p) : itemV σ v (.int k) = some (pairV p) := by
  have e : seqOf σ v = some (rowV l) := by
    cases v with
    | tup vs => exact absurd rfl (hv vs)
    | _ => exact hl
  simp only [itemV, e, Option.bind_some, V.asInt]
  rw [if_pos h0, if_pos h1]
  simp [rowV, hp]
theorem item_last {σ : Store} {v : V} {l : List (Int × Int)} {p : Int × Int} (hl : listOf σ v = some (rowV (l ++ [p]))) (hv : ∀ vs, v ≠ .tup vs) : itemV σ v (.int (-1)) = some (pairV p) := by
  have e : seqOf σ v = some (rowV (l ++ [p])) := by
    cases v with
    | tup vs => exact absurd rfl (hv vs)
    | _ => exact hl
  simp only [itemV, e, Option.bind_some, V.asInt]
  rw [if_neg (by omega), if_pos ⟨by simp; omega, by omega⟩]
  have : (-1 + ((rowV (l ++ [p])).length : Int)).toNat = l.length := by simp; omega
  rw [this]
  simp [rowV]
theorem item_fst {σ : Store} {p : Int × Int} : itemV σ (pairV p) (.int 0) = some (.int p.1) := rfl
theorem item_snd {σ : Store} {p : Int × Int} : itemV σ (pairV p) (.int 1) = some (.int p.2) := rfl

theorem rowL_last (cell wide : Int) (j : Nat) : ∃ l, rowL cell wide j = l ++ [(rowD cell wide j, rowR cell j)] := by
  cases j with
  | zero => exact ⟨[], rfl⟩
  | succ j => exact ⟨_, rowL_succ cell wide j⟩
theorem turn_row (HB : Base P) (cell many wide : Int) (hw : 0 < wide) (j : Nat) (hj : j < 1000) (x5 : Option V) (σ : Store) :
    execB (pre P 4) bodyRow [some (.int cell), some (.int many), some (.int wide), some (.loc σ.length), some (.int ((j : Int) + 1)), x5] (σ ++ [.list (rowV (rowL cell wide j))]) =
      .ok (.next [some (.int cell), some (.int many), some (.int wide), some (.loc σ.length), some (.int ((j : Int) + 1)), some (.int (rowD cell wide (j + 1)))]) (σ ++ [.list (rowV (rowL cell wide (j + 1)))]) := by
  obtain ⟨l, hl⟩ := rowL_last cell wide j
  have e1 : listOf (σ ++ [.list (rowV (rowL cell wide j))]) (.loc σ.length) = some (rowV (l ++ [(rowD cell wide j, rowR cell j)])) := by
    simp only [listOf, st_get, hl]
  have e2 := item_last e1 (by intro vs h; cases h)
  have hm : ∀ σ', binV σ' .Mult (.int 13) (.int ((j : Int) + 1)) = some (.int (13 * ((j : Int) + 1))) := fun σ' => bin_mull (by decide) (by decide)
  have hm' : ∀ σ', binV σ' .Mult (.int 31) (.int ((j : Int) + 1)) = some (.int (31 * ((j : Int) + 1))) := fun σ' => bin_mull (by decide) (by decide)
  have hlen : (rowV (rowL cell wide j)).length < 1000000 := by simp [rowL_len]; omega
  have hd : rowD cell wide j + 1 + mixed (cell + 13 * ((j : Int) + 1)) wide = rowD cell wide (j + 1) := rfl
  have hr : rateBy (cell / 7 + 31 * ((j : Int) + 1)) = rowR cell (j + 1) := rfl
  simp only [bodyRow, xb_0, xb_1, xs_expr, xs_append, xs_assign, xs_unpack, xs_setattr, xs_setitem, xs_unpackSub, xs_unpackL, xs_ite, xs_forIn, xs_forRange, xs_forTup, xs_while, xs_ret, xs_retNone, xs_brk, xs_cont, xs_pass, xs_raise, xs_try, xs_hand, ee_var, ee_cint, ee_cstr, ee_cnone, ee_cbool, ee_gint, ee_gstr, ee_bin, ee_neg, ee_not, ee_and, ee_or, ee_cmp, ee_cmp2, ee_call, ee_bi, ee_copy, ee_isi, ee_make, ee_meth, ee_attr, ee_idx, ee_sliceTo, ee_sliceFrom, ee_tup, ee_lst, ee_sumAt, ee_rev, ee_strMul, es_0, es_1, R.bind, R.got, R.on, R.son, ofOpt, List.getElem?_cons_zero, List.getElem?_cons_succ, List.set_cons_zero, List.set_cons_succ, e2, item_fst, bin_add, bin_div (show (0 : Int) < 7 by decide), hm, hm', pre_fn (show 2 < 4 by decide), pre_fn (show 3 < 4 by decide), F_mixed HB _ _ hw, F_rate HB, hd, hr, st_get, st_set, if_pos hlen]
  rw [rowL_succ]
  simp [rowV]

theorem loop_row (HB : Base P) (cell many wide : Int) (hw : 0 < wide) (σ : Store) : ∀ (m j : Nat) (x4 x5 : Option V), j + m < 1000 →
    ∃ x4' x5', forR (execB (pre P 4) bodyRow) 4 m ((j : Int) + 1) [some (.int cell), some (.int many), some (.int wide), some (.loc σ.length), x4, x5] (σ ++ [.list (rowV (rowL cell wide j))]) =
      .ok (.next [some (.int cell), some (.int many), some (.int wide), some (.loc σ.length), x4', x5']) (σ ++ [.list (rowV (rowL cell wide (j + m)))])
  | 0, j, x4, x5, _ => ⟨x4, x5, rfl⟩
  | m + 1, j, x4, x5, h => by
    have t := turn_row HB cell many wide hw j (by omega) x5 σ
    obtain ⟨x4', x5', ih⟩ := loop_row HB cell many wide hw σ m (j + 1) (some (.int ((j : Int) + 1))) (some (.int (rowD cell wide (j + 1)))) (by omega)
    refine ⟨x4', x5', ?_⟩
    simp only [fr_0, fr_1, List.set_cons_zero, List.set_cons_succ]
    rw [t]
    have e : (((j + 1 : Nat) : Int) + 1) = (j : Int) + 1 + 1 := by push_cast; rfl
    have e' : j + 1 + m = j + (m + 1) := by omega
    rw [e, e'] at ih
    exact ih
theorem F_row (HB : Base P) (cell many wide : Int) (hw : 0 < wide) (hm : 1 ≤ many) (hm' : many ≤ 900) (σ : Store) (h4 : (P.fns.lookup 4).isSome = true) : fn P 4 [.int cell, .int many, .int wide] σ = .ok (.loc σ.length) (σ ++ [.list (rowV (rowL cell wide (many - 1).toNat))]) := by
  rw [fn_has (HB.row h4)]
  obtain ⟨x4', x5', hL⟩ := loop_row HB cell many wide hw σ (many - 1).toNat 0 none none (by omega)
  have e0 : rowV (rowL cell wide 0) = [.tup [.int 0, .int (rateBy cell)]] := rfl
  have e1 : ((0 : Nat) : Int) + 1 = 1 := rfl
  rw [e0, e1, Nat.zero_add] at hL
  have hr : rangeOf [.int 1, .int many] = some (1, (many - 1).toNat) := by
    exact range_two (by omega) (by omega) (by omega) (by omega) (by omega)
  have hb : b_l_row_by = [.assign 3 (.lst true [.tup [.cint 0, .call 3 [.var 0]]]), .forRange 4 [.cint 1, .var 1] bodyRow, .ret (.var 3)] := rfl
  generalize (many - 1).toNat = n at *
  simp [callFn, hb, s_l_row_by, xb_0, xb_1, xs_expr, xs_append, xs_assign, xs_unpack, xs_setattr, xs_setitem, xs_unpackSub, xs_unpackL, xs_ite, xs_forIn, xs_forRange, xs_forTup, xs_while, xs_ret, xs_retNone, xs_brk, xs_cont, xs_pass, xs_raise, xs_try, xs_hand, ee_var, ee_cint, ee_cstr, ee_cnone, ee_cbool, ee_gint, ee_gstr, ee_bin, ee_neg, ee_not, ee_and, ee_or, ee_cmp, ee_cmp2, ee_call, ee_bi, ee_copy, ee_isi, ee_make, ee_meth, ee_attr, ee_idx, ee_sliceTo, ee_sliceFrom, ee_tup, ee_lst, ee_sumAt, ee_rev, ee_strMul, es_0, es_1, R.bind, R.got, R.on, R.son, ofOpt, pre_fn, F_rate HB, hr, hL]

end
end Mine
set_option maxRecDepth 100000
set_option linter.unusedVariables false
set_option linter.unusedSimpArgs false
namespace Mine
open PySem

theorem step_no {Φ : Fns} {s : MS} {r : List MS} {ρ ρ' : Loc} {σ σ' : Store} {b : Bool} {k : Nat} (h : execS Φ s ρ σ = .exn b k ρ' σ') : execB Φ (s :: r) ρ σ = .exn b k ρ' σ' := by
  simp only [xb_0, xb_1, h]
theorem callFn_no {Φ : Fns} {a : Addr} {nm : Str} {s : List Str} {n : Nat} {b : List MS} {vs : List V} {σ σ' : Store} {m : Bool} {k : Nat} {ρ : Loc} (h : vs.length = n) (hr : execB Φ b (vs.map some ++ List.replicate (s.length - n) Option.none) σ = .exn m k ρ σ') : callFn Φ { addr := a, name := nm, slots := s, nargs := n, body := b } vs σ = .exn k σ' := by
  simp only [callFn]
  rw [if_pos h, hr]
theorem ex_expr {Φ : Fns} {e : ME} {ρ : Loc} {σ σ' : Store} {v : V} (h : evalE Φ ρ e σ = .ok v σ') : execS Φ (.expr e) ρ σ = .ok (.next ρ) σ' := by
  simp only [xs_expr, xs_append, xs_assign, xs_unpack, xs_setattr, xs_setitem, xs_unpackSub, xs_unpackL, xs_ite, xs_forIn, xs_forRange, xs_forTup, xs_while, xs_ret, xs_retNone, xs_brk, xs_cont, xs_pass, xs_raise, xs_try, xs_hand, h, R.on]
theorem ex_expr_no {Φ : Fns} {e : ME} {ρ : Loc} {σ σ' : Store} {k : Nat} (h : evalE Φ ρ e σ = .exn k σ') : execS Φ (.expr e) ρ σ = .exn false k ρ σ' := by
  simp only [xs_expr, xs_append, xs_assign, xs_unpack, xs_setattr, xs_setitem, xs_unpackSub, xs_unpackL, xs_ite, xs_forIn, xs_forRange, xs_forTup, xs_while, xs_ret, xs_retNone, xs_brk, xs_cont, xs_pass, xs_raise, xs_try, xs_hand, h, R.on]
theorem ret_step {Φ : Fns} {s : MS} {r : List MS} {ρ : Loc} {σ σ' : Store} {v : V} (h : execS Φ s ρ σ = .ok (.ret v) σ') : execB Φ (s :: r) ρ σ = .ok (.ret v) σ' := by
  simp only [xb_0, xb_1, h]
theorem list_app {σ : Store} {v : V} {vs : List V} (h : listOf σ v = some vs) (τ : Store) : listOf (σ ++ τ) v = some vs := by
  cases v with
  | lst us => exact h
  | loc i =>
    simp only [listOf] at h ⊢
    split at h
    · rename_i us e
      rw [List.getElem?_append_left (List.getElem?_eq_some_iff.mp e).1, e]; exact h
    · cases h
  | _ => cases h

theorem at_mid (σ : Store) (o : Ob) (τ : Store) : (σ ++ o :: τ)[σ.length]? = some o := by simp
theorem set_mid (σ : Store) (o o' : Ob) (τ : Store) : (σ ++ o :: τ).set σ.length o' = σ ++ o' :: τ := by simp
theorem ev_var {Φ : Fns} {ρ : Loc} {i : Nat} {v : V} {σ : Store} (h : ρ[i]? = some (some v)) : evalE Φ ρ (.var i) σ = .ok v σ := by simp only [ee_var, ee_cint, ee_cstr, ee_cnone, ee_cbool, ee_gint, ee_gstr, ee_bin, ee_neg, ee_not, ee_and, ee_or, ee_cmp, ee_cmp2, ee_call, ee_bi, ee_copy, ee_isi, ee_make, ee_meth, ee_attr, ee_idx, ee_sliceTo, ee_sliceFrom, ee_tup, ee_lst, ee_sumAt, ee_rev, ee_strMul, h]
theorem ev_int {Φ : Fns} {ρ : Loc} {k : Int} {σ : Store} : evalE Φ ρ (.cint k) σ = .ok (.int k) σ := by simp only [ee_var, ee_cint, ee_cstr, ee_cnone, ee_cbool, ee_gint, ee_gstr, ee_bin, ee_neg, ee_not, ee_and, ee_or, ee_cmp, ee_cmp2, ee_call, ee_bi, ee_copy, ee_isi, ee_make, ee_meth, ee_attr, ee_idx, ee_sliceTo, ee_sliceFrom, ee_tup, ee_lst, ee_sumAt, ee_rev, ee_strMul]
theorem ex_nil {Φ : Fns} {ρ : Loc} {σ : Store} : execB Φ [] ρ σ = .ok (.next ρ) σ := by simp only [xb_0, xb_1]
theorem ev_bin {Φ : Fns} {ρ : Loc} {op : Operator} {a b : ME} {σ σ₁ σ₂ : Store} {x y z : V} (ha : evalE Φ ρ a σ = .ok x σ₁) (hb : evalE Φ ρ b σ₁ = .ok y σ₂) (ho : binV σ₂ op x y = some z) : evalE Φ ρ (.bin op a b) σ = .ok z σ₂ := by
  simp only [ee_var, ee_cint, ee_cstr, ee_cnone, ee_cbool, ee_gint, ee_gstr, ee_bin, ee_neg, ee_not, ee_and, ee_or, ee_cmp, ee_cmp2, ee_call, ee_bi, ee_copy, ee_isi, ee_make, ee_meth, ee_attr, ee_idx, ee_sliceTo, ee_sliceFrom, ee_tup, ee_lst, ee_sumAt, ee_rev, ee_strMul, ha, hb, R.bind, ho, ofOpt]
theorem ev_idx {Φ : Fns} {ρ : Loc} {a i : ME} {σ σ₁ σ₂ : Store} {x y z : V} (ha : evalE Φ ρ a σ = .ok x σ₁) (hb : evalE Φ ρ i σ₁ = .ok y σ₂) (ho : itemV σ₂ x y = some z) : evalE Φ ρ (.idx a i) σ = .ok z σ₂ := by
  simp only [ee_var, ee_cint, ee_cstr, ee_cnone, ee_cbool, ee_gint, ee_gstr, ee_bin, ee_neg, ee_not, ee_and, ee_or, ee_cmp, ee_cmp2, ee_call, ee_bi, ee_copy, ee_isi, ee_make, ee_meth, ee_attr, ee_idx, ee_sliceTo, ee_sliceFrom, ee_tup, ee_lst, ee_sumAt, ee_rev, ee_strMul, ha, hb, R.bind, ho, ofOpt]
theorem ex_unpack {Φ : Fns} {is : List Nat} {e : ME} {ρ ρ' : Loc} {σ σ' : Store} {vs : List V} (h : evalE Φ ρ e σ = .ok (.tup vs) σ') (hs : setAll is vs ρ = some ρ') : execS Φ (.unpack is e) ρ σ = .ok (.next ρ') σ' := by
  simp only [xs_expr, xs_append, xs_assign, xs_unpack, xs_setattr, xs_setitem, xs_unpackSub, xs_unpackL, xs_ite, xs_forIn, xs_forRange, xs_forTup, xs_while, xs_ret, xs_retNone, xs_brk, xs_cont, xs_pass, xs_raise, xs_try, xs_hand, h, R.on, hs]
theorem evs_nil {Φ : Fns} {ρ : Loc} {σ : Store} : evalEs Φ ρ [] σ = .ok [] σ := by simp only [es_0, es_1]
theorem evs_cons {Φ : Fns} {ρ : Loc} {e : ME} {es : List ME} {σ σ₁ σ₂ : Store} {v : V} {vs : List V} (h1 : evalE Φ ρ e σ = .ok v σ₁) (h2 : evalEs Φ ρ es σ₁ = .ok vs σ₂) : evalEs Φ ρ (e :: es) σ = .ok (v :: vs) σ₂ := by
  simp only [es_0, es_1, h1, h2, R.bind]
theorem x_call {Φ : Fns} {ρ : Loc} {f : Nat} {args : List ME} {σ σ₁ : Store} {vs : List V} {r : R V} (ha : evalEs Φ ρ args σ = .ok vs σ₁) (hf : Φ.fn f vs σ₁ = r) : evalE Φ ρ (.call f args) σ = r := by
  simp only [ee_var, ee_cint, ee_cstr, ee_cnone, ee_cbool, ee_gint, ee_gstr, ee_bin, ee_neg, ee_not, ee_and, ee_or, ee_cmp, ee_cmp2, ee_call, ee_bi, ee_copy, ee_isi, ee_make, ee_meth, ee_attr, ee_idx, ee_sliceTo, ee_sliceFrom, ee_tup, ee_lst, ee_sumAt, ee_rev, ee_strMul, ha, R.bind]; exact hf

theorem ev_cmp {Φ : Fns} {ρ : Loc} {op : CmpOp} {a b : ME} {σ σ₁ σ₂ : Store} {x y z : V} (ha : evalE Φ ρ a σ = .ok x σ₁) (hb : evalE Φ ρ b σ₁ = .ok y σ₂) (ho : cmpV σ₂ op x y = some z) : evalE Φ ρ (.cmp op a b) σ = .ok z σ₂ := by
  simp only [ee_var, ee_cint, ee_cstr, ee_cnone, ee_cbool, ee_gint, ee_gstr, ee_bin, ee_neg, ee_not, ee_and, ee_or, ee_cmp, ee_cmp2, ee_call, ee_bi, ee_copy, ee_isi, ee_make, ee_meth, ee_attr, ee_idx, ee_sliceTo, ee_sliceFrom, ee_tup, ee_lst, ee_sumAt, ee_rev, ee_strMul, ha, hb, R.bind, ho, ofOpt]
section
variable {P : Prog}
end
end Mine
set_option maxRecDepth 100000
set_option linter.unusedVariables false
set_option linter.unusedSimpArgs false
namespace Mine
open PySem


/-- so many of the days behind s, up to e, are x or later -/
noncomputable def wd (s e x : Int) : Int := max 0 (e - max s (x - 1))
/-- the interest of the days behind s, up to e -/
noncomputable def gs (s e : Int) : List (Int × Int) → Int
  | [] => 0
  | [p] => wd s e p.1 * p.2
  | p :: q :: r => (wd s e p.1 - wd s e q.1) * p.2 + gs s e (q :: r)
noncomputable abbrev Asc (l : List (Int × Int)) : Prop := l.Pairwise fun p q => p.1 < q.1
noncomputable abbrev RateOk (l : List (Int × Int)) : Prop := ∀ p ∈ l, 0 ≤ p.2 ∧ p.2 ≤ 100000

theorem item_at {σ : Store} {src : V} {pre suf : List (Int × Int)} {p : Int × Int} (hs : listOf σ src = some (rowV (pre ++ p :: suf))) (hv : ∀ vs, src ≠ .tup vs) (hl : pre.length < 1000000) {k : Int} (hk : k = (pre.length : Int)) : itemV σ src (.int k) = some (pairV p) := by
  subst hk
  exact item_row hs hv (by omega) (by omega) (by simp)
theorem len_row {σ : Store} {src : V} {l : List (Int × Int)} (hs : listOf σ src = some (rowV l)) (hv : ∀ vs, src ≠ .tup vs) (hl : l.length ≤ 1000000) : biV σ .len [src] = some (.int (l.length : Int)) := by
  have e : seqOf σ src = some (rowV l) := by
    cases src with
    | tup vs => exact absurd rfl (hv vs)
    | _ => exact hs
  have h1 : (rowV l).length ≤ 1000000 := by rw [List.length_map]; exact hl
  simp only [biV, bi1, e, Option.bind_some]
  rw [if_pos h1, List.length_map]

theorem turn_grown_last (Φ : Fns) (src : V) (s e : Int) (σ : Store) (pre : List (Int × Int)) (p : Int × Int) (hs : listOf σ src = some (rowV (pre ++ [p]))) (hv : ∀ vs, src ≠ .tup vs) (hl : (pre ++ [p]).length ≤ 1000000) (hr : RateOk (pre ++ [p])) (t : Int) (x5 x6 : Option V) :
    ∃ x5' x6', execB Φ bodyGrown [some src, some (.int s), some (.int e), some (.int t), some (.int (pre.length : Int)), x5, x6] σ = .ok (.next [some src, some (.int s), some (.int e), some (.int (t + gs s e [p])), some (.int (pre.length : Int)), x5', x6']) σ := by
  have h1 : itemV σ src (.int (pre.length : Int)) = some (pairV p) := item_at hs hv (by simp at hl; omega) rfl
  have h2 := len_row hs hv hl
  have hp : 0 ≤ p.2 ∧ p.2 ≤ 100000 := hr p (by simp)
  have hlen : ((pre ++ [p]).length : Int) = (pre.length : Int) + 1 := by simp
  rw [hlen] at h2
  refine ⟨some (.int (if s + 1 < p.1 then p.1 else s + 1)), some (.int e), ?_⟩
  generalize (pre.length : Int) = k at *
  have hlt : ¬ k + 1 < k + 1 := by omega
  have hm : ∀ z, binV σ .Mult (.int z) (.int p.2) = some (.int (z * p.2)) := fun z => bin_mulr (by omega) (by omega)
  simp only [bodyGrown, xb_0, xb_1, xs_expr, xs_append, xs_assign, xs_unpack, xs_setattr, xs_setitem, xs_unpackSub, xs_unpackL, xs_ite, xs_forIn, xs_forRange, xs_forTup, xs_while, xs_ret, xs_retNone, xs_brk, xs_cont, xs_pass, xs_raise, xs_try, xs_hand, ee_var, ee_cint, ee_cstr, ee_cnone, ee_cbool, ee_gint, ee_gstr, ee_bin, ee_neg, ee_not, ee_and, ee_or, ee_cmp, ee_cmp2, ee_call, ee_bi, ee_copy, ee_isi, ee_make, ee_meth, ee_attr, ee_idx, ee_sliceTo, ee_sliceFrom, ee_tup, ee_lst, ee_sumAt, ee_rev, ee_strMul, es_0, es_1, R.bind, R.got, R.on, R.son, ofOpt, List.getElem?_cons_zero, List.getElem?_cons_succ, List.set_cons_zero, List.set_cons_succ, h1, h2, item_fst, item_snd, bin_add, bin_sub, biV_max, biV_min, cmp_lt, cmp_le, truth, decide_eq_false hlt, hm, gs, wd]
  by_cases hc : (if s + 1 < p.1 then p.1 else s + 1) ≤ e
  · rw [decide_eq_true hc]
    simp only [List.set_cons_zero, List.set_cons_succ]
    have : (e - (if s + 1 < p.1 then p.1 else s + 1) + 1) = max 0 (e - max s (p.1 - 1)) := by
      split at hc <;> split <;> omega
    rw [this]
  · rw [decide_eq_false hc]
    have : max 0 (e - max s (p.1 - 1)) = 0 := by
      split at hc <;> omega
    simp only [this, Int.zero_mul, Int.add_zero]
theorem turn_grown (Φ : Fns) (src : V) (s e : Int) (σ : Store) (pre suf : List (Int × Int)) (p q : Int × Int) (hs : listOf σ src = some (rowV (pre ++ p :: q :: suf))) (hv : ∀ vs, src ≠ .tup vs) (hl : (pre ++ p :: q :: suf).length ≤ 1000000) (hpq : p.1 < q.1) (hr : RateOk (pre ++ p :: q :: suf)) (t : Int) (x5 x6 : Option V) :
    ∃ x5' x6', execB Φ bodyGrown [some src, some (.int s), some (.int e), some (.int t), some (.int (pre.length : Int)), x5, x6] σ = .ok (.next [some src, some (.int s), some (.int e), some (.int (t + (wd s e p.1 - wd s e q.1) * p.2)), some (.int (pre.length : Int)), x5', x6']) σ := by
  have h1 : itemV σ src (.int (pre.length : Int)) = some (pairV p) := item_at hs hv (by simp at hl; omega) rfl
  have h1' : itemV σ src (.int ((pre.length : Int) + 1)) = some (pairV q) := item_at (pre := pre ++ [p]) (suf := suf) (by simpa using hs) hv (by simp at hl ⊢; omega) (by simp)
  have h2 := len_row hs hv hl
  have hp : 0 ≤ p.2 ∧ p.2 ≤ 100000 := hr p (by simp)
  have hlen : ((pre ++ p :: q :: suf).length : Int) = (pre.length : Int) + 2 + (suf.length : Int) := by simp; omega
  rw [hlen] at h2
  refine ⟨some (.int (if s + 1 < p.1 then p.1 else s + 1)), some (.int (if q.1 - 1 < e then q.1 - 1 else e)), ?_⟩
  have hlt : (pre.length : Int) + 1 < (pre.length : Int) + 2 + (suf.length : Int) := by omega
  generalize (pre.length : Int) = k at *
  have hm : ∀ z, binV σ .Mult (.int z) (.int p.2) = some (.int (z * p.2)) := fun z => bin_mulr (by omega) (by omega)
  simp only [bodyGrown, xb_0, xb_1, xs_expr, xs_append, xs_assign, xs_unpack, xs_setattr, xs_setitem, xs_unpackSub, xs_unpackL, xs_ite, xs_forIn, xs_forRange, xs_forTup, xs_while, xs_ret, xs_retNone, xs_brk, xs_cont, xs_pass, xs_raise, xs_try, xs_hand, ee_var, ee_cint, ee_cstr, ee_cnone, ee_cbool, ee_gint, ee_gstr, ee_bin, ee_neg, ee_not, ee_and, ee_or, ee_cmp, ee_cmp2, ee_call, ee_bi, ee_copy, ee_isi, ee_make, ee_meth, ee_attr, ee_idx, ee_sliceTo, ee_sliceFrom, ee_tup, ee_lst, ee_sumAt, ee_rev, ee_strMul, es_0, es_1, R.bind, R.got, R.on, R.son, ofOpt, List.getElem?_cons_zero, List.getElem?_cons_succ, List.set_cons_zero, List.set_cons_succ, h1, h1', h2, item_fst, item_snd, bin_add, bin_sub, biV_max, biV_min, cmp_lt, cmp_le, truth, decide_eq_true hlt, hm, wd]
  by_cases hc : (if s + 1 < p.1 then p.1 else s + 1) ≤ (if q.1 - 1 < e then q.1 - 1 else e)
  · rw [decide_eq_true hc]
    simp only [List.set_cons_zero, List.set_cons_succ]
    have : (if q.1 - 1 < e then q.1 - 1 else e) - (if s + 1 < p.1 then p.1 else s + 1) + 1 = max 0 (e - max s (p.1 - 1)) - max 0 (e - max s (q.1 - 1)) := by
      split at hc <;> split at hc <;> (repeat split) <;> omega
    rw [this]
  · rw [decide_eq_false hc]
    have : max 0 (e - max s (p.1 - 1)) - max 0 (e - max s (q.1 - 1)) = 0 := by
      split at hc <;> split at hc <;> omega
    simp only [this, Int.zero_mul, Int.add_zero]
theorem loop_grown (Φ : Fns) (src : V) (s e : Int) (σ : Store) (hv : ∀ vs, src ≠ .tup vs) : ∀ (suf pre : List (Int × Int)) (t : Int) (x4 x5 x6 : Option V), listOf σ src = some (rowV (pre ++ suf)) → (pre ++ suf).length ≤ 1000000 → Asc suf → RateOk (pre ++ suf) →
    ∃ x4' x5' x6', forR (execB Φ bodyGrown) 4 suf.length (pre.length : Int) [some src, some (.int s), some (.int e), some (.int t), x4, x5, x6] σ = .ok (.next [some src, some (.int s), some (.int e), some (.int (t + gs s e suf)), x4', x5', x6']) σ
  | [], pre, t, x4, x5, x6, _, _, _, _ => ⟨x4, x5, x6, by simp [fr_0, fr_1, gs]⟩
  | [p], pre, t, x4, x5, x6, hs, hl, ha, hr => by
    obtain ⟨x5', x6', h⟩ := turn_grown_last Φ src s e σ pre p hs hv hl hr t x5 x6
    refine ⟨some (.int (pre.length : Int)), x5', x6', ?_⟩
    simp only [List.length_cons, List.length_nil, fr_0, fr_1, List.set_cons_zero, List.set_cons_succ, h]
  | p :: q :: r, pre, t, x4, x5, x6, hs, hl, ha, hr => by
    have hpq : p.1 < q.1 := (List.pairwise_cons.mp ha).1 q (by simp)
    obtain ⟨x5', x6', h⟩ := turn_grown Φ src s e σ pre r p q hs hv hl hpq hr t x5 x6
    obtain ⟨y4, y5, y6, ih⟩ := loop_grown Φ src s e σ hv (q :: r) (pre ++ [p]) (t + (wd s e p.1 - wd s e q.1) * p.2) (some (.int (pre.length : Int))) x5' x6' (by simpa using hs) (by simpa using hl) (List.pairwise_cons.mp ha).2 (by simpa using hr)
    refine ⟨y4, y5, y6, ?_⟩
    have e1 : ((pre ++ [p]).length : Int) = (pre.length : Int) + 1 := by simp
    rw [e1] at ih
    rw [show (p :: q :: r).length = (q :: r).length + 1 from rfl, forR]
    simp only [List.set_cons_zero, List.set_cons_succ, h]
    rw [ih, gs, Int.add_assoc]
section
variable {P : Prog}
theorem F_grown (H : Has P 19 s_grown 3 b_grown) (src : V) (l : List (Int × Int)) (s e : Int) (σ : Store) (hs : listOf σ src = some (rowV l)) (hv : ∀ vs, src ≠ .tup vs) (hl : l.length ≤ 100000) (ha : Asc l) (hr : RateOk l) : fn P 19 [src, .int s, .int e] σ = .ok (.int (gs s e l)) σ := by
  rw [fn_has H]
  have hl6 : l.length ≤ 1000000 := by omega
  obtain ⟨x4', x5', x6', hL⟩ := loop_grown (pre P 19) src s e σ hv l [] 0 none none none hs hl6 ha hr
  have h2 := len_row hs hv hl6
  have hrg : rangeOf [.int (l.length : Int)] = some (0, l.length) := range_one rfl (by omega)
  rw [Int.zero_add] at hL
  have e0 : (([] : List (Int × Int)).length : Int) = 0 := rfl
  rw [e0] at hL
  refine callFn_ret rfl (step (ex_assign (v := .int 0) (σ' := σ) (by simp only [ee_var, ee_cint, ee_cstr, ee_cnone, ee_cbool, ee_gint, ee_gstr, ee_bin, ee_neg, ee_not, ee_and, ee_or, ee_cmp, ee_cmp2, ee_call, ee_bi, ee_copy, ee_isi, ee_make, ee_meth, ee_attr, ee_idx, ee_sliceTo, ee_sliceFrom, ee_tup, ee_lst, ee_sumAt, ee_rev, ee_strMul])) (step (ex_range (σ' := σ) (vs := [.int (l.length : Int)]) ?_ hrg hL) (ex_ret ?_)))
  · simp only [es_0, es_1, ee_var, ee_cint, ee_cstr, ee_cnone, ee_cbool, ee_gint, ee_gstr, ee_bin, ee_neg, ee_not, ee_and, ee_or, ee_cmp, ee_cmp2, ee_call, ee_bi, ee_copy, ee_isi, ee_make, ee_meth, ee_attr, ee_idx, ee_sliceTo, ee_sliceFrom, ee_tup, ee_lst, ee_sumAt, ee_rev, ee_strMul, R.bind, ofOpt, List.map_cons, List.cons_append, List.set_cons_succ, List.getElem?_cons_zero, h2]
  · simp only [ee_var, ee_cint, ee_cstr, ee_cnone, ee_cbool, ee_gint, ee_gstr, ee_bin, ee_neg, ee_not, ee_and, ee_or, ee_cmp, ee_cmp2, ee_call, ee_bi, ee_copy, ee_isi, ee_make, ee_meth, ee_attr, ee_idx, ee_sliceTo, ee_sliceFrom, ee_tup, ee_lst, ee_sumAt, ee_rev, ee_strMul, List.getElem?_cons_zero, List.getElem?_cons_succ]
end

theorem turn_sum (Φ : Fns) (src : V) (s e : Int) (σ : Store) (pre suf : List (Int × Int)) (p q : Int × Int) (hs : listOf σ src = some (rowV (pre ++ p :: q :: suf))) (hv : ∀ vs, src ≠ .tup vs) (hl : (pre ++ p :: q :: suf).length ≤ 1000000) (hr : RateOk (pre ++ p :: q :: suf)) (t : Int) (x5 : Option V) :
    ∃ x5', execB Φ bodySum [some src, some (.int s), some (.int e), some (.int t), some (.int ((pre.length : Int) + 1)), x5] σ = .ok (.next [some src, some (.int s), some (.int e), some (.int (t + (q.2 - p.2) * wd s e q.1)), some (.int ((pre.length : Int) + 1)), x5']) σ := by
  have h1 : itemV σ src (.int (pre.length : Int)) = some (pairV p) := item_at hs hv (by simp at hl; omega) rfl
  have h1' : itemV σ src (.int ((pre.length : Int) + 1)) = some (pairV q) := item_at (pre := pre ++ [p]) (suf := suf) (by simpa using hs) hv (by simp at hl ⊢; omega) (by simp)
  have hp : 0 ≤ p.2 ∧ p.2 ≤ 100000 := hr p (by simp)
  have hq : 0 ≤ q.2 ∧ q.2 ≤ 100000 := hr q (by simp)
  refine ⟨some (.int (e - (if s < q.1 - 1 then q.1 - 1 else s))), ?_⟩
  generalize (pre.length : Int) = k at *
  have hk : k + 1 - 1 = k := by omega
  have hm : ∀ z, binV σ .Mult (.int (q.2 - p.2)) (.int z) = some (.int ((q.2 - p.2) * z)) := fun z => bin_mull (by omega) (by omega)
  simp only [bodySum, xb_0, xb_1, xs_expr, xs_append, xs_assign, xs_unpack, xs_setattr, xs_setitem, xs_unpackSub, xs_unpackL, xs_ite, xs_forIn, xs_forRange, xs_forTup, xs_while, xs_ret, xs_retNone, xs_brk, xs_cont, xs_pass, xs_raise, xs_try, xs_hand, ee_var, ee_cint, ee_cstr, ee_cnone, ee_cbool, ee_gint, ee_gstr, ee_bin, ee_neg, ee_not, ee_and, ee_or, ee_cmp, ee_cmp2, ee_call, ee_bi, ee_copy, ee_isi, ee_make, ee_meth, ee_attr, ee_idx, ee_sliceTo, ee_sliceFrom, ee_tup, ee_lst, ee_sumAt, ee_rev, ee_strMul, es_0, es_1, R.bind, R.got, R.on, R.son, ofOpt, List.getElem?_cons_zero, List.getElem?_cons_succ, List.set_cons_zero, List.set_cons_succ, h1, h1', hk, item_fst, item_snd, bin_add, bin_sub, biV_max, cmp_gt, truth, hm, wd]
  by_cases hc : 0 < e - (if s < q.1 - 1 then q.1 - 1 else s)
  · rw [decide_eq_true hc]
    simp only [List.set_cons_zero, List.set_cons_succ]
    have : e - (if s < q.1 - 1 then q.1 - 1 else s) = max 0 (e - max s (q.1 - 1)) := by
      split at hc <;> split <;> omega
    rw [← this]
  · rw [decide_eq_false hc]
    have : max 0 (e - max s (q.1 - 1)) = 0 := by
      split at hc <;> omega
    simp only [this, Int.mul_zero, Int.add_zero]
theorem loop_sum (Φ : Fns) (src : V) (s e : Int) (σ : Store) (hv : ∀ vs, src ≠ .tup vs) : ∀ (suf pre : List (Int × Int)) (p : Int × Int) (t : Int) (x4 x5 : Option V), listOf σ src = some (rowV (pre ++ p :: suf)) → (pre ++ p :: suf).length ≤ 1000000 → RateOk (pre ++ p :: suf) →
    ∃ x4' x5', forR (execB Φ bodySum) 4 suf.length ((pre.length : Int) + 1) [some src, some (.int s), some (.int e), some (.int t), x4, x5] σ = .ok (.next [some src, some (.int s), some (.int e), some (.int (t - wd s e p.1 * p.2 + gs s e (p :: suf))), x4', x5']) σ
  | [], pre, p, t, x4, x5, _, _, _ => ⟨x4, x5, by
      have : t - wd s e p.1 * p.2 + gs s e [p] = t := by simp only [gs]; omega
      rw [this]; rfl⟩
  | q :: r, pre, p, t, x4, x5, hs, hl, hr => by
    obtain ⟨x5', h⟩ := turn_sum Φ src s e σ pre r p q hs hv hl hr t x5
    obtain ⟨y4, y5, ih⟩ := loop_sum Φ src s e σ hv r (pre ++ [p]) q (t + (q.2 - p.2) * wd s e q.1) (some (.int ((pre.length : Int) + 1))) x5' (by simpa using hs) (by simpa using hl) (by simpa using hr)
    refine ⟨y4, y5, ?_⟩
    have e1 : ((pre ++ [p]).length : Int) = (pre.length : Int) + 1 := by simp
    rw [e1] at ih
    rw [show (q :: r).length = r.length + 1 from rfl, forR]
    simp only [List.set_cons_zero, List.set_cons_succ, h]
    rw [ih, gs]
    have : t + (q.2 - p.2) * wd s e q.1 - wd s e q.1 * q.2 + gs s e (q :: r) = t - wd s e p.1 * p.2 + ((wd s e p.1 - wd s e q.1) * p.2 + gs s e (q :: r)) := by
      rw [Int.sub_mul, Int.sub_mul, Int.mul_comm q.2, Int.mul_comm p.2]; omega
    rw [this]
section
variable {P : Prog}
/-- the sum that the law reckons, of a row whose first day is 0 -/
theorem F_sum (H : Has P 6 s_l_sum_by 3 b_l_sum_by) (src : V) (r0 : Int) (l : List (Int × Int)) (s e : Int) (σ : Store) (hs : listOf σ src = some (rowV ((0, r0) :: l))) (hv : ∀ vs, src ≠ .tup vs) (hl : l.length ≤ 10000) (hr : RateOk ((0, r0) :: l)) (h0 : 0 ≤ s) (hse : s ≤ e) :
    fn P 6 [src, .int s, .int e] σ = .ok (.int (gs s e ((0, r0) :: l))) σ := by
  rw [fn_has H]
  have hb := hr (0, r0) (by simp)
  have hl6 : ((0, r0) :: l).length ≤ 1000000 := by rw [List.length_cons]; omega
  have hm : ∀ z, binV σ .Mult (.int r0) (.int z) = some (.int (r0 * z)) := fun z => bin_mull (by simp at hb; omega) (by simp at hb; omega)
  obtain ⟨x4', x5', hL⟩ := loop_sum (pre P 6) src s e σ hv l [] (0, r0) (r0 * (e - s)) none none hs hl6 hr
  have h1 : itemV σ src (.int 0) = some (pairV (0, r0)) := item_at (pre := []) hs hv (by simp) rfl
  have h2 := len_row hs hv hl6
  have hlen : (((0, r0) :: l).length : Int) = (l.length : Int) + 1 := by simp
  rw [hlen] at h2
  have hrg : rangeOf [.int 1, .int ((l.length : Int) + 1)] = some (1, l.length) := range_two (by omega) (by decide) (by decide) (by omega) (by omega)
  have e0 : (([] : List (Int × Int)).length : Int) + 1 = 1 := rfl
  rw [e0] at hL
  have hw : wd s e (0, r0).1 * (0, r0).2 = r0 * (e - s) := by
    have : wd s e 0 = e - s := by unfold wd; omega
    simp only [this]; exact Int.mul_comm _ _
  rw [hw, Int.sub_self, Int.zero_add] at hL
  refine callFn_ret rfl (step (ex_assign (σ' := σ) (v := .int (r0 * (e - s))) ?_) (step (ex_range (σ' := σ) (vs := [.int 1, .int ((l.length : Int) + 1)]) ?_ hrg hL) (ex_ret ?_)))
  · simp only [ee_var, ee_cint, ee_cstr, ee_cnone, ee_cbool, ee_gint, ee_gstr, ee_bin, ee_neg, ee_not, ee_and, ee_or, ee_cmp, ee_cmp2, ee_call, ee_bi, ee_copy, ee_isi, ee_make, ee_meth, ee_attr, ee_idx, ee_sliceTo, ee_sliceFrom, ee_tup, ee_lst, ee_sumAt, ee_rev, ee_strMul, R.bind, ofOpt, List.map_cons, List.cons_append, List.getElem?_cons_zero, List.getElem?_cons_succ, h1, item_snd, bin_sub, hm]
  · simp only [es_0, es_1, ee_var, ee_cint, ee_cstr, ee_cnone, ee_cbool, ee_gint, ee_gstr, ee_bin, ee_neg, ee_not, ee_and, ee_or, ee_cmp, ee_cmp2, ee_call, ee_bi, ee_copy, ee_isi, ee_make, ee_meth, ee_attr, ee_idx, ee_sliceTo, ee_sliceFrom, ee_tup, ee_lst, ee_sumAt, ee_rev, ee_strMul, R.bind, ofOpt, List.map_cons, List.cons_append, List.set_cons_succ, List.getElem?_cons_zero, h2]
  · simp only [ee_var, ee_cint, ee_cstr, ee_cnone, ee_cbool, ee_gint, ee_gstr, ee_bin, ee_neg, ee_not, ee_and, ee_or, ee_cmp, ee_cmp2, ee_call, ee_bi, ee_copy, ee_isi, ee_make, ee_meth, ee_attr, ee_idx, ee_sliceTo, ee_sliceFrom, ee_tup, ee_lst, ee_sumAt, ee_rev, ee_strMul, List.getElem?_cons_zero, List.getElem?_cons_succ]
end

-- the plain laws of the sums
theorem gs_same (s : Int) : ∀ l : List (Int × Int), gs s s l = 0
  | [] => rfl
  | [p] => by
    have : wd s s p.1 = 0 := by unfold wd; omega
    simp [gs, this]
  | p :: q :: r => by
    have hp : wd s s p.1 = 0 := by unfold wd; omega
    have hq : wd s s q.1 = 0 := by unfold wd; omega
    have h := gs_same s (q :: r)
    simp only [gs] at h ⊢
    rw [h, hp, hq]; simp
-- the row of a law
theorem mixed_nonneg (a m : Int) (hm : 0 < m) : 0 ≤ mixed a m := Int.emod_nonneg _ (by omega)
theorem mixed_lt (a m : Int) (hm : 0 < m) : mixed a m < m := Int.emod_lt_of_pos _ hm
theorem rateBy_ok (a : Int) : 0 ≤ rateBy a ∧ rateBy a ≤ 100000 := by
  unfold rateBy
  have := mixed_nonneg a 100001 (by decide)
  have := mixed_lt a 100001 (by decide)
  repeat' split
  all_goals omega
theorem rowL_rate (cell wide : Int) (n : Nat) : RateOk (rowL cell wide n) := by
  intro p hp
  simp only [rowL, List.mem_map, List.mem_range] at hp
  obtain ⟨k, _, rfl⟩ := hp
  cases k <;> exact rateBy_ok _
theorem rowD_lt (cell wide : Int) (hw : 0 < wide) (j k : Nat) (h : j < k) : rowD cell wide j < rowD cell wide k := by
  induction k with
  | zero => omega
  | succ k ih =>
    have := mixed_nonneg (cell + 13 * ((k : Int) + 1)) wide hw
    have e : rowD cell wide (k + 1) = rowD cell wide k + 1 + mixed (cell + 13 * ((k : Int) + 1)) wide := rfl
    by_cases hjk : j = k
    · subst hjk; omega
    · have := ih (by omega); omega
theorem rowL_asc (cell wide : Int) (hw : 0 < wide) (n : Nat) : Asc (rowL cell wide n) := by
  rw [Asc, rowL, List.pairwise_map]
  exact List.Pairwise.imp (fun h => rowD_lt cell wide hw _ _ h) List.pairwise_lt_range
theorem rowL_cons (cell wide : Int) (n : Nat) : ∃ r, rowL cell wide n = (0, rateBy cell) :: r ∧ r.length = n := by
  have h := rowL_get cell wide (Nat.zero_le n)
  have hl := rowL_len cell wide n
  cases hr : rowL cell wide n with
  | nil => rw [hr] at hl; simp at hl
  | cons p r =>
    rw [hr] at h hl
    simp at h hl
    exact ⟨r, by rw [h]; rfl, hl⟩
theorem rowD_le (cell wide : Int) (hw : 0 < wide) : ∀ k : Nat, rowD cell wide k ≤ (k : Int) * wide
  | 0 => by simp [rowD]
  | k + 1 => by
    have := rowD_le cell wide hw k
    have := mixed_lt (cell + 13 * ((k : Int) + 1)) wide hw
    have e : rowD cell wide (k + 1) = rowD cell wide k + 1 + mixed (cell + 13 * ((k : Int) + 1)) wide := rfl
    have e2 : (((k + 1 : Nat)) : Int) * wide = (k : Int) * wide + wide := by push_cast; rw [Int.add_mul, Int.one_mul]
    omega
theorem plain_row (l : List (Int × Int)) : plain 8 (.lst (rowV l)) = true := by
  simp [plain, rowV]
end Mine
set_option maxRecDepth 100000
set_option linter.unusedVariables false
set_option linter.unusedSimpArgs false
namespace Mine
open PySem


structure HasLoan (P : Prog) : Prop where
  rate : Has P 20 s_sure_rate 1 b_sure_rate
  rowDay : Has P 21 s_sure_row_day 2 b_sure_row_day
  checked : Has P 22 s_checked 1 b_checked
  grown : Has P 19 s_grown 3 b_grown
  init : Has P 23 s_Loan_init 3 b_Loan_init
  stand : Has P 24 s_Loan_stand 2 b_Loan_stand
  cls : ∃ C, P.classes = [(C, 23)]
  attrs : P.attrs = [(0, 0), (0, 1), (0, 2), (0, 3)]
  mstand : (0, 24) ∈ P.meths
structure HasPay (P : Prog) : Prop where
  owed : Has P 25 s_Loan_owed 2 b_Loan_owed
  pay : Has P 26 s_Loan_pay 3 b_Loan_pay
  change : Has P 27 s_Loan_change 3 b_Loan_change
  mowed : (0, 25) ∈ P.meths
  mpay : (0, 26) ∈ P.meths
  mchange : (0, 27) ∈ P.meths

section
variable {P : Prog}
theorem F_sure_rate (H : HasLoan P) (r : Int) (h0 : 0 ≤ r) (h1 : r ≤ 100000) (σ : Store) : fn P 20 [.int r] σ = .ok .none σ := by
  rw [fn_has H.rate]
  have e1 : ¬ r < 0 := by omega
  have e2 : ¬ 100000 < r := by omega
  refine callFn_next (ρ := [some (.int r)]) rfl (step (ρ' := [some (.int r)]) (σ' := σ) ?_ ?_)
  · refine ex_ite (σ' := σ) (t := false) ?_ ?_
    · simp only [xb_0, xb_1, xs_expr, xs_append, xs_assign, xs_unpack, xs_setattr, xs_setitem, xs_unpackSub, xs_unpackL, xs_ite, xs_forIn, xs_forRange, xs_forTup, xs_while, xs_ret, xs_retNone, xs_brk, xs_cont, xs_pass, xs_raise, xs_try, xs_hand, ee_var, ee_cint, ee_cstr, ee_cnone, ee_cbool, ee_gint, ee_gstr, ee_bin, ee_neg, ee_not, ee_and, ee_or, ee_cmp, ee_cmp2, ee_call, ee_bi, ee_copy, ee_isi, ee_make, ee_meth, ee_attr, ee_idx, ee_sliceTo, ee_sliceFrom, ee_tup, ee_lst, ee_sumAt, ee_rev, ee_strMul, es_0, es_1, ea_0, ea_1, eo_0, eo_1, R.bind, R.got, R.on, R.son, ofOpt, List.getElem?_cons_zero, List.getElem?_cons_succ, List.set_cons_zero, List.set_cons_succ, truth, bin_add, bin_sub, cmp_lt, cmp_le, cmp_gt, cmp_ge, cmp_eq, cmp_ne, biV_max, biV_min, it_t0, it_t1, it_t2, it_t3, it_l0, it_l1, it_l2, it_l3, Option.map_some, Bool.not_true, Bool.not_false, if_true, if_false, Bool.false_eq_true, decide_true, decide_false, reduceIte, List.map_cons, List.map_nil, s_sure_rate, List.cons_append, decide_eq_false e1, decide_eq_false e2]
    · simp only [xb_0, xb_1, xs_expr, xs_append, xs_assign, xs_unpack, xs_setattr, xs_setitem, xs_unpackSub, xs_unpackL, xs_ite, xs_forIn, xs_forRange, xs_forTup, xs_while, xs_ret, xs_retNone, xs_brk, xs_cont, xs_pass, xs_raise, xs_try, xs_hand, ee_var, ee_cint, ee_cstr, ee_cnone, ee_cbool, ee_gint, ee_gstr, ee_bin, ee_neg, ee_not, ee_and, ee_or, ee_cmp, ee_cmp2, ee_call, ee_bi, ee_copy, ee_isi, ee_make, ee_meth, ee_attr, ee_idx, ee_sliceTo, ee_sliceFrom, ee_tup, ee_lst, ee_sumAt, ee_rev, ee_strMul, es_0, es_1, ea_0, ea_1, eo_0, eo_1, R.bind, R.got, R.on, R.son, ofOpt, List.getElem?_cons_zero, List.getElem?_cons_succ, List.set_cons_zero, List.set_cons_succ, truth, bin_add, bin_sub, cmp_lt, cmp_le, cmp_gt, cmp_ge, cmp_eq, cmp_ne, biV_max, biV_min, it_t0, it_t1, it_t2, it_t3, it_l0, it_l1, it_l2, it_l3, Option.map_some, Bool.not_true, Bool.not_false, if_true, if_false, Bool.false_eq_true, decide_true, decide_false, reduceIte]; rfl
  · simp only [xb_0, xb_1]
theorem F_sure_row_day (H : HasLoan P) (d a : Int) (h0 : 0 ≤ d) (h1 : d ≤ 100000) (h2 : a < d) (h3 : a < 0 → d = 0) (σ : Store) : fn P 21 [.int d, .int a] σ = .ok .none σ := by
  rw [fn_has H.rowDay]
  have e1 : ¬ d < 0 := by omega
  have e2 : ¬ 100000 < d := by omega
  have e3 : ¬ d ≤ a := by omega
  refine callFn_next (ρ := [some (.int d), some (.int a)]) rfl (step (ρ' := [some (.int d), some (.int a)]) (σ' := σ) ?_ (step (ρ' := [some (.int d), some (.int a)]) (σ' := σ) ?_ ?_))
  · refine ex_ite (σ' := σ) (t := false) ?_ ?_
    · simp only [xb_0, xb_1, xs_expr, xs_append, xs_assign, xs_unpack, xs_setattr, xs_setitem, xs_unpackSub, xs_unpackL, xs_ite, xs_forIn, xs_forRange, xs_forTup, xs_while, xs_ret, xs_retNone, xs_brk, xs_cont, xs_pass, xs_raise, xs_try, xs_hand, ee_var, ee_cint, ee_cstr, ee_cnone, ee_cbool, ee_gint, ee_gstr, ee_bin, ee_neg, ee_not, ee_and, ee_or, ee_cmp, ee_cmp2, ee_call, ee_bi, ee_copy, ee_isi, ee_make, ee_meth, ee_attr, ee_idx, ee_sliceTo, ee_sliceFrom, ee_tup, ee_lst, ee_sumAt, ee_rev, ee_strMul, es_0, es_1, ea_0, ea_1, eo_0, eo_1, R.bind, R.got, R.on, R.son, ofOpt, List.getElem?_cons_zero, List.getElem?_cons_succ, List.set_cons_zero, List.set_cons_succ, truth, bin_add, bin_sub, cmp_lt, cmp_le, cmp_gt, cmp_ge, cmp_eq, cmp_ne, biV_max, biV_min, it_t0, it_t1, it_t2, it_t3, it_l0, it_l1, it_l2, it_l3, Option.map_some, Bool.not_true, Bool.not_false, if_true, if_false, Bool.false_eq_true, decide_true, decide_false, reduceIte, List.map_cons, List.map_nil, s_sure_row_day, List.cons_append, decide_eq_false e1, decide_eq_false e2, decide_eq_false e3]
    · simp only [xb_0, xb_1, xs_expr, xs_append, xs_assign, xs_unpack, xs_setattr, xs_setitem, xs_unpackSub, xs_unpackL, xs_ite, xs_forIn, xs_forRange, xs_forTup, xs_while, xs_ret, xs_retNone, xs_brk, xs_cont, xs_pass, xs_raise, xs_try, xs_hand, ee_var, ee_cint, ee_cstr, ee_cnone, ee_cbool, ee_gint, ee_gstr, ee_bin, ee_neg, ee_not, ee_and, ee_or, ee_cmp, ee_cmp2, ee_call, ee_bi, ee_copy, ee_isi, ee_make, ee_meth, ee_attr, ee_idx, ee_sliceTo, ee_sliceFrom, ee_tup, ee_lst, ee_sumAt, ee_rev, ee_strMul, es_0, es_1, ea_0, ea_1, eo_0, eo_1, R.bind, R.got, R.on, R.son, ofOpt, List.getElem?_cons_zero, List.getElem?_cons_succ, List.set_cons_zero, List.set_cons_succ, truth, bin_add, bin_sub, cmp_lt, cmp_le, cmp_gt, cmp_ge, cmp_eq, cmp_ne, biV_max, biV_min, it_t0, it_t1, it_t2, it_t3, it_l0, it_l1, it_l2, it_l3, Option.map_some, Bool.not_true, Bool.not_false, if_true, if_false, Bool.false_eq_true, decide_true, decide_false, reduceIte]; rfl
  · refine ex_ite (σ' := σ) (t := false) ?_ ?_
    · by_cases h4 : a < 0
      · have e4 : ¬ 0 < d := by omega
        simp only [xb_0, xb_1, xs_expr, xs_append, xs_assign, xs_unpack, xs_setattr, xs_setitem, xs_unpackSub, xs_unpackL, xs_ite, xs_forIn, xs_forRange, xs_forTup, xs_while, xs_ret, xs_retNone, xs_brk, xs_cont, xs_pass, xs_raise, xs_try, xs_hand, ee_var, ee_cint, ee_cstr, ee_cnone, ee_cbool, ee_gint, ee_gstr, ee_bin, ee_neg, ee_not, ee_and, ee_or, ee_cmp, ee_cmp2, ee_call, ee_bi, ee_copy, ee_isi, ee_make, ee_meth, ee_attr, ee_idx, ee_sliceTo, ee_sliceFrom, ee_tup, ee_lst, ee_sumAt, ee_rev, ee_strMul, es_0, es_1, ea_0, ea_1, eo_0, eo_1, R.bind, R.got, R.on, R.son, ofOpt, List.getElem?_cons_zero, List.getElem?_cons_succ, List.set_cons_zero, List.set_cons_succ, truth, bin_add, bin_sub, cmp_lt, cmp_le, cmp_gt, cmp_ge, cmp_eq, cmp_ne, biV_max, biV_min, it_t0, it_t1, it_t2, it_t3, it_l0, it_l1, it_l2, it_l3, Option.map_some, Bool.not_true, Bool.not_false, if_true, if_false, Bool.false_eq_true, decide_true, decide_false, reduceIte, decide_eq_true h4, decide_eq_false e4]
      · simp only [xb_0, xb_1, xs_expr, xs_append, xs_assign, xs_unpack, xs_setattr, xs_setitem, xs_unpackSub, xs_unpackL, xs_ite, xs_forIn, xs_forRange, xs_forTup, xs_while, xs_ret, xs_retNone, xs_brk, xs_cont, xs_pass, xs_raise, xs_try, xs_hand, ee_var, ee_cint, ee_cstr, ee_cnone, ee_cbool, ee_gint, ee_gstr, ee_bin, ee_neg, ee_not, ee_and, ee_or, ee_cmp, ee_cmp2, ee_call, ee_bi, ee_copy, ee_isi, ee_make, ee_meth, ee_attr, ee_idx, ee_sliceTo, ee_sliceFrom, ee_tup, ee_lst, ee_sumAt, ee_rev, ee_strMul, es_0, es_1, ea_0, ea_1, eo_0, eo_1, R.bind, R.got, R.on, R.son, ofOpt, List.getElem?_cons_zero, List.getElem?_cons_succ, List.set_cons_zero, List.set_cons_succ, truth, bin_add, bin_sub, cmp_lt, cmp_le, cmp_gt, cmp_ge, cmp_eq, cmp_ne, biV_max, biV_min, it_t0, it_t1, it_t2, it_t3, it_l0, it_l1, it_l2, it_l3, Option.map_some, Bool.not_true, Bool.not_false, if_true, if_false, Bool.false_eq_true, decide_true, decide_false, reduceIte, decide_eq_false h4]
    · simp only [xb_0, xb_1, xs_expr, xs_append, xs_assign, xs_unpack, xs_setattr, xs_setitem, xs_unpackSub, xs_unpackL, xs_ite, xs_forIn, xs_forRange, xs_forTup, xs_while, xs_ret, xs_retNone, xs_brk, xs_cont, xs_pass, xs_raise, xs_try, xs_hand, ee_var, ee_cint, ee_cstr, ee_cnone, ee_cbool, ee_gint, ee_gstr, ee_bin, ee_neg, ee_not, ee_and, ee_or, ee_cmp, ee_cmp2, ee_call, ee_bi, ee_copy, ee_isi, ee_make, ee_meth, ee_attr, ee_idx, ee_sliceTo, ee_sliceFrom, ee_tup, ee_lst, ee_sumAt, ee_rev, ee_strMul, es_0, es_1, ea_0, ea_1, eo_0, eo_1, R.bind, R.got, R.on, R.son, ofOpt, List.getElem?_cons_zero, List.getElem?_cons_succ, List.set_cons_zero, List.set_cons_succ, truth, bin_add, bin_sub, cmp_lt, cmp_le, cmp_gt, cmp_ge, cmp_eq, cmp_ne, biV_max, biV_min, it_t0, it_t1, it_t2, it_t3, it_l0, it_l1, it_l2, it_l3, Option.map_some, Bool.not_true, Bool.not_false, if_true, if_false, Bool.false_eq_true, decide_true, decide_false, reduceIte]
  · simp only [xb_0, xb_1]

/-- a row of rates that a loan takes: a: the day ahead of it -/
noncomputable def RowOk : Int → List (Int × Int) → Prop
  | _, [] => True
  | a, p :: r => 0 ≤ p.1 ∧ p.1 ≤ 100000 ∧ a < p.1 ∧ (a < 0 → p.1 = 0) ∧ 0 ≤ p.2 ∧ p.2 ≤ 100000 ∧ RowOk p.1 r
theorem loop_checked (H : HasLoan P) (src : V) (all : List V) (σ : Store) : ∀ (l done : List (Int × Int)) (a : Int) (x3 : Option V), RowOk a l → done.length + l.length < 100000 → (∀ o, listOf (σ ++ [o]) src = some all) →
    ∃ x1' x3', forL src all (execB (pre P 22) bodyChecked) 3 (rowV l) [some src, some (.int a), some (.loc σ.length), x3] (σ ++ [.list (rowV done)]) = .ok (.next [some src, x1', some (.loc σ.length), x3']) (σ ++ [.list (rowV (done ++ l))])
  | [], done, a, x3, _, _, _ => ⟨some (.int a), x3, by simp [rowV, fl_0, fl_1]⟩
  | p :: l, done, a, x3, hr, hl, hs => by
    obtain ⟨h1, h2, h3, h4, h5, h6, h7⟩ := hr
    obtain ⟨x1', x3', ih⟩ := loop_checked H src all σ l (done ++ [p]) p.1 (some (pairV p)) h7 (by simp at hl ⊢; omega) hs
    refine ⟨x1', x3', ?_⟩
    have hlen : (rowV done).length < 1000000 := by rw [List.length_map]; simp only [List.length_cons] at hl; omega
    have t : execB (pre P 22) bodyChecked [some src, some (.int a), some (.loc σ.length), some (pairV p)] (σ ++ [.list (rowV done)]) = .ok (.next [some src, some (.int p.1), some (.loc σ.length), some (pairV p)]) (σ ++ [.list (rowV (done ++ [p]))]) := by
      simp only [bodyChecked, xb_0, xb_1, xs_expr, xs_append, xs_assign, xs_unpack, xs_setattr, xs_setitem, xs_unpackSub, xs_unpackL, xs_ite, xs_forIn, xs_forRange, xs_forTup, xs_while, xs_ret, xs_retNone, xs_brk, xs_cont, xs_pass, xs_raise, xs_try, xs_hand, ee_var, ee_cint, ee_cstr, ee_cnone, ee_cbool, ee_gint, ee_gstr, ee_bin, ee_neg, ee_not, ee_and, ee_or, ee_cmp, ee_cmp2, ee_call, ee_bi, ee_copy, ee_isi, ee_make, ee_meth, ee_attr, ee_idx, ee_sliceTo, ee_sliceFrom, ee_tup, ee_lst, ee_sumAt, ee_rev, ee_strMul, es_0, es_1, ea_0, ea_1, eo_0, eo_1, R.bind, R.got, R.on, R.son, ofOpt, List.getElem?_cons_zero, List.getElem?_cons_succ, List.set_cons_zero, List.set_cons_succ, truth, bin_add, bin_sub, cmp_lt, cmp_le, cmp_gt, cmp_ge, cmp_eq, cmp_ne, biV_max, biV_min, it_t0, it_t1, it_t2, it_t3, it_l0, it_l1, it_l2, it_l3, Option.map_some, Bool.not_true, Bool.not_false, if_true, if_false, Bool.false_eq_true, decide_true, decide_false, reduceIte, item_fst, item_snd, pre_fn (show 21 < 22 by decide), pre_fn (show 20 < 22 by decide), F_sure_row_day H p.1 a h1 h2 h3 h4, F_sure_rate H p.2 h5 h6, st_get, if_pos hlen, st_set]
      simp [rowV]
    simp only [rowV, List.map_cons, fl_0, fl_1, List.set_cons_zero, List.set_cons_succ]
    simp only [rowV] at t ih
    rw [t]
    simp only [hs, if_true]
    rw [ih]
    simp
theorem listOf_app {σ : Store} {v : V} {vs : List V} (h : listOf σ v = some vs) (o : Ob) : listOf (σ ++ [o]) v = some vs := by
  cases v with
  | lst us => exact h
  | loc i =>
    simp only [listOf] at h ⊢
    split at h
    · rename_i us e
      rw [List.getElem?_append_left (List.getElem?_eq_some_iff.mp e).1, e]; exact h
    · cases h
  | _ => cases h
theorem F_checked (H : HasLoan P) (src : V) (row : List (Int × Int)) (σ : Store) (hs : listOf σ src = some (rowV row)) (hv : ∀ vs, src ≠ .tup vs) (hr : RowOk (-1) row) (hl : row.length < 100000) (hne : 0 < row.length) : fn P 22 [src] σ = .ok (.loc σ.length) (σ ++ [.list (rowV row)]) := by
  rw [fn_has H.checked]
  have h2 := len_row hs hv (show row.length ≤ 1000000 by omega)
  obtain ⟨x1', x3', hL⟩ := loop_checked H src (rowV row) σ row [] (-1) none hr (by simpa using hl) (fun o => listOf_app hs o)
  have hz : ¬ (row.length : Int) = 0 := by omega
  rw [List.nil_append] at hL
  have hb : b_checked = [.ite (.cmp .Eq (.bi .len [.var 0]) (.cint 0)) [.raise "BadDay" 3 "no rates"] [], .assign 1 (.neg (.cint 1)), .assign 2 (.lst true []), .forIn 3 (.var 0) bodyChecked, .ret (.var 2)] := rfl
  rw [hb]
  have h0 : rowV [] = [] := rfl
  rw [h0] at hL
  refine callFn_ret rfl (step (ρ' := [some src, none, none, none]) (σ' := σ) (ex_ite (σ' := σ) (t := false) ?_ ?_) (step (ρ' := [some src, some (.int (-1)), none, none]) (σ' := σ) ?_ (step (ρ' := [some src, some (.int (-1)), some (.loc σ.length), none]) (σ' := σ ++ [Ob.list []]) ?_ (step (ex_for (σ' := σ ++ [Ob.list []]) (v := src) (vs := rowV row) ?_ (listOf_app hs (Ob.list [])) hL) (ex_ret ?_)))))
  · simp only [xb_0, xb_1, xs_expr, xs_append, xs_assign, xs_unpack, xs_setattr, xs_setitem, xs_unpackSub, xs_unpackL, xs_ite, xs_forIn, xs_forRange, xs_forTup, xs_while, xs_ret, xs_retNone, xs_brk, xs_cont, xs_pass, xs_raise, xs_try, xs_hand, ee_var, ee_cint, ee_cstr, ee_cnone, ee_cbool, ee_gint, ee_gstr, ee_bin, ee_neg, ee_not, ee_and, ee_or, ee_cmp, ee_cmp2, ee_call, ee_bi, ee_copy, ee_isi, ee_make, ee_meth, ee_attr, ee_idx, ee_sliceTo, ee_sliceFrom, ee_tup, ee_lst, ee_sumAt, ee_rev, ee_strMul, es_0, es_1, ea_0, ea_1, eo_0, eo_1, R.bind, R.got, R.on, R.son, ofOpt, List.getElem?_cons_zero, List.getElem?_cons_succ, List.set_cons_zero, List.set_cons_succ, truth, bin_add, bin_sub, cmp_lt, cmp_le, cmp_gt, cmp_ge, cmp_eq, cmp_ne, biV_max, biV_min, it_t0, it_t1, it_t2, it_t3, it_l0, it_l1, it_l2, it_l3, Option.map_some, Bool.not_true, Bool.not_false, if_true, if_false, Bool.false_eq_true, decide_true, decide_false, reduceIte, List.map_cons, List.map_nil, List.cons_append, h2, decide_eq_false hz]
  · simp only [xb_0, xb_1, xs_expr, xs_append, xs_assign, xs_unpack, xs_setattr, xs_setitem, xs_unpackSub, xs_unpackL, xs_ite, xs_forIn, xs_forRange, xs_forTup, xs_while, xs_ret, xs_retNone, xs_brk, xs_cont, xs_pass, xs_raise, xs_try, xs_hand, ee_var, ee_cint, ee_cstr, ee_cnone, ee_cbool, ee_gint, ee_gstr, ee_bin, ee_neg, ee_not, ee_and, ee_or, ee_cmp, ee_cmp2, ee_call, ee_bi, ee_copy, ee_isi, ee_make, ee_meth, ee_attr, ee_idx, ee_sliceTo, ee_sliceFrom, ee_tup, ee_lst, ee_sumAt, ee_rev, ee_strMul, es_0, es_1, ea_0, ea_1, eo_0, eo_1, R.bind, R.got, R.on, R.son, ofOpt, List.getElem?_cons_zero, List.getElem?_cons_succ, List.set_cons_zero, List.set_cons_succ, truth, bin_add, bin_sub, cmp_lt, cmp_le, cmp_gt, cmp_ge, cmp_eq, cmp_ne, biV_max, biV_min, it_t0, it_t1, it_t2, it_t3, it_l0, it_l1, it_l2, it_l3, Option.map_some, Bool.not_true, Bool.not_false, if_true, if_false, Bool.false_eq_true, decide_true, decide_false, reduceIte]; rfl
  · simp only [xb_0, xb_1, xs_expr, xs_append, xs_assign, xs_unpack, xs_setattr, xs_setitem, xs_unpackSub, xs_unpackL, xs_ite, xs_forIn, xs_forRange, xs_forTup, xs_while, xs_ret, xs_retNone, xs_brk, xs_cont, xs_pass, xs_raise, xs_try, xs_hand, ee_var, ee_cint, ee_cstr, ee_cnone, ee_cbool, ee_gint, ee_gstr, ee_bin, ee_neg, ee_not, ee_and, ee_or, ee_cmp, ee_cmp2, ee_call, ee_bi, ee_copy, ee_isi, ee_make, ee_meth, ee_attr, ee_idx, ee_sliceTo, ee_sliceFrom, ee_tup, ee_lst, ee_sumAt, ee_rev, ee_strMul, es_0, es_1, ea_0, ea_1, eo_0, eo_1, R.bind, R.got, R.on, R.son, ofOpt, List.getElem?_cons_zero, List.getElem?_cons_succ, List.set_cons_zero, List.set_cons_succ, truth, bin_add, bin_sub, cmp_lt, cmp_le, cmp_gt, cmp_ge, cmp_eq, cmp_ne, biV_max, biV_min, it_t0, it_t1, it_t2, it_t3, it_l0, it_l1, it_l2, it_l3, Option.map_some, Bool.not_true, Bool.not_false, if_true, if_false, Bool.false_eq_true, decide_true, decide_false, reduceIte]
  · simp only [xb_0, xb_1, xs_expr, xs_append, xs_assign, xs_unpack, xs_setattr, xs_setitem, xs_unpackSub, xs_unpackL, xs_ite, xs_forIn, xs_forRange, xs_forTup, xs_while, xs_ret, xs_retNone, xs_brk, xs_cont, xs_pass, xs_raise, xs_try, xs_hand, ee_var, ee_cint, ee_cstr, ee_cnone, ee_cbool, ee_gint, ee_gstr, ee_bin, ee_neg, ee_not, ee_and, ee_or, ee_cmp, ee_cmp2, ee_call, ee_bi, ee_copy, ee_isi, ee_make, ee_meth, ee_attr, ee_idx, ee_sliceTo, ee_sliceFrom, ee_tup, ee_lst, ee_sumAt, ee_rev, ee_strMul, es_0, es_1, ea_0, ea_1, eo_0, eo_1, R.bind, R.got, R.on, R.son, ofOpt, List.getElem?_cons_zero, List.getElem?_cons_succ, List.set_cons_zero, List.set_cons_succ, truth, bin_add, bin_sub, cmp_lt, cmp_le, cmp_gt, cmp_ge, cmp_eq, cmp_ne, biV_max, biV_min, it_t0, it_t1, it_t2, it_t3, it_l0, it_l1, it_l2, it_l3, Option.map_some, Bool.not_true, Bool.not_false, if_true, if_false, Bool.false_eq_true, decide_true, decide_false, reduceIte]
  · simp only [xb_0, xb_1, xs_expr, xs_append, xs_assign, xs_unpack, xs_setattr, xs_setitem, xs_unpackSub, xs_unpackL, xs_ite, xs_forIn, xs_forRange, xs_forTup, xs_while, xs_ret, xs_retNone, xs_brk, xs_cont, xs_pass, xs_raise, xs_try, xs_hand, ee_var, ee_cint, ee_cstr, ee_cnone, ee_cbool, ee_gint, ee_gstr, ee_bin, ee_neg, ee_not, ee_and, ee_or, ee_cmp, ee_cmp2, ee_call, ee_bi, ee_copy, ee_isi, ee_make, ee_meth, ee_attr, ee_idx, ee_sliceTo, ee_sliceFrom, ee_tup, ee_lst, ee_sumAt, ee_rev, ee_strMul, es_0, es_1, ea_0, ea_1, eo_0, eo_1, R.bind, R.got, R.on, R.son, ofOpt, List.getElem?_cons_zero, List.getElem?_cons_succ, List.set_cons_zero, List.set_cons_succ, truth, bin_add, bin_sub, cmp_lt, cmp_le, cmp_gt, cmp_ge, cmp_eq, cmp_ne, biV_max, biV_min, it_t0, it_t1, it_t2, it_t3, it_l0, it_l1, it_l2, it_l3, Option.map_some, Bool.not_true, Bool.not_false, if_true, if_false, Bool.false_eq_true, decide_true, decide_false, reduceIte]
  · simp only [xb_0, xb_1, xs_expr, xs_append, xs_assign, xs_unpack, xs_setattr, xs_setitem, xs_unpackSub, xs_unpackL, xs_ite, xs_forIn, xs_forRange, xs_forTup, xs_while, xs_ret, xs_retNone, xs_brk, xs_cont, xs_pass, xs_raise, xs_try, xs_hand, ee_var, ee_cint, ee_cstr, ee_cnone, ee_cbool, ee_gint, ee_gstr, ee_bin, ee_neg, ee_not, ee_and, ee_or, ee_cmp, ee_cmp2, ee_call, ee_bi, ee_copy, ee_isi, ee_make, ee_meth, ee_attr, ee_idx, ee_sliceTo, ee_sliceFrom, ee_tup, ee_lst, ee_sumAt, ee_rev, ee_strMul, es_0, es_1, ea_0, ea_1, eo_0, eo_1, R.bind, R.got, R.on, R.son, ofOpt, List.getElem?_cons_zero, List.getElem?_cons_succ, List.set_cons_zero, List.set_cons_succ, truth, bin_add, bin_sub, cmp_lt, cmp_le, cmp_gt, cmp_ge, cmp_eq, cmp_ne, biV_max, biV_min, it_t0, it_t1, it_t2, it_t3, it_l0, it_l1, it_l2, it_l3, Option.map_some, Bool.not_true, Bool.not_false, if_true, if_false, Bool.false_eq_true, decide_true, decide_false, reduceIte, List.nil_append]

noncomputable abbrev loanF (r : Nat) (left begun day : Int) : List (Nat × V) := [(0, .loc r), (1, .int left), (2, .int begun), (3, .int day)]
/-- a loan in the store -/
structure Lo (σ : Store) (i r : Nat) (row : List (Int × Int)) (left begun day : Int) : Prop where
  obj : σ[i]? = some (.inst 0 (loanF r left begun day))
  lst : σ[r]? = some (.list (rowV row))
theorem ex_set {Φ : Fns} {o e : ME} {k i c : Nat} {ρ : Loc} {σ σ₁ σ₂ : Store} {v : V} {fs : List (Nat × V)} (he : evalE Φ ρ e σ = .ok v σ₁) (ho : evalE Φ ρ o σ₁ = .ok (.loc i) σ₂) (hi : σ₂[i]? = some (.inst c fs)) (ha : Φ.attrOk c k = true) (hl : fs.length < 900) :
    execS Φ (.setattr o k e) ρ σ = .ok (.next ρ) (σ₂.set i (.inst c (putField k v fs))) := by
  simp only [xs_expr, xs_append, xs_assign, xs_unpack, xs_setattr, xs_setitem, xs_unpackSub, xs_unpackL, xs_ite, xs_forIn, xs_forRange, xs_forTup, xs_while, xs_ret, xs_retNone, xs_brk, xs_cont, xs_pass, xs_raise, xs_try, xs_hand, he, R.on, ho, hi]
  rw [if_pos ⟨ha, hl⟩]
theorem attr_ok (H : HasLoan P) (n : Nat) {k : Nat} (hk : k < 4) : (pre P n).attrOk 0 k = true := by
  simp only [pre, mkFns, H.attrs]
  match k, hk with
  | 0, _ | 1, _ | 2, _ | 3, _ => decide
theorem F_init (H : HasLoan P) (i : Nat) (amount : Int) (src : V) (row : List (Int × Int)) (σ : Store) (hi : σ[i]? = some (.inst 0 [])) (ha : 1 ≤ amount) (ha' : amount ≤ 1000000000000) (hs : listOf σ src = some (rowV row)) (hv : ∀ vs, src ≠ .tup vs) (hr : RowOk (-1) row) (hl : row.length < 100000) (hne : 0 < row.length) :
    fn P 23 [.loc i, .int amount, src] σ = .ok .none ((σ ++ [Ob.list (rowV row)]).set i (.inst 0 (loanF σ.length amount 0 0))) := by
  rw [fn_has H.init]
  have e1 : ¬ amount < 1 := by omega
  have e2 : ¬ 1000000000000 < amount := by omega
  have hlt : i < σ.length := (List.getElem?_eq_some_iff.mp hi).1
  have hc := F_checked H src row σ hs hv hr hl hne
  have g0 : (σ ++ [Ob.list (rowV row)])[i]? = some (.inst 0 []) := by rw [List.getElem?_append_left hlt]; exact hi
  have g1 : ∀ o, ((σ ++ [Ob.list (rowV row)]).set i o)[i]? = some o := fun o => by rw [List.getElem?_set_self (by simp; omega)]
  have a0 := attr_ok H 23 (show 0 < 4 by decide)
  have a1 := attr_ok H 23 (show 1 < 4 by decide)
  have a2 := attr_ok H 23 (show 2 < 4 by decide)
  have a3 := attr_ok H 23 (show 3 < 4 by decide)
  refine callFn_next (ρ := [some (.loc i), some (.int amount), some src]) rfl (step (ρ' := [some (.loc i), some (.int amount), some src]) (σ' := σ) (ex_ite (σ' := σ) (t := false) ?_ ?_) (step (ρ' := [some (.loc i), some (.int amount), some src]) (σ' := (σ ++ [Ob.list (rowV row)]).set i (.inst 0 [(0, .loc σ.length)])) ?_ ?_))
  · simp only [xb_0, xb_1, xs_expr, xs_append, xs_assign, xs_unpack, xs_setattr, xs_setitem, xs_unpackSub, xs_unpackL, xs_ite, xs_forIn, xs_forRange, xs_forTup, xs_while, xs_ret, xs_retNone, xs_brk, xs_cont, xs_pass, xs_raise, xs_try, xs_hand, ee_var, ee_cint, ee_cstr, ee_cnone, ee_cbool, ee_gint, ee_gstr, ee_bin, ee_neg, ee_not, ee_and, ee_or, ee_cmp, ee_cmp2, ee_call, ee_bi, ee_copy, ee_isi, ee_make, ee_meth, ee_attr, ee_idx, ee_sliceTo, ee_sliceFrom, ee_tup, ee_lst, ee_sumAt, ee_rev, ee_strMul, es_0, es_1, ea_0, ea_1, eo_0, eo_1, R.bind, R.got, R.on, R.son, ofOpt, List.getElem?_cons_zero, List.getElem?_cons_succ, List.set_cons_zero, List.set_cons_succ, truth, bin_add, bin_sub, cmp_lt, cmp_le, cmp_gt, cmp_ge, cmp_eq, cmp_ne, biV_max, biV_min, it_t0, it_t1, it_t2, it_t3, it_l0, it_l1, it_l2, it_l3, Option.map_some, Bool.not_true, Bool.not_false, if_true, if_false, Bool.false_eq_true, decide_true, decide_false, reduceIte, List.map_cons, List.map_nil, List.cons_append, decide_eq_false e1, decide_eq_false e2]
  · simp only [xb_0, xb_1, xs_expr, xs_append, xs_assign, xs_unpack, xs_setattr, xs_setitem, xs_unpackSub, xs_unpackL, xs_ite, xs_forIn, xs_forRange, xs_forTup, xs_while, xs_ret, xs_retNone, xs_brk, xs_cont, xs_pass, xs_raise, xs_try, xs_hand, ee_var, ee_cint, ee_cstr, ee_cnone, ee_cbool, ee_gint, ee_gstr, ee_bin, ee_neg, ee_not, ee_and, ee_or, ee_cmp, ee_cmp2, ee_call, ee_bi, ee_copy, ee_isi, ee_make, ee_meth, ee_attr, ee_idx, ee_sliceTo, ee_sliceFrom, ee_tup, ee_lst, ee_sumAt, ee_rev, ee_strMul, es_0, es_1, ea_0, ea_1, eo_0, eo_1, R.bind, R.got, R.on, R.son, ofOpt, List.getElem?_cons_zero, List.getElem?_cons_succ, List.set_cons_zero, List.set_cons_succ, truth, bin_add, bin_sub, cmp_lt, cmp_le, cmp_gt, cmp_ge, cmp_eq, cmp_ne, biV_max, biV_min, it_t0, it_t1, it_t2, it_t3, it_l0, it_l1, it_l2, it_l3, Option.map_some, Bool.not_true, Bool.not_false, if_true, if_false, Bool.false_eq_true, decide_true, decide_false, reduceIte]; rfl
  · refine ex_set (c := 0) (fs := []) (σ₂ := σ ++ [Ob.list (rowV row)]) (σ₁ := σ ++ [Ob.list (rowV row)]) ?_ ?_ g0 a0 (by decide)
    · simp only [xb_0, xb_1, xs_expr, xs_append, xs_assign, xs_unpack, xs_setattr, xs_setitem, xs_unpackSub, xs_unpackL, xs_ite, xs_forIn, xs_forRange, xs_forTup, xs_while, xs_ret, xs_retNone, xs_brk, xs_cont, xs_pass, xs_raise, xs_try, xs_hand, ee_var, ee_cint, ee_cstr, ee_cnone, ee_cbool, ee_gint, ee_gstr, ee_bin, ee_neg, ee_not, ee_and, ee_or, ee_cmp, ee_cmp2, ee_call, ee_bi, ee_copy, ee_isi, ee_make, ee_meth, ee_attr, ee_idx, ee_sliceTo, ee_sliceFrom, ee_tup, ee_lst, ee_sumAt, ee_rev, ee_strMul, es_0, es_1, ea_0, ea_1, eo_0, eo_1, R.bind, R.got, R.on, R.son, ofOpt, List.getElem?_cons_zero, List.getElem?_cons_succ, List.set_cons_zero, List.set_cons_succ, truth, bin_add, bin_sub, cmp_lt, cmp_le, cmp_gt, cmp_ge, cmp_eq, cmp_ne, biV_max, biV_min, it_t0, it_t1, it_t2, it_t3, it_l0, it_l1, it_l2, it_l3, Option.map_some, Bool.not_true, Bool.not_false, if_true, if_false, Bool.false_eq_true, decide_true, decide_false, reduceIte, pre_fn (show 22 < 23 by decide), hc]
    · simp only [xb_0, xb_1, xs_expr, xs_append, xs_assign, xs_unpack, xs_setattr, xs_setitem, xs_unpackSub, xs_unpackL, xs_ite, xs_forIn, xs_forRange, xs_forTup, xs_while, xs_ret, xs_retNone, xs_brk, xs_cont, xs_pass, xs_raise, xs_try, xs_hand, ee_var, ee_cint, ee_cstr, ee_cnone, ee_cbool, ee_gint, ee_gstr, ee_bin, ee_neg, ee_not, ee_and, ee_or, ee_cmp, ee_cmp2, ee_call, ee_bi, ee_copy, ee_isi, ee_make, ee_meth, ee_attr, ee_idx, ee_sliceTo, ee_sliceFrom, ee_tup, ee_lst, ee_sumAt, ee_rev, ee_strMul, es_0, es_1, ea_0, ea_1, eo_0, eo_1, R.bind, R.got, R.on, R.son, ofOpt, List.getElem?_cons_zero, List.getElem?_cons_succ, List.set_cons_zero, List.set_cons_succ, truth, bin_add, bin_sub, cmp_lt, cmp_le, cmp_gt, cmp_ge, cmp_eq, cmp_ne, biV_max, biV_min, it_t0, it_t1, it_t2, it_t3, it_l0, it_l1, it_l2, it_l3, Option.map_some, Bool.not_true, Bool.not_false, if_true, if_false, Bool.false_eq_true, decide_true, decide_false, reduceIte]
  · refine step (ex_set (σ₁ := (σ ++ [Ob.list (rowV row)]).set i (.inst 0 [(0, .loc σ.length)])) (σ₂ := (σ ++ [Ob.list (rowV row)]).set i (.inst 0 [(0, .loc σ.length)])) (v := .int amount) (by simp only [xb_0, xb_1, xs_expr, xs_append, xs_assign, xs_unpack, xs_setattr, xs_setitem, xs_unpackSub, xs_unpackL, xs_ite, xs_forIn, xs_forRange, xs_forTup, xs_while, xs_ret, xs_retNone, xs_brk, xs_cont, xs_pass, xs_raise, xs_try, xs_hand, ee_var, ee_cint, ee_cstr, ee_cnone, ee_cbool, ee_gint, ee_gstr, ee_bin, ee_neg, ee_not, ee_and, ee_or, ee_cmp, ee_cmp2, ee_call, ee_bi, ee_copy, ee_isi, ee_make, ee_meth, ee_attr, ee_idx, ee_sliceTo, ee_sliceFrom, ee_tup, ee_lst, ee_sumAt, ee_rev, ee_strMul, es_0, es_1, ea_0, ea_1, eo_0, eo_1, R.bind, R.got, R.on, R.son, ofOpt, List.getElem?_cons_zero, List.getElem?_cons_succ, List.set_cons_zero, List.set_cons_succ, truth, bin_add, bin_sub, cmp_lt, cmp_le, cmp_gt, cmp_ge, cmp_eq, cmp_ne, biV_max, biV_min, it_t0, it_t1, it_t2, it_t3, it_l0, it_l1, it_l2, it_l3, Option.map_some, Bool.not_true, Bool.not_false, if_true, if_false, Bool.false_eq_true, decide_true, decide_false, reduceIte]) (by simp only [xb_0, xb_1, xs_expr, xs_append, xs_assign, xs_unpack, xs_setattr, xs_setitem, xs_unpackSub, xs_unpackL, xs_ite, xs_forIn, xs_forRange, xs_forTup, xs_while, xs_ret, xs_retNone, xs_brk, xs_cont, xs_pass, xs_raise, xs_try, xs_hand, ee_var, ee_cint, ee_cstr, ee_cnone, ee_cbool, ee_gint, ee_gstr, ee_bin, ee_neg, ee_not, ee_and, ee_or, ee_cmp, ee_cmp2, ee_call, ee_bi, ee_copy, ee_isi, ee_make, ee_meth, ee_attr, ee_idx, ee_sliceTo, ee_sliceFrom, ee_tup, ee_lst, ee_sumAt, ee_rev, ee_strMul, es_0, es_1, ea_0, ea_1, eo_0, eo_1, R.bind, R.got, R.on, R.son, ofOpt, List.getElem?_cons_zero, List.getElem?_cons_succ, List.set_cons_zero, List.set_cons_succ, truth, bin_add, bin_sub, cmp_lt, cmp_le, cmp_gt, cmp_ge, cmp_eq, cmp_ne, biV_max, biV_min, it_t0, it_t1, it_t2, it_t3, it_l0, it_l1, it_l2, it_l3, Option.map_some, Bool.not_true, Bool.not_false, if_true, if_false, Bool.false_eq_true, decide_true, decide_false, reduceIte]) (g1 _) a1 (by simp)) ?_
    rw [show putField 1 (V.int amount) [(0, V.loc σ.length)] = [(0, V.loc σ.length), (1, V.int amount)] from rfl, List.set_set]
    refine step (ex_set (σ₁ := (σ ++ [Ob.list (rowV row)]).set i (.inst 0 [(0, .loc σ.length), (1, .int amount)])) (σ₂ := (σ ++ [Ob.list (rowV row)]).set i (.inst 0 [(0, .loc σ.length), (1, .int amount)])) (v := .int 0) (by simp only [xb_0, xb_1, xs_expr, xs_append, xs_assign, xs_unpack, xs_setattr, xs_setitem, xs_unpackSub, xs_unpackL, xs_ite, xs_forIn, xs_forRange, xs_forTup, xs_while, xs_ret, xs_retNone, xs_brk, xs_cont, xs_pass, xs_raise, xs_try, xs_hand, ee_var, ee_cint, ee_cstr, ee_cnone, ee_cbool, ee_gint, ee_gstr, ee_bin, ee_neg, ee_not, ee_and, ee_or, ee_cmp, ee_cmp2, ee_call, ee_bi, ee_copy, ee_isi, ee_make, ee_meth, ee_attr, ee_idx, ee_sliceTo, ee_sliceFrom, ee_tup, ee_lst, ee_sumAt, ee_rev, ee_strMul, es_0, es_1, ea_0, ea_1, eo_0, eo_1, R.bind, R.got, R.on, R.son, ofOpt, List.getElem?_cons_zero, List.getElem?_cons_succ, List.set_cons_zero, List.set_cons_succ, truth, bin_add, bin_sub, cmp_lt, cmp_le, cmp_gt, cmp_ge, cmp_eq, cmp_ne, biV_max, biV_min, it_t0, it_t1, it_t2, it_t3, it_l0, it_l1, it_l2, it_l3, Option.map_some, Bool.not_true, Bool.not_false, if_true, if_false, Bool.false_eq_true, decide_true, decide_false, reduceIte]) (by simp only [xb_0, xb_1, xs_expr, xs_append, xs_assign, xs_unpack, xs_setattr, xs_setitem, xs_unpackSub, xs_unpackL, xs_ite, xs_forIn, xs_forRange, xs_forTup, xs_while, xs_ret, xs_retNone, xs_brk, xs_cont, xs_pass, xs_raise, xs_try, xs_hand, ee_var, ee_cint, ee_cstr, ee_cnone, ee_cbool, ee_gint, ee_gstr, ee_bin, ee_neg, ee_not, ee_and, ee_or, ee_cmp, ee_cmp2, ee_call, ee_bi, ee_copy, ee_isi, ee_make, ee_meth, ee_attr, ee_idx, ee_sliceTo, ee_sliceFrom, ee_tup, ee_lst, ee_sumAt, ee_rev, ee_strMul, es_0, es_1, ea_0, ea_1, eo_0, eo_1, R.bind, R.got, R.on, R.son, ofOpt, List.getElem?_cons_zero, List.getElem?_cons_succ, List.set_cons_zero, List.set_cons_succ, truth, bin_add, bin_sub, cmp_lt, cmp_le, cmp_gt, cmp_ge, cmp_eq, cmp_ne, biV_max, biV_min, it_t0, it_t1, it_t2, it_t3, it_l0, it_l1, it_l2, it_l3, Option.map_some, Bool.not_true, Bool.not_false, if_true, if_false, Bool.false_eq_true, decide_true, decide_false, reduceIte]) (g1 _) a2 (by simp)) ?_
    rw [show putField 2 (V.int 0) [(0, V.loc σ.length), (1, V.int amount)] = [(0, V.loc σ.length), (1, V.int amount), (2, V.int 0)] from rfl, List.set_set]
    refine step (ex_set (σ₁ := (σ ++ [Ob.list (rowV row)]).set i (.inst 0 [(0, .loc σ.length), (1, .int amount), (2, .int 0)])) (σ₂ := (σ ++ [Ob.list (rowV row)]).set i (.inst 0 [(0, .loc σ.length), (1, .int amount), (2, .int 0)])) (v := .int 0) (by simp only [xb_0, xb_1, xs_expr, xs_append, xs_assign, xs_unpack, xs_setattr, xs_setitem, xs_unpackSub, xs_unpackL, xs_ite, xs_forIn, xs_forRange, xs_forTup, xs_while, xs_ret, xs_retNone, xs_brk, xs_cont, xs_pass, xs_raise, xs_try, xs_hand, ee_var, ee_cint, ee_cstr, ee_cnone, ee_cbool, ee_gint, ee_gstr, ee_bin, ee_neg, ee_not, ee_and, ee_or, ee_cmp, ee_cmp2, ee_call, ee_bi, ee_copy, ee_isi, ee_make, ee_meth, ee_attr, ee_idx, ee_sliceTo, ee_sliceFrom, ee_tup, ee_lst, ee_sumAt, ee_rev, ee_strMul, es_0, es_1, ea_0, ea_1, eo_0, eo_1, R.bind, R.got, R.on, R.son, ofOpt, List.getElem?_cons_zero, List.getElem?_cons_succ, List.set_cons_zero, List.set_cons_succ, truth, bin_add, bin_sub, cmp_lt, cmp_le, cmp_gt, cmp_ge, cmp_eq, cmp_ne, biV_max, biV_min, it_t0, it_t1, it_t2, it_t3, it_l0, it_l1, it_l2, it_l3, Option.map_some, Bool.not_true, Bool.not_false, if_true, if_false, Bool.false_eq_true, decide_true, decide_false, reduceIte]) (by simp only [xb_0, xb_1, xs_expr, xs_append, xs_assign, xs_unpack, xs_setattr, xs_setitem, xs_unpackSub, xs_unpackL, xs_ite, xs_forIn, xs_forRange, xs_forTup, xs_while, xs_ret, xs_retNone, xs_brk, xs_cont, xs_pass, xs_raise, xs_try, xs_hand, ee_var, ee_cint, ee_cstr, ee_cnone, ee_cbool, ee_gint, ee_gstr, ee_bin, ee_neg, ee_not, ee_and, ee_or, ee_cmp, ee_cmp2, ee_call, ee_bi, ee_copy, ee_isi, ee_make, ee_meth, ee_attr, ee_idx, ee_sliceTo, ee_sliceFrom, ee_tup, ee_lst, ee_sumAt, ee_rev, ee_strMul, es_0, es_1, ea_0, ea_1, eo_0, eo_1, R.bind, R.got, R.on, R.son, ofOpt, List.getElem?_cons_zero, List.getElem?_cons_succ, List.set_cons_zero, List.set_cons_succ, truth, bin_add, bin_sub, cmp_lt, cmp_le, cmp_gt, cmp_ge, cmp_eq, cmp_ne, biV_max, biV_min, it_t0, it_t1, it_t2, it_t3, it_l0, it_l1, it_l2, it_l3, Option.map_some, Bool.not_true, Bool.not_false, if_true, if_false, Bool.false_eq_true, decide_true, decide_false, reduceIte]) (g1 _) a3 (by simp)) ?_
    simp [putField, xb_0, xb_1, loanF]
theorem F_stand (H : HasLoan P) {σ : Store} {i r : Nat} {row : List (Int × Int)} {left begun day : Int} (L : Lo σ i r row left begun day) (d : Int) (h1 : day ≤ d) (h2 : d ≤ 100000) (ha : Asc row) (hr : RateOk row) (hl : row.length ≤ 100000) (hb1 : -(2 ^ 63) ≤ left) (hb2 : left < 2 ^ 63) :
    fn P 24 [.loc i, .int d] σ = .ok (.tup [.int left, .int (begun + left * gs day d row)]) σ := by
  rw [fn_has H.stand]
  have e1 : ¬ d < day := by omega
  have e2 : ¬ 100000 < d := by omega
  have a0 := attr_ok H 24 (show 0 < 4 by decide)
  have a1 := attr_ok H 24 (show 1 < 4 by decide)
  have a2 := attr_ok H 24 (show 2 < 4 by decide)
  have a3 := attr_ok H 24 (show 3 < 4 by decide)
  have hg := F_grown H.grown (.loc r) row day d σ (by simp only [listOf, L.lst]) (fun vs h => by cases h) hl ha hr
  have hm : ∀ z, binV σ .Mult (.int left) (.int z) = some (.int (left * z)) := fun z => bin_mull hb1 hb2
  have f0 : fieldOf 0 (loanF r left begun day) = some (.loc r) := rfl
  have f1 : fieldOf 1 (loanF r left begun day) = some (.int left) := rfl
  have f2 : fieldOf 2 (loanF r left begun day) = some (.int begun) := rfl
  have f3 : fieldOf 3 (loanF r left begun day) = some (.int day) := rfl
  refine callFn_ret rfl (step (ρ' := [some (.loc i), some (.int d)]) (σ' := σ) (ex_ite (σ' := σ) (t := false) ?_ ?_) (ex_ret ?_))
  · simp only [xb_0, xb_1, xs_expr, xs_append, xs_assign, xs_unpack, xs_setattr, xs_setitem, xs_unpackSub, xs_unpackL, xs_ite, xs_forIn, xs_forRange, xs_forTup, xs_while, xs_ret, xs_retNone, xs_brk, xs_cont, xs_pass, xs_raise, xs_try, xs_hand, ee_var, ee_cint, ee_cstr, ee_cnone, ee_cbool, ee_gint, ee_gstr, ee_bin, ee_neg, ee_not, ee_and, ee_or, ee_cmp, ee_cmp2, ee_call, ee_bi, ee_copy, ee_isi, ee_make, ee_meth, ee_attr, ee_idx, ee_sliceTo, ee_sliceFrom, ee_tup, ee_lst, ee_sumAt, ee_rev, ee_strMul, es_0, es_1, ea_0, ea_1, eo_0, eo_1, R.bind, R.got, R.on, R.son, ofOpt, List.getElem?_cons_zero, List.getElem?_cons_succ, List.set_cons_zero, List.set_cons_succ, truth, bin_add, bin_sub, cmp_lt, cmp_le, cmp_gt, cmp_ge, cmp_eq, cmp_ne, biV_max, biV_min, it_t0, it_t1, it_t2, it_t3, it_l0, it_l1, it_l2, it_l3, Option.map_some, Bool.not_true, Bool.not_false, if_true, if_false, Bool.false_eq_true, decide_true, decide_false, reduceIte, List.map_cons, List.map_nil, List.cons_append, L.obj, a3, f3, decide_eq_false e1, decide_eq_false e2]
  · simp only [xb_0, xb_1, xs_expr, xs_append, xs_assign, xs_unpack, xs_setattr, xs_setitem, xs_unpackSub, xs_unpackL, xs_ite, xs_forIn, xs_forRange, xs_forTup, xs_while, xs_ret, xs_retNone, xs_brk, xs_cont, xs_pass, xs_raise, xs_try, xs_hand, ee_var, ee_cint, ee_cstr, ee_cnone, ee_cbool, ee_gint, ee_gstr, ee_bin, ee_neg, ee_not, ee_and, ee_or, ee_cmp, ee_cmp2, ee_call, ee_bi, ee_copy, ee_isi, ee_make, ee_meth, ee_attr, ee_idx, ee_sliceTo, ee_sliceFrom, ee_tup, ee_lst, ee_sumAt, ee_rev, ee_strMul, es_0, es_1, ea_0, ea_1, eo_0, eo_1, R.bind, R.got, R.on, R.son, ofOpt, List.getElem?_cons_zero, List.getElem?_cons_succ, List.set_cons_zero, List.set_cons_succ, truth, bin_add, bin_sub, cmp_lt, cmp_le, cmp_gt, cmp_ge, cmp_eq, cmp_ne, biV_max, biV_min, it_t0, it_t1, it_t2, it_t3, it_l0, it_l1, it_l2, it_l3, Option.map_some, Bool.not_true, Bool.not_false, if_true, if_false, Bool.false_eq_true, decide_true, decide_false, reduceIte]; rfl
  · simp only [xb_0, xb_1, xs_expr, xs_append, xs_assign, xs_unpack, xs_setattr, xs_setitem, xs_unpackSub, xs_unpackL, xs_ite, xs_forIn, xs_forRange, xs_forTup, xs_while, xs_ret, xs_retNone, xs_brk, xs_cont, xs_pass, xs_raise, xs_try, xs_hand, ee_var, ee_cint, ee_cstr, ee_cnone, ee_cbool, ee_gint, ee_gstr, ee_bin, ee_neg, ee_not, ee_and, ee_or, ee_cmp, ee_cmp2, ee_call, ee_bi, ee_copy, ee_isi, ee_make, ee_meth, ee_attr, ee_idx, ee_sliceTo, ee_sliceFrom, ee_tup, ee_lst, ee_sumAt, ee_rev, ee_strMul, es_0, es_1, ea_0, ea_1, eo_0, eo_1, R.bind, R.got, R.on, R.son, ofOpt, List.getElem?_cons_zero, List.getElem?_cons_succ, List.set_cons_zero, List.set_cons_succ, truth, bin_add, bin_sub, cmp_lt, cmp_le, cmp_gt, cmp_ge, cmp_eq, cmp_ne, biV_max, biV_min, it_t0, it_t1, it_t2, it_t3, it_l0, it_l1, it_l2, it_l3, Option.map_some, Bool.not_true, Bool.not_false, if_true, if_false, Bool.false_eq_true, decide_true, decide_false, reduceIte, L.obj, a0, a1, a2, a3, f0, f1, f2, f3, pre_fn (show 19 < 24 by decide), hg, hm]

noncomputable def owedV (left begun : Int) : Int := left + (begun + 999999) / 1000000
/-- a payment: interest, off, what is left, what is begun -/
noncomputable def partsV (left begun cents : Int) : Int × Int × Int × Int :=
  if cents = owedV left begun then (cents - left, left, 0, 0)
  else ((if begun / 1000000 < cents then begun / 1000000 else cents), cents - (if begun / 1000000 < cents then begun / 1000000 else cents), left - (cents - (if begun / 1000000 < cents then begun / 1000000 else cents)), begun - 1000000 * (if begun / 1000000 < cents then begun / 1000000 else cents))
theorem ev_meth {Φ : Fns} {ρ : Loc} {o : ME} {f i c : Nat} {args : List ME} {σ σ₁ σ₂ : Store} {vs : List V} {fs fs' : List (Nat × V)} (ho : evalE Φ ρ o σ = .ok (.loc i) σ₁) (ha : evalEs Φ ρ args σ₁ = .ok vs σ₂) (h1 : σ₁[i]? = some (.inst c fs)) (h2 : σ₂[i]? = some (.inst c fs')) (hm : Φ.methOk c f = true) :
    evalE Φ ρ (.meth o f args) σ = Φ.fn f (.loc i :: vs) σ₂ := by
  simp only [ee_var, ee_cint, ee_cstr, ee_cnone, ee_cbool, ee_gint, ee_gstr, ee_bin, ee_neg, ee_not, ee_and, ee_or, ee_cmp, ee_cmp2, ee_call, ee_bi, ee_copy, ee_isi, ee_make, ee_meth, ee_attr, ee_idx, ee_sliceTo, ee_sliceFrom, ee_tup, ee_lst, ee_sumAt, ee_rev, ee_strMul, ho, R.bind, R.got, ha, h1, h2]
  rw [if_pos ⟨trivial, hm⟩]
theorem meth_ok {n f : Nat} (h : (0, f) ∈ P.meths) : (pre P n).methOk 0 f = true := by
  simp only [pre, mkFns]
  exact List.contains_iff_mem.mpr h
theorem ex_append {Φ : Fns} {ρ : Loc} {o e : ME} {i : Nat} {σ σ₁ σ₂ : Store} {v : V} {us vs : List V} (ho : evalE Φ ρ o σ = .ok (.loc i) σ₁) (he : evalE Φ ρ e σ₁ = .ok v σ₂) (h1 : σ₁[i]? = some (.list us)) (h2 : σ₂[i]? = some (.list vs)) (hl : vs.length < 1000000) :
    execS Φ (.append o e) ρ σ = .ok (.next ρ) (σ₂.set i (.list (vs ++ [v]))) := by
  simp only [xs_expr, xs_append, xs_assign, xs_unpack, xs_setattr, xs_setitem, xs_unpackSub, xs_unpackL, xs_ite, xs_forIn, xs_forRange, xs_forTup, xs_while, xs_ret, xs_retNone, xs_brk, xs_cont, xs_pass, xs_raise, xs_try, xs_hand, ho, R.on, R.son, he, h1, h2]
  rw [if_pos hl]
/-- what the loan must be that it can be asked -/
structure Fit (row : List (Int × Int)) (left : Int) : Prop where
  asc : Asc row
  rate : RateOk row
  len : row.length ≤ 90000
  lo : -(2 ^ 63) ≤ left
  hi : left < 2 ^ 63
section
variable {σ : Store} {i r : Nat} {row : List (Int × Int)} {left begun day : Int}
theorem F_owed (H : HasLoan P) (HP : HasPay P) (L : Lo σ i r row left begun day) (W : Fit row left) (d : Int) (h1 : day ≤ d) (h2 : d ≤ 100000) : fn P 25 [.loc i, .int d] σ = .ok (.int (owedV left (begun + left * gs day d row))) σ := by
  rw [fn_has HP.owed]
  have hs := F_stand H L d h1 h2 W.asc W.rate (Nat.le_trans W.len (by omega)) W.lo W.hi
  generalize begun + left * gs day d row = b at *
  have e : b + 1000000 - 1 = b + 999999 := by omega
  refine callFn_ret rfl (step (ρ' := [some (.loc i), some (.int d), some (.tup [.int left, .int b])]) (σ' := σ) ?_ (ex_ret ?_))
  · refine ex_assign (v := .tup [.int left, .int b]) ?_
    rw [ev_meth (σ₁ := σ) (σ₂ := σ) (i := i) (vs := [.int d]) ?_ ?_ L.obj L.obj (meth_ok H.mstand), pre_fn (by decide), hs]
    · simp only [xb_0, xb_1, xs_expr, xs_append, xs_assign, xs_unpack, xs_setattr, xs_setitem, xs_unpackSub, xs_unpackL, xs_ite, xs_forIn, xs_forRange, xs_forTup, xs_while, xs_ret, xs_retNone, xs_brk, xs_cont, xs_pass, xs_raise, xs_try, xs_hand, ee_var, ee_cint, ee_cstr, ee_cnone, ee_cbool, ee_gint, ee_gstr, ee_bin, ee_neg, ee_not, ee_and, ee_or, ee_cmp, ee_cmp2, ee_call, ee_bi, ee_copy, ee_isi, ee_make, ee_meth, ee_attr, ee_idx, ee_sliceTo, ee_sliceFrom, ee_tup, ee_lst, ee_sumAt, ee_rev, ee_strMul, es_0, es_1, ea_0, ea_1, eo_0, eo_1, R.bind, R.got, R.on, R.son, ofOpt, List.getElem?_cons_zero, List.getElem?_cons_succ, List.set_cons_zero, List.set_cons_succ, truth, bin_add, bin_sub, cmp_lt, cmp_le, cmp_gt, cmp_ge, cmp_eq, cmp_ne, biV_max, biV_min, it_t0, it_t1, it_t2, it_t3, it_l0, it_l1, it_l2, it_l3, Option.map_some, Bool.not_true, Bool.not_false, if_true, if_false, Bool.false_eq_true, decide_true, decide_false, reduceIte, List.map_cons, List.map_nil, List.cons_append]
    · simp only [xb_0, xb_1, xs_expr, xs_append, xs_assign, xs_unpack, xs_setattr, xs_setitem, xs_unpackSub, xs_unpackL, xs_ite, xs_forIn, xs_forRange, xs_forTup, xs_while, xs_ret, xs_retNone, xs_brk, xs_cont, xs_pass, xs_raise, xs_try, xs_hand, ee_var, ee_cint, ee_cstr, ee_cnone, ee_cbool, ee_gint, ee_gstr, ee_bin, ee_neg, ee_not, ee_and, ee_or, ee_cmp, ee_cmp2, ee_call, ee_bi, ee_copy, ee_isi, ee_make, ee_meth, ee_attr, ee_idx, ee_sliceTo, ee_sliceFrom, ee_tup, ee_lst, ee_sumAt, ee_rev, ee_strMul, es_0, es_1, ea_0, ea_1, eo_0, eo_1, R.bind, R.got, R.on, R.son, ofOpt, List.getElem?_cons_zero, List.getElem?_cons_succ, List.set_cons_zero, List.set_cons_succ, truth, bin_add, bin_sub, cmp_lt, cmp_le, cmp_gt, cmp_ge, cmp_eq, cmp_ne, biV_max, biV_min, it_t0, it_t1, it_t2, it_t3, it_l0, it_l1, it_l2, it_l3, Option.map_some, Bool.not_true, Bool.not_false, if_true, if_false, Bool.false_eq_true, decide_true, decide_false, reduceIte, List.map_cons, List.map_nil, List.cons_append]
  · simp only [xb_0, xb_1, xs_expr, xs_append, xs_assign, xs_unpack, xs_setattr, xs_setitem, xs_unpackSub, xs_unpackL, xs_ite, xs_forIn, xs_forRange, xs_forTup, xs_while, xs_ret, xs_retNone, xs_brk, xs_cont, xs_pass, xs_raise, xs_try, xs_hand, ee_var, ee_cint, ee_cstr, ee_cnone, ee_cbool, ee_gint, ee_gstr, ee_bin, ee_neg, ee_not, ee_and, ee_or, ee_cmp, ee_cmp2, ee_call, ee_bi, ee_copy, ee_isi, ee_make, ee_meth, ee_attr, ee_idx, ee_sliceTo, ee_sliceFrom, ee_tup, ee_lst, ee_sumAt, ee_rev, ee_strMul, es_0, es_1, ea_0, ea_1, eo_0, eo_1, R.bind, R.got, R.on, R.son, ofOpt, List.getElem?_cons_zero, List.getElem?_cons_succ, List.set_cons_zero, List.set_cons_succ, truth, bin_add, bin_sub, cmp_lt, cmp_le, cmp_gt, cmp_ge, cmp_eq, cmp_ne, biV_max, biV_min, it_t0, it_t1, it_t2, it_t3, it_l0, it_l1, it_l2, it_l3, Option.map_some, Bool.not_true, Bool.not_false, if_true, if_false, Bool.false_eq_true, decide_true, decide_false, reduceIte, bin_div (show (0 : Int) < 1000000 by decide), e, owedV]
theorem F_pay (H : HasLoan P) (HP : HasPay P) (L : Lo σ i r row left begun day) (W : Fit row left) (d cents : Int) (h1 : day ≤ d) (h2 : d ≤ 100000) (h3 : 1 ≤ cents) (h4 : cents ≤ owedV left (begun + left * gs day d row)) :
    fn P 26 [.loc i, .int d, .int cents] σ = .ok (.tup [.int (partsV left (begun + left * gs day d row) cents).1, .int (partsV left (begun + left * gs day d row) cents).2.1])
      (σ.set i (.inst 0 (loanF r (partsV left (begun + left * gs day d row) cents).2.2.1 (partsV left (begun + left * gs day d row) cents).2.2.2 d))) := by
  rw [fn_has HP.pay]
  have hs := F_stand H L d h1 h2 W.asc W.rate (Nat.le_trans W.len (by omega)) W.lo W.hi
  have ho := F_owed H HP L W d h1 h2
  generalize begun + left * gs day d row = b at *
  have a1 := attr_ok H 26 (show 1 < 4 by decide)
  have a2 := attr_ok H 26 (show 2 < 4 by decide)
  have a3 := attr_ok H 26 (show 3 < 4 by decide)
  have hlt : i < σ.length := (List.getElem?_eq_some_iff.mp L.obj).1
  have g1 : ∀ o : Ob, (σ.set i o)[i]? = some o := fun o => by rw [List.getElem?_set_self hlt]
  have e1 : ¬ cents < 1 := by omega
  have e2 : ¬ owedV left b < cents := by omega
  have hm : ∀ (σ : Store) z, binV σ .Mult (.int z) (.int 1000000) = some (.int (z * 1000000)) := fun σ z => bin_mulr (by decide) (by decide)
  have p3 : putField 3 (V.int d) (loanF r left begun day) = loanF r left begun d := rfl
  have p1 : ∀ z, putField 1 (V.int z) (loanF r left begun d) = loanF r z begun d := fun z => rfl
  have p2 : ∀ y z, putField 2 (V.int z) (loanF r y begun d) = loanF r y z d := fun y z => rfl
  refine callFn_ret rfl (step (ρ' := [some (.loc i), some (.int d), some (.int cents), some (.tup [.int left, .int b]), none, none]) (σ' := σ) ?_ (step (ρ' := [some (.loc i), some (.int d), some (.int cents), some (.tup [.int left, .int b]), some (.int (owedV left b)), none]) (σ' := σ) ?_
    (step (ρ' := [some (.loc i), some (.int d), some (.int cents), some (.tup [.int left, .int b]), some (.int (owedV left b)), none]) (σ' := σ) (ex_ite (σ' := σ) (t := false) ?_ ?_) (step (ex_set (σ₁ := σ) (σ₂ := σ) (v := .int d) ?_ ?_ L.obj a3 (by simp [loanF])) ?_))))
  · refine ex_assign (v := .tup [.int left, .int b]) ?_
    rw [ev_meth (σ₁ := σ) (σ₂ := σ) (i := i) (vs := [.int d]) ?_ ?_ L.obj L.obj (meth_ok H.mstand), pre_fn (by decide), hs]
    · simp only [xb_0, xb_1, xs_expr, xs_append, xs_assign, xs_unpack, xs_setattr, xs_setitem, xs_unpackSub, xs_unpackL, xs_ite, xs_forIn, xs_forRange, xs_forTup, xs_while, xs_ret, xs_retNone, xs_brk, xs_cont, xs_pass, xs_raise, xs_try, xs_hand, ee_var, ee_cint, ee_cstr, ee_cnone, ee_cbool, ee_gint, ee_gstr, ee_bin, ee_neg, ee_not, ee_and, ee_or, ee_cmp, ee_cmp2, ee_call, ee_bi, ee_copy, ee_isi, ee_make, ee_meth, ee_attr, ee_idx, ee_sliceTo, ee_sliceFrom, ee_tup, ee_lst, ee_sumAt, ee_rev, ee_strMul, es_0, es_1, ea_0, ea_1, eo_0, eo_1, R.bind, R.got, R.on, R.son, ofOpt, List.getElem?_cons_zero, List.getElem?_cons_succ, List.set_cons_zero, List.set_cons_succ, truth, bin_add, bin_sub, cmp_lt, cmp_le, cmp_gt, cmp_ge, cmp_eq, cmp_ne, biV_max, biV_min, it_t0, it_t1, it_t2, it_t3, it_l0, it_l1, it_l2, it_l3, Option.map_some, Bool.not_true, Bool.not_false, if_true, if_false, Bool.false_eq_true, decide_true, decide_false, reduceIte, List.map_cons, List.map_nil, List.cons_append]
    · simp only [xb_0, xb_1, xs_expr, xs_append, xs_assign, xs_unpack, xs_setattr, xs_setitem, xs_unpackSub, xs_unpackL, xs_ite, xs_forIn, xs_forRange, xs_forTup, xs_while, xs_ret, xs_retNone, xs_brk, xs_cont, xs_pass, xs_raise, xs_try, xs_hand, ee_var, ee_cint, ee_cstr, ee_cnone, ee_cbool, ee_gint, ee_gstr, ee_bin, ee_neg, ee_not, ee_and, ee_or, ee_cmp, ee_cmp2, ee_call, ee_bi, ee_copy, ee_isi, ee_make, ee_meth, ee_attr, ee_idx, ee_sliceTo, ee_sliceFrom, ee_tup, ee_lst, ee_sumAt, ee_rev, ee_strMul, es_0, es_1, ea_0, ea_1, eo_0, eo_1, R.bind, R.got, R.on, R.son, ofOpt, List.getElem?_cons_zero, List.getElem?_cons_succ, List.set_cons_zero, List.set_cons_succ, truth, bin_add, bin_sub, cmp_lt, cmp_le, cmp_gt, cmp_ge, cmp_eq, cmp_ne, biV_max, biV_min, it_t0, it_t1, it_t2, it_t3, it_l0, it_l1, it_l2, it_l3, Option.map_some, Bool.not_true, Bool.not_false, if_true, if_false, Bool.false_eq_true, decide_true, decide_false, reduceIte, List.map_cons, List.map_nil, List.cons_append]
  · refine ex_assign (v := .int (owedV left b)) ?_
    rw [ev_meth (σ₁ := σ) (σ₂ := σ) (i := i) (vs := [.int d]) ?_ ?_ L.obj L.obj (meth_ok HP.mowed), pre_fn (by decide), ho]
    · simp only [xb_0, xb_1, xs_expr, xs_append, xs_assign, xs_unpack, xs_setattr, xs_setitem, xs_unpackSub, xs_unpackL, xs_ite, xs_forIn, xs_forRange, xs_forTup, xs_while, xs_ret, xs_retNone, xs_brk, xs_cont, xs_pass, xs_raise, xs_try, xs_hand, ee_var, ee_cint, ee_cstr, ee_cnone, ee_cbool, ee_gint, ee_gstr, ee_bin, ee_neg, ee_not, ee_and, ee_or, ee_cmp, ee_cmp2, ee_call, ee_bi, ee_copy, ee_isi, ee_make, ee_meth, ee_attr, ee_idx, ee_sliceTo, ee_sliceFrom, ee_tup, ee_lst, ee_sumAt, ee_rev, ee_strMul, es_0, es_1, ea_0, ea_1, eo_0, eo_1, R.bind, R.got, R.on, R.son, ofOpt, List.getElem?_cons_zero, List.getElem?_cons_succ, List.set_cons_zero, List.set_cons_succ, truth, bin_add, bin_sub, cmp_lt, cmp_le, cmp_gt, cmp_ge, cmp_eq, cmp_ne, biV_max, biV_min, it_t0, it_t1, it_t2, it_t3, it_l0, it_l1, it_l2, it_l3, Option.map_some, Bool.not_true, Bool.not_false, if_true, if_false, Bool.false_eq_true, decide_true, decide_false, reduceIte]
    · simp only [xb_0, xb_1, xs_expr, xs_append, xs_assign, xs_unpack, xs_setattr, xs_setitem, xs_unpackSub, xs_unpackL, xs_ite, xs_forIn, xs_forRange, xs_forTup, xs_while, xs_ret, xs_retNone, xs_brk, xs_cont, xs_pass, xs_raise, xs_try, xs_hand, ee_var, ee_cint, ee_cstr, ee_cnone, ee_cbool, ee_gint, ee_gstr, ee_bin, ee_neg, ee_not, ee_and, ee_or, ee_cmp, ee_cmp2, ee_call, ee_bi, ee_copy, ee_isi, ee_make, ee_meth, ee_attr, ee_idx, ee_sliceTo, ee_sliceFrom, ee_tup, ee_lst, ee_sumAt, ee_rev, ee_strMul, es_0, es_1, ea_0, ea_1, eo_0, eo_1, R.bind, R.got, R.on, R.son, ofOpt, List.getElem?_cons_zero, List.getElem?_cons_succ, List.set_cons_zero, List.set_cons_succ, truth, bin_add, bin_sub, cmp_lt, cmp_le, cmp_gt, cmp_ge, cmp_eq, cmp_ne, biV_max, biV_min, it_t0, it_t1, it_t2, it_t3, it_l0, it_l1, it_l2, it_l3, Option.map_some, Bool.not_true, Bool.not_false, if_true, if_false, Bool.false_eq_true, decide_true, decide_false, reduceIte]
  · simp only [xb_0, xb_1, xs_expr, xs_append, xs_assign, xs_unpack, xs_setattr, xs_setitem, xs_unpackSub, xs_unpackL, xs_ite, xs_forIn, xs_forRange, xs_forTup, xs_while, xs_ret, xs_retNone, xs_brk, xs_cont, xs_pass, xs_raise, xs_try, xs_hand, ee_var, ee_cint, ee_cstr, ee_cnone, ee_cbool, ee_gint, ee_gstr, ee_bin, ee_neg, ee_not, ee_and, ee_or, ee_cmp, ee_cmp2, ee_call, ee_bi, ee_copy, ee_isi, ee_make, ee_meth, ee_attr, ee_idx, ee_sliceTo, ee_sliceFrom, ee_tup, ee_lst, ee_sumAt, ee_rev, ee_strMul, es_0, es_1, ea_0, ea_1, eo_0, eo_1, R.bind, R.got, R.on, R.son, ofOpt, List.getElem?_cons_zero, List.getElem?_cons_succ, List.set_cons_zero, List.set_cons_succ, truth, bin_add, bin_sub, cmp_lt, cmp_le, cmp_gt, cmp_ge, cmp_eq, cmp_ne, biV_max, biV_min, it_t0, it_t1, it_t2, it_t3, it_l0, it_l1, it_l2, it_l3, Option.map_some, Bool.not_true, Bool.not_false, if_true, if_false, Bool.false_eq_true, decide_true, decide_false, reduceIte, decide_eq_false e1, decide_eq_false e2]
  · simp only [xb_0, xb_1, xs_expr, xs_append, xs_assign, xs_unpack, xs_setattr, xs_setitem, xs_unpackSub, xs_unpackL, xs_ite, xs_forIn, xs_forRange, xs_forTup, xs_while, xs_ret, xs_retNone, xs_brk, xs_cont, xs_pass, xs_raise, xs_try, xs_hand, ee_var, ee_cint, ee_cstr, ee_cnone, ee_cbool, ee_gint, ee_gstr, ee_bin, ee_neg, ee_not, ee_and, ee_or, ee_cmp, ee_cmp2, ee_call, ee_bi, ee_copy, ee_isi, ee_make, ee_meth, ee_attr, ee_idx, ee_sliceTo, ee_sliceFrom, ee_tup, ee_lst, ee_sumAt, ee_rev, ee_strMul, es_0, es_1, ea_0, ea_1, eo_0, eo_1, R.bind, R.got, R.on, R.son, ofOpt, List.getElem?_cons_zero, List.getElem?_cons_succ, List.set_cons_zero, List.set_cons_succ, truth, bin_add, bin_sub, cmp_lt, cmp_le, cmp_gt, cmp_ge, cmp_eq, cmp_ne, biV_max, biV_min, it_t0, it_t1, it_t2, it_t3, it_l0, it_l1, it_l2, it_l3, Option.map_some, Bool.not_true, Bool.not_false, if_true, if_false, Bool.false_eq_true, decide_true, decide_false, reduceIte]
  · simp only [xb_0, xb_1, xs_expr, xs_append, xs_assign, xs_unpack, xs_setattr, xs_setitem, xs_unpackSub, xs_unpackL, xs_ite, xs_forIn, xs_forRange, xs_forTup, xs_while, xs_ret, xs_retNone, xs_brk, xs_cont, xs_pass, xs_raise, xs_try, xs_hand, ee_var, ee_cint, ee_cstr, ee_cnone, ee_cbool, ee_gint, ee_gstr, ee_bin, ee_neg, ee_not, ee_and, ee_or, ee_cmp, ee_cmp2, ee_call, ee_bi, ee_copy, ee_isi, ee_make, ee_meth, ee_attr, ee_idx, ee_sliceTo, ee_sliceFrom, ee_tup, ee_lst, ee_sumAt, ee_rev, ee_strMul, es_0, es_1, ea_0, ea_1, eo_0, eo_1, R.bind, R.got, R.on, R.son, ofOpt, List.getElem?_cons_zero, List.getElem?_cons_succ, List.set_cons_zero, List.set_cons_succ, truth, bin_add, bin_sub, cmp_lt, cmp_le, cmp_gt, cmp_ge, cmp_eq, cmp_ne, biV_max, biV_min, it_t0, it_t1, it_t2, it_t3, it_l0, it_l1, it_l2, it_l3, Option.map_some, Bool.not_true, Bool.not_false, if_true, if_false, Bool.false_eq_true, decide_true, decide_false, reduceIte]
  · simp only [xb_0, xb_1, xs_expr, xs_append, xs_assign, xs_unpack, xs_setattr, xs_setitem, xs_unpackSub, xs_unpackL, xs_ite, xs_forIn, xs_forRange, xs_forTup, xs_while, xs_ret, xs_retNone, xs_brk, xs_cont, xs_pass, xs_raise, xs_try, xs_hand, ee_var, ee_cint, ee_cstr, ee_cnone, ee_cbool, ee_gint, ee_gstr, ee_bin, ee_neg, ee_not, ee_and, ee_or, ee_cmp, ee_cmp2, ee_call, ee_bi, ee_copy, ee_isi, ee_make, ee_meth, ee_attr, ee_idx, ee_sliceTo, ee_sliceFrom, ee_tup, ee_lst, ee_sumAt, ee_rev, ee_strMul, es_0, es_1, ea_0, ea_1, eo_0, eo_1, R.bind, R.got, R.on, R.son, ofOpt, List.getElem?_cons_zero, List.getElem?_cons_succ, List.set_cons_zero, List.set_cons_succ, truth, bin_add, bin_sub, cmp_lt, cmp_le, cmp_gt, cmp_ge, cmp_eq, cmp_ne, biV_max, biV_min, it_t0, it_t1, it_t2, it_t3, it_l0, it_l1, it_l2, it_l3, Option.map_some, Bool.not_true, Bool.not_false, if_true, if_false, Bool.false_eq_true, decide_true, decide_false, reduceIte]
  rw [p3]
  by_cases hc : cents = owedV left b
  · have hp : partsV left b cents = (cents - left, left, 0, 0) := if_pos hc
    rw [hp]
    have : ∀ {s : MS} {r : List MS} {ρ : Loc} {σ : Store} {x : SR} {v : V} {σ' : Store}, execS (pre P 26) s ρ σ = .ok (.ret v) σ' → x = .ok (.ret v) σ' → execB (pre P 26) (s :: r) ρ σ = x := fun h h' => by simp only [xb_0, xb_1, h, h']
    refine this (v := .tup [.int (cents - left), .int left]) (σ' := σ.set i (.inst 0 (loanF r 0 0 d))) (ex_ite (σ' := σ.set i (.inst 0 (loanF r left begun d))) (t := true) ?_ ?_) rfl
    · simp only [xb_0, xb_1, xs_expr, xs_append, xs_assign, xs_unpack, xs_setattr, xs_setitem, xs_unpackSub, xs_unpackL, xs_ite, xs_forIn, xs_forRange, xs_forTup, xs_while, xs_ret, xs_retNone, xs_brk, xs_cont, xs_pass, xs_raise, xs_try, xs_hand, ee_var, ee_cint, ee_cstr, ee_cnone, ee_cbool, ee_gint, ee_gstr, ee_bin, ee_neg, ee_not, ee_and, ee_or, ee_cmp, ee_cmp2, ee_call, ee_bi, ee_copy, ee_isi, ee_make, ee_meth, ee_attr, ee_idx, ee_sliceTo, ee_sliceFrom, ee_tup, ee_lst, ee_sumAt, ee_rev, ee_strMul, es_0, es_1, ea_0, ea_1, eo_0, eo_1, R.bind, R.got, R.on, R.son, ofOpt, List.getElem?_cons_zero, List.getElem?_cons_succ, List.set_cons_zero, List.set_cons_succ, truth, bin_add, bin_sub, cmp_lt, cmp_le, cmp_gt, cmp_ge, cmp_eq, cmp_ne, biV_max, biV_min, it_t0, it_t1, it_t2, it_t3, it_l0, it_l1, it_l2, it_l3, Option.map_some, Bool.not_true, Bool.not_false, if_true, if_false, Bool.false_eq_true, decide_true, decide_false, reduceIte, decide_eq_true hc]
    · simp only [reduceIte]
      refine step (ex_set (σ₁ := σ.set i (.inst 0 (loanF r left begun d))) (σ₂ := σ.set i (.inst 0 (loanF r left begun d))) (v := .int 0) ?_ ?_ (g1 _) a1 (by simp [loanF])) (step (ex_set (σ₁ := σ.set i (.inst 0 (loanF r 0 begun d))) (σ₂ := σ.set i (.inst 0 (loanF r 0 begun d))) (v := .int 0) ?_ ?_ (g1 _) a2 (by simp [loanF])) ?_)
      · simp only [xb_0, xb_1, xs_expr, xs_append, xs_assign, xs_unpack, xs_setattr, xs_setitem, xs_unpackSub, xs_unpackL, xs_ite, xs_forIn, xs_forRange, xs_forTup, xs_while, xs_ret, xs_retNone, xs_brk, xs_cont, xs_pass, xs_raise, xs_try, xs_hand, ee_var, ee_cint, ee_cstr, ee_cnone, ee_cbool, ee_gint, ee_gstr, ee_bin, ee_neg, ee_not, ee_and, ee_or, ee_cmp, ee_cmp2, ee_call, ee_bi, ee_copy, ee_isi, ee_make, ee_meth, ee_attr, ee_idx, ee_sliceTo, ee_sliceFrom, ee_tup, ee_lst, ee_sumAt, ee_rev, ee_strMul, es_0, es_1, ea_0, ea_1, eo_0, eo_1, R.bind, R.got, R.on, R.son, ofOpt, List.getElem?_cons_zero, List.getElem?_cons_succ, List.set_cons_zero, List.set_cons_succ, truth, bin_add, bin_sub, cmp_lt, cmp_le, cmp_gt, cmp_ge, cmp_eq, cmp_ne, biV_max, biV_min, it_t0, it_t1, it_t2, it_t3, it_l0, it_l1, it_l2, it_l3, Option.map_some, Bool.not_true, Bool.not_false, if_true, if_false, Bool.false_eq_true, decide_true, decide_false, reduceIte]
      · simp only [xb_0, xb_1, xs_expr, xs_append, xs_assign, xs_unpack, xs_setattr, xs_setitem, xs_unpackSub, xs_unpackL, xs_ite, xs_forIn, xs_forRange, xs_forTup, xs_while, xs_ret, xs_retNone, xs_brk, xs_cont, xs_pass, xs_raise, xs_try, xs_hand, ee_var, ee_cint, ee_cstr, ee_cnone, ee_cbool, ee_gint, ee_gstr, ee_bin, ee_neg, ee_not, ee_and, ee_or, ee_cmp, ee_cmp2, ee_call, ee_bi, ee_copy, ee_isi, ee_make, ee_meth, ee_attr, ee_idx, ee_sliceTo, ee_sliceFrom, ee_tup, ee_lst, ee_sumAt, ee_rev, ee_strMul, es_0, es_1, ea_0, ea_1, eo_0, eo_1, R.bind, R.got, R.on, R.son, ofOpt, List.getElem?_cons_zero, List.getElem?_cons_succ, List.set_cons_zero, List.set_cons_succ, truth, bin_add, bin_sub, cmp_lt, cmp_le, cmp_gt, cmp_ge, cmp_eq, cmp_ne, biV_max, biV_min, it_t0, it_t1, it_t2, it_t3, it_l0, it_l1, it_l2, it_l3, Option.map_some, Bool.not_true, Bool.not_false, if_true, if_false, Bool.false_eq_true, decide_true, decide_false, reduceIte]
      · simp only [xb_0, xb_1, xs_expr, xs_append, xs_assign, xs_unpack, xs_setattr, xs_setitem, xs_unpackSub, xs_unpackL, xs_ite, xs_forIn, xs_forRange, xs_forTup, xs_while, xs_ret, xs_retNone, xs_brk, xs_cont, xs_pass, xs_raise, xs_try, xs_hand, ee_var, ee_cint, ee_cstr, ee_cnone, ee_cbool, ee_gint, ee_gstr, ee_bin, ee_neg, ee_not, ee_and, ee_or, ee_cmp, ee_cmp2, ee_call, ee_bi, ee_copy, ee_isi, ee_make, ee_meth, ee_attr, ee_idx, ee_sliceTo, ee_sliceFrom, ee_tup, ee_lst, ee_sumAt, ee_rev, ee_strMul, es_0, es_1, ea_0, ea_1, eo_0, eo_1, R.bind, R.got, R.on, R.son, ofOpt, List.getElem?_cons_zero, List.getElem?_cons_succ, List.set_cons_zero, List.set_cons_succ, truth, bin_add, bin_sub, cmp_lt, cmp_le, cmp_gt, cmp_ge, cmp_eq, cmp_ne, biV_max, biV_min, it_t0, it_t1, it_t2, it_t3, it_l0, it_l1, it_l2, it_l3, Option.map_some, Bool.not_true, Bool.not_false, if_true, if_false, Bool.false_eq_true, decide_true, decide_false, reduceIte, p1, List.set_set]
      · simp only [xb_0, xb_1, xs_expr, xs_append, xs_assign, xs_unpack, xs_setattr, xs_setitem, xs_unpackSub, xs_unpackL, xs_ite, xs_forIn, xs_forRange, xs_forTup, xs_while, xs_ret, xs_retNone, xs_brk, xs_cont, xs_pass, xs_raise, xs_try, xs_hand, ee_var, ee_cint, ee_cstr, ee_cnone, ee_cbool, ee_gint, ee_gstr, ee_bin, ee_neg, ee_not, ee_and, ee_or, ee_cmp, ee_cmp2, ee_call, ee_bi, ee_copy, ee_isi, ee_make, ee_meth, ee_attr, ee_idx, ee_sliceTo, ee_sliceFrom, ee_tup, ee_lst, ee_sumAt, ee_rev, ee_strMul, es_0, es_1, ea_0, ea_1, eo_0, eo_1, R.bind, R.got, R.on, R.son, ofOpt, List.getElem?_cons_zero, List.getElem?_cons_succ, List.set_cons_zero, List.set_cons_succ, truth, bin_add, bin_sub, cmp_lt, cmp_le, cmp_gt, cmp_ge, cmp_eq, cmp_ne, biV_max, biV_min, it_t0, it_t1, it_t2, it_t3, it_l0, it_l1, it_l2, it_l3, Option.map_some, Bool.not_true, Bool.not_false, if_true, if_false, Bool.false_eq_true, decide_true, decide_false, reduceIte]
      · rw [p2, List.set_set]
        refine ex_ret ?_
        simp only [xb_0, xb_1, xs_expr, xs_append, xs_assign, xs_unpack, xs_setattr, xs_setitem, xs_unpackSub, xs_unpackL, xs_ite, xs_forIn, xs_forRange, xs_forTup, xs_while, xs_ret, xs_retNone, xs_brk, xs_cont, xs_pass, xs_raise, xs_try, xs_hand, ee_var, ee_cint, ee_cstr, ee_cnone, ee_cbool, ee_gint, ee_gstr, ee_bin, ee_neg, ee_not, ee_and, ee_or, ee_cmp, ee_cmp2, ee_call, ee_bi, ee_copy, ee_isi, ee_make, ee_meth, ee_attr, ee_idx, ee_sliceTo, ee_sliceFrom, ee_tup, ee_lst, ee_sumAt, ee_rev, ee_strMul, es_0, es_1, ea_0, ea_1, eo_0, eo_1, R.bind, R.got, R.on, R.son, ofOpt, List.getElem?_cons_zero, List.getElem?_cons_succ, List.set_cons_zero, List.set_cons_succ, truth, bin_add, bin_sub, cmp_lt, cmp_le, cmp_gt, cmp_ge, cmp_eq, cmp_ne, biV_max, biV_min, it_t0, it_t1, it_t2, it_t3, it_l0, it_l1, it_l2, it_l3, Option.map_some, Bool.not_true, Bool.not_false, if_true, if_false, Bool.false_eq_true, decide_true, decide_false, reduceIte]
  · obtain ⟨w, hw⟩ : ∃ w, w = (if b / 1000000 < cents then b / 1000000 else cents) := ⟨_, rfl⟩
    have hp : partsV left b cents = (w, cents - w, left - (cents - w), b - w * 1000000) := by rw [partsV, if_neg hc, ← hw, Int.mul_comm 1000000 w]
    rw [hp]
    refine step (ρ' := [some (.loc i), some (.int d), some (.int cents), some (.tup [.int left, .int b]), some (.int (owedV left b)), none]) (σ' := σ.set i (.inst 0 (loanF r left begun d))) (ex_ite (σ' := σ.set i (.inst 0 (loanF r left begun d))) (t := false) ?_ ?_) ?_
    · simp only [xb_0, xb_1, xs_expr, xs_append, xs_assign, xs_unpack, xs_setattr, xs_setitem, xs_unpackSub, xs_unpackL, xs_ite, xs_forIn, xs_forRange, xs_forTup, xs_while, xs_ret, xs_retNone, xs_brk, xs_cont, xs_pass, xs_raise, xs_try, xs_hand, ee_var, ee_cint, ee_cstr, ee_cnone, ee_cbool, ee_gint, ee_gstr, ee_bin, ee_neg, ee_not, ee_and, ee_or, ee_cmp, ee_cmp2, ee_call, ee_bi, ee_copy, ee_isi, ee_make, ee_meth, ee_attr, ee_idx, ee_sliceTo, ee_sliceFrom, ee_tup, ee_lst, ee_sumAt, ee_rev, ee_strMul, es_0, es_1, ea_0, ea_1, eo_0, eo_1, R.bind, R.got, R.on, R.son, ofOpt, List.getElem?_cons_zero, List.getElem?_cons_succ, List.set_cons_zero, List.set_cons_succ, truth, bin_add, bin_sub, cmp_lt, cmp_le, cmp_gt, cmp_ge, cmp_eq, cmp_ne, biV_max, biV_min, it_t0, it_t1, it_t2, it_t3, it_l0, it_l1, it_l2, it_l3, Option.map_some, Bool.not_true, Bool.not_false, if_true, if_false, Bool.false_eq_true, decide_true, decide_false, reduceIte, decide_eq_false hc]
    · simp only [xb_0, xb_1, xs_expr, xs_append, xs_assign, xs_unpack, xs_setattr, xs_setitem, xs_unpackSub, xs_unpackL, xs_ite, xs_forIn, xs_forRange, xs_forTup, xs_while, xs_ret, xs_retNone, xs_brk, xs_cont, xs_pass, xs_raise, xs_try, xs_hand, ee_var, ee_cint, ee_cstr, ee_cnone, ee_cbool, ee_gint, ee_gstr, ee_bin, ee_neg, ee_not, ee_and, ee_or, ee_cmp, ee_cmp2, ee_call, ee_bi, ee_copy, ee_isi, ee_make, ee_meth, ee_attr, ee_idx, ee_sliceTo, ee_sliceFrom, ee_tup, ee_lst, ee_sumAt, ee_rev, ee_strMul, es_0, es_1, ea_0, ea_1, eo_0, eo_1, R.bind, R.got, R.on, R.son, ofOpt, List.getElem?_cons_zero, List.getElem?_cons_succ, List.set_cons_zero, List.set_cons_succ, truth, bin_add, bin_sub, cmp_lt, cmp_le, cmp_gt, cmp_ge, cmp_eq, cmp_ne, biV_max, biV_min, it_t0, it_t1, it_t2, it_t3, it_l0, it_l1, it_l2, it_l3, Option.map_some, Bool.not_true, Bool.not_false, if_true, if_false, Bool.false_eq_true, decide_true, decide_false, reduceIte]
    refine step (ρ' := [some (.loc i), some (.int d), some (.int cents), some (.tup [.int left, .int b]), some (.int (owedV left b)), some (.int w)]) (σ' := σ.set i (.inst 0 (loanF r left begun d))) ?_ ?_
    · simp only [xb_0, xb_1, xs_expr, xs_append, xs_assign, xs_unpack, xs_setattr, xs_setitem, xs_unpackSub, xs_unpackL, xs_ite, xs_forIn, xs_forRange, xs_forTup, xs_while, xs_ret, xs_retNone, xs_brk, xs_cont, xs_pass, xs_raise, xs_try, xs_hand, ee_var, ee_cint, ee_cstr, ee_cnone, ee_cbool, ee_gint, ee_gstr, ee_bin, ee_neg, ee_not, ee_and, ee_or, ee_cmp, ee_cmp2, ee_call, ee_bi, ee_copy, ee_isi, ee_make, ee_meth, ee_attr, ee_idx, ee_sliceTo, ee_sliceFrom, ee_tup, ee_lst, ee_sumAt, ee_rev, ee_strMul, es_0, es_1, ea_0, ea_1, eo_0, eo_1, R.bind, R.got, R.on, R.son, ofOpt, List.getElem?_cons_zero, List.getElem?_cons_succ, List.set_cons_zero, List.set_cons_succ, truth, bin_add, bin_sub, cmp_lt, cmp_le, cmp_gt, cmp_ge, cmp_eq, cmp_ne, biV_max, biV_min, it_t0, it_t1, it_t2, it_t3, it_l0, it_l1, it_l2, it_l3, Option.map_some, Bool.not_true, Bool.not_false, if_true, if_false, Bool.false_eq_true, decide_true, decide_false, reduceIte, bin_div (show (0 : Int) < 1000000 by decide), ← hw]
    refine step (ex_set (σ₁ := σ.set i (.inst 0 (loanF r left begun d))) (σ₂ := σ.set i (.inst 0 (loanF r left begun d))) (v := .int (left - (cents - w))) ?_ ?_ (g1 _) a1 (by simp [loanF])) (step (ex_set (σ₁ := σ.set i (.inst 0 (loanF r (left - (cents - w)) begun d))) (σ₂ := σ.set i (.inst 0 (loanF r (left - (cents - w)) begun d))) (v := .int (b - w * 1000000)) ?_ ?_ (g1 _) a2 (by simp [loanF])) ?_)
    · simp only [xb_0, xb_1, xs_expr, xs_append, xs_assign, xs_unpack, xs_setattr, xs_setitem, xs_unpackSub, xs_unpackL, xs_ite, xs_forIn, xs_forRange, xs_forTup, xs_while, xs_ret, xs_retNone, xs_brk, xs_cont, xs_pass, xs_raise, xs_try, xs_hand, ee_var, ee_cint, ee_cstr, ee_cnone, ee_cbool, ee_gint, ee_gstr, ee_bin, ee_neg, ee_not, ee_and, ee_or, ee_cmp, ee_cmp2, ee_call, ee_bi, ee_copy, ee_isi, ee_make, ee_meth, ee_attr, ee_idx, ee_sliceTo, ee_sliceFrom, ee_tup, ee_lst, ee_sumAt, ee_rev, ee_strMul, es_0, es_1, ea_0, ea_1, eo_0, eo_1, R.bind, R.got, R.on, R.son, ofOpt, List.getElem?_cons_zero, List.getElem?_cons_succ, List.set_cons_zero, List.set_cons_succ, truth, bin_add, bin_sub, cmp_lt, cmp_le, cmp_gt, cmp_ge, cmp_eq, cmp_ne, biV_max, biV_min, it_t0, it_t1, it_t2, it_t3, it_l0, it_l1, it_l2, it_l3, Option.map_some, Bool.not_true, Bool.not_false, if_true, if_false, Bool.false_eq_true, decide_true, decide_false, reduceIte]
    · simp only [xb_0, xb_1, xs_expr, xs_append, xs_assign, xs_unpack, xs_setattr, xs_setitem, xs_unpackSub, xs_unpackL, xs_ite, xs_forIn, xs_forRange, xs_forTup, xs_while, xs_ret, xs_retNone, xs_brk, xs_cont, xs_pass, xs_raise, xs_try, xs_hand, ee_var, ee_cint, ee_cstr, ee_cnone, ee_cbool, ee_gint, ee_gstr, ee_bin, ee_neg, ee_not, ee_and, ee_or, ee_cmp, ee_cmp2, ee_call, ee_bi, ee_copy, ee_isi, ee_make, ee_meth, ee_attr, ee_idx, ee_sliceTo, ee_sliceFrom, ee_tup, ee_lst, ee_sumAt, ee_rev, ee_strMul, es_0, es_1, ea_0, ea_1, eo_0, eo_1, R.bind, R.got, R.on, R.son, ofOpt, List.getElem?_cons_zero, List.getElem?_cons_succ, List.set_cons_zero, List.set_cons_succ, truth, bin_add, bin_sub, cmp_lt, cmp_le, cmp_gt, cmp_ge, cmp_eq, cmp_ne, biV_max, biV_min, it_t0, it_t1, it_t2, it_t3, it_l0, it_l1, it_l2, it_l3, Option.map_some, Bool.not_true, Bool.not_false, if_true, if_false, Bool.false_eq_true, decide_true, decide_false, reduceIte]
    · simp only [xb_0, xb_1, xs_expr, xs_append, xs_assign, xs_unpack, xs_setattr, xs_setitem, xs_unpackSub, xs_unpackL, xs_ite, xs_forIn, xs_forRange, xs_forTup, xs_while, xs_ret, xs_retNone, xs_brk, xs_cont, xs_pass, xs_raise, xs_try, xs_hand, ee_var, ee_cint, ee_cstr, ee_cnone, ee_cbool, ee_gint, ee_gstr, ee_bin, ee_neg, ee_not, ee_and, ee_or, ee_cmp, ee_cmp2, ee_call, ee_bi, ee_copy, ee_isi, ee_make, ee_meth, ee_attr, ee_idx, ee_sliceTo, ee_sliceFrom, ee_tup, ee_lst, ee_sumAt, ee_rev, ee_strMul, es_0, es_1, ea_0, ea_1, eo_0, eo_1, R.bind, R.got, R.on, R.son, ofOpt, List.getElem?_cons_zero, List.getElem?_cons_succ, List.set_cons_zero, List.set_cons_succ, truth, bin_add, bin_sub, cmp_lt, cmp_le, cmp_gt, cmp_ge, cmp_eq, cmp_ne, biV_max, biV_min, it_t0, it_t1, it_t2, it_t3, it_l0, it_l1, it_l2, it_l3, Option.map_some, Bool.not_true, Bool.not_false, if_true, if_false, Bool.false_eq_true, decide_true, decide_false, reduceIte, p1, List.set_set, hm]
    · simp only [xb_0, xb_1, xs_expr, xs_append, xs_assign, xs_unpack, xs_setattr, xs_setitem, xs_unpackSub, xs_unpackL, xs_ite, xs_forIn, xs_forRange, xs_forTup, xs_while, xs_ret, xs_retNone, xs_brk, xs_cont, xs_pass, xs_raise, xs_try, xs_hand, ee_var, ee_cint, ee_cstr, ee_cnone, ee_cbool, ee_gint, ee_gstr, ee_bin, ee_neg, ee_not, ee_and, ee_or, ee_cmp, ee_cmp2, ee_call, ee_bi, ee_copy, ee_isi, ee_make, ee_meth, ee_attr, ee_idx, ee_sliceTo, ee_sliceFrom, ee_tup, ee_lst, ee_sumAt, ee_rev, ee_strMul, es_0, es_1, ea_0, ea_1, eo_0, eo_1, R.bind, R.got, R.on, R.son, ofOpt, List.getElem?_cons_zero, List.getElem?_cons_succ, List.set_cons_zero, List.set_cons_succ, truth, bin_add, bin_sub, cmp_lt, cmp_le, cmp_gt, cmp_ge, cmp_eq, cmp_ne, biV_max, biV_min, it_t0, it_t1, it_t2, it_t3, it_l0, it_l1, it_l2, it_l3, Option.map_some, Bool.not_true, Bool.not_false, if_true, if_false, Bool.false_eq_true, decide_true, decide_false, reduceIte]
    · rw [p2, List.set_set]
      refine ex_ret ?_
      simp only [xb_0, xb_1, xs_expr, xs_append, xs_assign, xs_unpack, xs_setattr, xs_setitem, xs_unpackSub, xs_unpackL, xs_ite, xs_forIn, xs_forRange, xs_forTup, xs_while, xs_ret, xs_retNone, xs_brk, xs_cont, xs_pass, xs_raise, xs_try, xs_hand, ee_var, ee_cint, ee_cstr, ee_cnone, ee_cbool, ee_gint, ee_gstr, ee_bin, ee_neg, ee_not, ee_and, ee_or, ee_cmp, ee_cmp2, ee_call, ee_bi, ee_copy, ee_isi, ee_make, ee_meth, ee_attr, ee_idx, ee_sliceTo, ee_sliceFrom, ee_tup, ee_lst, ee_sumAt, ee_rev, ee_strMul, es_0, es_1, ea_0, ea_1, eo_0, eo_1, R.bind, R.got, R.on, R.son, ofOpt, List.getElem?_cons_zero, List.getElem?_cons_succ, List.set_cons_zero, List.set_cons_succ, truth, bin_add, bin_sub, cmp_lt, cmp_le, cmp_gt, cmp_ge, cmp_eq, cmp_ne, biV_max, biV_min, it_t0, it_t1, it_t2, it_t3, it_l0, it_l1, it_l2, it_l3, Option.map_some, Bool.not_true, Bool.not_false, if_true, if_false, Bool.false_eq_true, decide_true, decide_false, reduceIte]
theorem F_change (H : HasLoan P) (HP : HasPay P) {last : Int × Int} (L : Lo σ i r (row ++ [last]) left begun day) (hl : row.length < 90000) (d rate : Int) (h1 : day < d) (h2 : last.1 < d) (h3 : d ≤ 100000) (h4 : 0 ≤ rate) (h5 : rate ≤ 100000) :
    fn P 27 [.loc i, .int d, .int rate] σ = .ok .none (σ.set r (.list (rowV (row ++ [last] ++ [(d, rate)])))) := by
  rw [fn_has HP.change]
  have a0 := attr_ok H 27 (show 0 < 4 by decide)
  have a3 := attr_ok H 27 (show 3 < 4 by decide)
  have e1 : ¬ d ≤ day := by omega
  have e2 : ¬ d ≤ last.1 := by omega
  have e3 : ¬ 100000 < d := by omega
  have f0 : fieldOf 0 (loanF r left begun day) = some (.loc r) := rfl
  have f3 : fieldOf 3 (loanF r left begun day) = some (.int day) := rfl
  have hi := item_last (σ := σ) (v := .loc r) (l := row) (p := last) (by simp only [listOf, L.lst]) (fun vs h => by cases h)
  have hs := F_sure_rate H rate h4 h5 σ
  have hlen : (rowV (row ++ [last])).length < 1000000 := by rw [List.length_map, List.length_append, List.length_singleton]; omega
  refine callFn_next (ρ := [some (.loc i), some (.int d), some (.int rate)]) rfl (step (ρ' := [some (.loc i), some (.int d), some (.int rate)]) (σ' := σ) (ex_ite (σ' := σ) (t := false) ?_ ?_) (step (ρ' := [some (.loc i), some (.int d), some (.int rate)]) (σ' := σ) ?_ (step (ex_append (σ₁ := σ) (σ₂ := σ) (i := r) (v := .tup [.int d, .int rate]) ?_ ?_ L.lst L.lst hlen) ?_)))
  · simp only [xb_0, xb_1, xs_expr, xs_append, xs_assign, xs_unpack, xs_setattr, xs_setitem, xs_unpackSub, xs_unpackL, xs_ite, xs_forIn, xs_forRange, xs_forTup, xs_while, xs_ret, xs_retNone, xs_brk, xs_cont, xs_pass, xs_raise, xs_try, xs_hand, ee_var, ee_cint, ee_cstr, ee_cnone, ee_cbool, ee_gint, ee_gstr, ee_bin, ee_neg, ee_not, ee_and, ee_or, ee_cmp, ee_cmp2, ee_call, ee_bi, ee_copy, ee_isi, ee_make, ee_meth, ee_attr, ee_idx, ee_sliceTo, ee_sliceFrom, ee_tup, ee_lst, ee_sumAt, ee_rev, ee_strMul, es_0, es_1, ea_0, ea_1, eo_0, eo_1, R.bind, R.got, R.on, R.son, ofOpt, List.getElem?_cons_zero, List.getElem?_cons_succ, List.set_cons_zero, List.set_cons_succ, truth, bin_add, bin_sub, cmp_lt, cmp_le, cmp_gt, cmp_ge, cmp_eq, cmp_ne, biV_max, biV_min, it_t0, it_t1, it_t2, it_t3, it_l0, it_l1, it_l2, it_l3, Option.map_some, Bool.not_true, Bool.not_false, if_true, if_false, Bool.false_eq_true, decide_true, decide_false, reduceIte, List.map_cons, List.map_nil, List.cons_append, L.obj, a0, a3, f0, f3, hi, item_fst, decide_eq_false e1, decide_eq_false e2, decide_eq_false e3]
  · simp only [xb_0, xb_1, xs_expr, xs_append, xs_assign, xs_unpack, xs_setattr, xs_setitem, xs_unpackSub, xs_unpackL, xs_ite, xs_forIn, xs_forRange, xs_forTup, xs_while, xs_ret, xs_retNone, xs_brk, xs_cont, xs_pass, xs_raise, xs_try, xs_hand, ee_var, ee_cint, ee_cstr, ee_cnone, ee_cbool, ee_gint, ee_gstr, ee_bin, ee_neg, ee_not, ee_and, ee_or, ee_cmp, ee_cmp2, ee_call, ee_bi, ee_copy, ee_isi, ee_make, ee_meth, ee_attr, ee_idx, ee_sliceTo, ee_sliceFrom, ee_tup, ee_lst, ee_sumAt, ee_rev, ee_strMul, es_0, es_1, ea_0, ea_1, eo_0, eo_1, R.bind, R.got, R.on, R.son, ofOpt, List.getElem?_cons_zero, List.getElem?_cons_succ, List.set_cons_zero, List.set_cons_succ, truth, bin_add, bin_sub, cmp_lt, cmp_le, cmp_gt, cmp_ge, cmp_eq, cmp_ne, biV_max, biV_min, it_t0, it_t1, it_t2, it_t3, it_l0, it_l1, it_l2, it_l3, Option.map_some, Bool.not_true, Bool.not_false, if_true, if_false, Bool.false_eq_true, decide_true, decide_false, reduceIte]; rfl
  · simp only [xb_0, xb_1, xs_expr, xs_append, xs_assign, xs_unpack, xs_setattr, xs_setitem, xs_unpackSub, xs_unpackL, xs_ite, xs_forIn, xs_forRange, xs_forTup, xs_while, xs_ret, xs_retNone, xs_brk, xs_cont, xs_pass, xs_raise, xs_try, xs_hand, ee_var, ee_cint, ee_cstr, ee_cnone, ee_cbool, ee_gint, ee_gstr, ee_bin, ee_neg, ee_not, ee_and, ee_or, ee_cmp, ee_cmp2, ee_call, ee_bi, ee_copy, ee_isi, ee_make, ee_meth, ee_attr, ee_idx, ee_sliceTo, ee_sliceFrom, ee_tup, ee_lst, ee_sumAt, ee_rev, ee_strMul, es_0, es_1, ea_0, ea_1, eo_0, eo_1, R.bind, R.got, R.on, R.son, ofOpt, List.getElem?_cons_zero, List.getElem?_cons_succ, List.set_cons_zero, List.set_cons_succ, truth, bin_add, bin_sub, cmp_lt, cmp_le, cmp_gt, cmp_ge, cmp_eq, cmp_ne, biV_max, biV_min, it_t0, it_t1, it_t2, it_t3, it_l0, it_l1, it_l2, it_l3, Option.map_some, Bool.not_true, Bool.not_false, if_true, if_false, Bool.false_eq_true, decide_true, decide_false, reduceIte, pre_fn (show 20 < 27 by decide), hs]
  · simp only [xb_0, xb_1, xs_expr, xs_append, xs_assign, xs_unpack, xs_setattr, xs_setitem, xs_unpackSub, xs_unpackL, xs_ite, xs_forIn, xs_forRange, xs_forTup, xs_while, xs_ret, xs_retNone, xs_brk, xs_cont, xs_pass, xs_raise, xs_try, xs_hand, ee_var, ee_cint, ee_cstr, ee_cnone, ee_cbool, ee_gint, ee_gstr, ee_bin, ee_neg, ee_not, ee_and, ee_or, ee_cmp, ee_cmp2, ee_call, ee_bi, ee_copy, ee_isi, ee_make, ee_meth, ee_attr, ee_idx, ee_sliceTo, ee_sliceFrom, ee_tup, ee_lst, ee_sumAt, ee_rev, ee_strMul, es_0, es_1, ea_0, ea_1, eo_0, eo_1, R.bind, R.got, R.on, R.son, ofOpt, List.getElem?_cons_zero, List.getElem?_cons_succ, List.set_cons_zero, List.set_cons_succ, truth, bin_add, bin_sub, cmp_lt, cmp_le, cmp_gt, cmp_ge, cmp_eq, cmp_ne, biV_max, biV_min, it_t0, it_t1, it_t2, it_t3, it_l0, it_l1, it_l2, it_l3, Option.map_some, Bool.not_true, Bool.not_false, if_true, if_false, Bool.false_eq_true, decide_true, decide_false, reduceIte, L.obj, a0, f0]
  · simp only [xb_0, xb_1, xs_expr, xs_append, xs_assign, xs_unpack, xs_setattr, xs_setitem, xs_unpackSub, xs_unpackL, xs_ite, xs_forIn, xs_forRange, xs_forTup, xs_while, xs_ret, xs_retNone, xs_brk, xs_cont, xs_pass, xs_raise, xs_try, xs_hand, ee_var, ee_cint, ee_cstr, ee_cnone, ee_cbool, ee_gint, ee_gstr, ee_bin, ee_neg, ee_not, ee_and, ee_or, ee_cmp, ee_cmp2, ee_call, ee_bi, ee_copy, ee_isi, ee_make, ee_meth, ee_attr, ee_idx, ee_sliceTo, ee_sliceFrom, ee_tup, ee_lst, ee_sumAt, ee_rev, ee_strMul, es_0, es_1, ea_0, ea_1, eo_0, eo_1, R.bind, R.got, R.on, R.son, ofOpt, List.getElem?_cons_zero, List.getElem?_cons_succ, List.set_cons_zero, List.set_cons_succ, truth, bin_add, bin_sub, cmp_lt, cmp_le, cmp_gt, cmp_ge, cmp_eq, cmp_ne, biV_max, biV_min, it_t0, it_t1, it_t2, it_t3, it_l0, it_l1, it_l2, it_l3, Option.map_some, Bool.not_true, Bool.not_false, if_true, if_false, Bool.false_eq_true, decide_true, decide_false, reduceIte]
  · simp [xb_0, xb_1, rowV]
end
end
end Mine
set_option maxRecDepth 100000
set_option linter.unusedVariables false
set_option linter.unusedSimpArgs false
namespace Mine
open PySem


noncomputable def amountBy (a : Int) : Int :=
  if a % 4 = 0 then (if a / 4 % 4 = 0 then 1 else if a / 4 % 4 = 1 then 2 else if a / 4 % 4 = 2 then 999999999999 else 1000000000000)
  else if a % 4 = 1 then 1 + a / 4 % 5000 else 1 + (mixed a 2147483647 * 467 + 5) % 1000000000000
theorem amount_ok (a : Int) : 1 ≤ amountBy a ∧ amountBy a ≤ 1000000000000 := by
  unfold amountBy
  repeat' split
  all_goals omega
section
variable {P : Prog}
theorem F_amount (HB : Base P) (H : Has P 7 s_l_amount_by 1 b_l_amount_by) (a : Int) (σ : Store) : fn P 7 [.int a] σ = .ok (.int (amountBy a)) σ := by
  rw [fn_has H]
  have hm : ∀ z, binV σ .Mult (.int z) (.int 467) = some (.int (z * 467)) := fun z => bin_mulr (by decide) (by decide)
  have hx := F_mixed HB a 2147483647 (by decide) σ
  refine callFn_ret rfl ?_
  by_cases h0 : a % 4 = 0
  · have h4 : a / 4 % 4 = 0 ∨ a / 4 % 4 = 1 ∨ a / 4 % 4 = 2 ∨ a / 4 % 4 = 3 := by omega
    rcases h4 with h4 | h4 | h4 | h4 <;>
    simp only [b_l_amount_by, xb_0, xb_1, xs_expr, xs_append, xs_assign, xs_unpack, xs_setattr, xs_setitem, xs_unpackSub, xs_unpackL, xs_ite, xs_forIn, xs_forRange, xs_forTup, xs_while, xs_ret, xs_retNone, xs_brk, xs_cont, xs_pass, xs_raise, xs_try, xs_hand, ee_var, ee_cint, ee_cstr, ee_cnone, ee_cbool, ee_gint, ee_gstr, ee_bin, ee_neg, ee_not, ee_and, ee_or, ee_cmp, ee_cmp2, ee_call, ee_bi, ee_copy, ee_isi, ee_make, ee_meth, ee_attr, ee_idx, ee_sliceTo, ee_sliceFrom, ee_tup, ee_lst, ee_sumAt, ee_rev, ee_strMul, es_0, es_1, ea_0, ea_1, eo_0, eo_1, R.bind, R.got, R.on, R.son, ofOpt, List.getElem?_cons_zero, List.getElem?_cons_succ, List.set_cons_zero, List.set_cons_succ, truth, bin_add, bin_sub, cmp_lt, cmp_le, cmp_gt, cmp_ge, cmp_eq, cmp_ne, biV_max, biV_min, it_t0, it_t1, it_t2, it_t3, it_l0, it_l1, it_l2, it_l3, Option.map_some, Bool.not_true, Bool.not_false, if_true, if_false, Bool.false_eq_true, decide_true, decide_false, reduceIte, List.map_cons, List.map_nil, List.cons_append, bin_mod (show (0 : Int) < 4 by decide), bin_div (show (0 : Int) < 4 by decide), h0, h4, decide_true, amountBy] <;> rfl
  · by_cases h1 : a % 4 = 1
    · have h0' : ¬ (1 : Int) = 0 := by decide
      simp only [b_l_amount_by, xb_0, xb_1, xs_expr, xs_append, xs_assign, xs_unpack, xs_setattr, xs_setitem, xs_unpackSub, xs_unpackL, xs_ite, xs_forIn, xs_forRange, xs_forTup, xs_while, xs_ret, xs_retNone, xs_brk, xs_cont, xs_pass, xs_raise, xs_try, xs_hand, ee_var, ee_cint, ee_cstr, ee_cnone, ee_cbool, ee_gint, ee_gstr, ee_bin, ee_neg, ee_not, ee_and, ee_or, ee_cmp, ee_cmp2, ee_call, ee_bi, ee_copy, ee_isi, ee_make, ee_meth, ee_attr, ee_idx, ee_sliceTo, ee_sliceFrom, ee_tup, ee_lst, ee_sumAt, ee_rev, ee_strMul, es_0, es_1, ea_0, ea_1, eo_0, eo_1, R.bind, R.got, R.on, R.son, ofOpt, List.getElem?_cons_zero, List.getElem?_cons_succ, List.set_cons_zero, List.set_cons_succ, truth, bin_add, bin_sub, cmp_lt, cmp_le, cmp_gt, cmp_ge, cmp_eq, cmp_ne, biV_max, biV_min, it_t0, it_t1, it_t2, it_t3, it_l0, it_l1, it_l2, it_l3, Option.map_some, Bool.not_true, Bool.not_false, if_true, if_false, Bool.false_eq_true, decide_true, decide_false, reduceIte, List.map_cons, List.map_nil, List.cons_append, bin_mod (show (0 : Int) < 4 by decide), bin_mod (show (0 : Int) < 5000 by decide), bin_div (show (0 : Int) < 4 by decide), h1, decide_eq_false h0', amountBy, if_neg h0']
    · simp only [b_l_amount_by, xb_0, xb_1, xs_expr, xs_append, xs_assign, xs_unpack, xs_setattr, xs_setitem, xs_unpackSub, xs_unpackL, xs_ite, xs_forIn, xs_forRange, xs_forTup, xs_while, xs_ret, xs_retNone, xs_brk, xs_cont, xs_pass, xs_raise, xs_try, xs_hand, ee_var, ee_cint, ee_cstr, ee_cnone, ee_cbool, ee_gint, ee_gstr, ee_bin, ee_neg, ee_not, ee_and, ee_or, ee_cmp, ee_cmp2, ee_call, ee_bi, ee_copy, ee_isi, ee_make, ee_meth, ee_attr, ee_idx, ee_sliceTo, ee_sliceFrom, ee_tup, ee_lst, ee_sumAt, ee_rev, ee_strMul, es_0, es_1, ea_0, ea_1, eo_0, eo_1, R.bind, R.got, R.on, R.son, ofOpt, List.getElem?_cons_zero, List.getElem?_cons_succ, List.set_cons_zero, List.set_cons_succ, truth, bin_add, bin_sub, cmp_lt, cmp_le, cmp_gt, cmp_ge, cmp_eq, cmp_ne, biV_max, biV_min, it_t0, it_t1, it_t2, it_t3, it_l0, it_l1, it_l2, it_l3, Option.map_some, Bool.not_true, Bool.not_false, if_true, if_false, Bool.false_eq_true, decide_true, decide_false, reduceIte, List.map_cons, List.map_nil, List.cons_append, bin_mod (show (0 : Int) < 4 by decide), bin_mod (show (0 : Int) < 1000000000000 by decide), decide_eq_false h0, decide_eq_false h1, amountBy, if_neg h0, if_neg h1, pre_fn (show 2 < 7 by decide), hx, hm]
theorem F_lowed (H : Has P 8 s_l_owed 2 b_l_owed) (a b : Int) (σ : Store) : fn P 8 [.int a, .int b] σ = .ok (.int (owedV a b)) σ := by
  rw [fn_has H]
  refine callFn_ret rfl (ex_ret ?_)
  simp only [xb_0, xb_1, xs_expr, xs_append, xs_assign, xs_unpack, xs_setattr, xs_setitem, xs_unpackSub, xs_unpackL, xs_ite, xs_forIn, xs_forRange, xs_forTup, xs_while, xs_ret, xs_retNone, xs_brk, xs_cont, xs_pass, xs_raise, xs_try, xs_hand, ee_var, ee_cint, ee_cstr, ee_cnone, ee_cbool, ee_gint, ee_gstr, ee_bin, ee_neg, ee_not, ee_and, ee_or, ee_cmp, ee_cmp2, ee_call, ee_bi, ee_copy, ee_isi, ee_make, ee_meth, ee_attr, ee_idx, ee_sliceTo, ee_sliceFrom, ee_tup, ee_lst, ee_sumAt, ee_rev, ee_strMul, es_0, es_1, ea_0, ea_1, eo_0, eo_1, R.bind, R.got, R.on, R.son, ofOpt, List.getElem?_cons_zero, List.getElem?_cons_succ, List.set_cons_zero, List.set_cons_succ, truth, bin_add, bin_sub, cmp_lt, cmp_le, cmp_gt, cmp_ge, cmp_eq, cmp_ne, biV_max, biV_min, it_t0, it_t1, it_t2, it_t3, it_l0, it_l1, it_l2, it_l3, Option.map_some, Bool.not_true, Bool.not_false, if_true, if_false, Bool.false_eq_true, decide_true, decide_false, reduceIte, List.map_cons, List.map_nil, List.cons_append, bin_div (show (0 : Int) < 1000000 by decide), owedV]
theorem F_lparts (H : Has P 9 s_l_parts 3 b_l_parts) (a b c : Int) (σ : Store) : fn P 9 [.int a, .int b, .int c] σ = .ok (.tup [.int (partsV a b c).1, .int (partsV a b c).2.1, .int (partsV a b c).2.2.1, .int (partsV a b c).2.2.2]) σ := by
  rw [fn_has H]
  have hm : ∀ z, binV σ .Mult (.int 1000000) (.int z) = some (.int (1000000 * z)) := fun z => bin_mull (by decide) (by decide)
  refine callFn_ret rfl ?_
  by_cases hc : c = owedV a b
  · have hp : partsV a b c = (c - a, a, 0, 0) := if_pos hc
    rw [hp]
    unfold owedV at hc
    simp only [b_l_parts, s_l_parts, List.length_cons, List.length_nil, Nat.reduceAdd, Nat.reduceSub, List.replicate, xb_0, xb_1, xs_expr, xs_append, xs_assign, xs_unpack, xs_setattr, xs_setitem, xs_unpackSub, xs_unpackL, xs_ite, xs_forIn, xs_forRange, xs_forTup, xs_while, xs_ret, xs_retNone, xs_brk, xs_cont, xs_pass, xs_raise, xs_try, xs_hand, ee_var, ee_cint, ee_cstr, ee_cnone, ee_cbool, ee_gint, ee_gstr, ee_bin, ee_neg, ee_not, ee_and, ee_or, ee_cmp, ee_cmp2, ee_call, ee_bi, ee_copy, ee_isi, ee_make, ee_meth, ee_attr, ee_idx, ee_sliceTo, ee_sliceFrom, ee_tup, ee_lst, ee_sumAt, ee_rev, ee_strMul, es_0, es_1, ea_0, ea_1, eo_0, eo_1, R.bind, R.got, R.on, R.son, ofOpt, List.getElem?_cons_zero, List.getElem?_cons_succ, List.set_cons_zero, List.set_cons_succ, truth, bin_add, bin_sub, cmp_lt, cmp_le, cmp_gt, cmp_ge, cmp_eq, cmp_ne, biV_max, biV_min, it_t0, it_t1, it_t2, it_t3, it_l0, it_l1, it_l2, it_l3, Option.map_some, Bool.not_true, Bool.not_false, if_true, if_false, Bool.false_eq_true, decide_true, decide_false, reduceIte, List.map_cons, List.map_nil, List.cons_append, List.nil_append, bin_div (show (0 : Int) < 1000000 by decide), ← hc, decide_true]
  · obtain ⟨w, hw⟩ : ∃ w, w = (if b / 1000000 < c then b / 1000000 else c) := ⟨_, rfl⟩
    have hp : partsV a b c = (w, c - w, a - (c - w), b - 1000000 * w) := by rw [partsV, if_neg hc, ← hw]
    rw [hp]
    unfold owedV at hc
    simp only [b_l_parts, s_l_parts, List.length_cons, List.length_nil, Nat.reduceAdd, Nat.reduceSub, List.replicate, xb_0, xb_1, xs_expr, xs_append, xs_assign, xs_unpack, xs_setattr, xs_setitem, xs_unpackSub, xs_unpackL, xs_ite, xs_forIn, xs_forRange, xs_forTup, xs_while, xs_ret, xs_retNone, xs_brk, xs_cont, xs_pass, xs_raise, xs_try, xs_hand, ee_var, ee_cint, ee_cstr, ee_cnone, ee_cbool, ee_gint, ee_gstr, ee_bin, ee_neg, ee_not, ee_and, ee_or, ee_cmp, ee_cmp2, ee_call, ee_bi, ee_copy, ee_isi, ee_make, ee_meth, ee_attr, ee_idx, ee_sliceTo, ee_sliceFrom, ee_tup, ee_lst, ee_sumAt, ee_rev, ee_strMul, es_0, es_1, ea_0, ea_1, eo_0, eo_1, R.bind, R.got, R.on, R.son, ofOpt, List.getElem?_cons_zero, List.getElem?_cons_succ, List.set_cons_zero, List.set_cons_succ, truth, bin_add, bin_sub, cmp_lt, cmp_le, cmp_gt, cmp_ge, cmp_eq, cmp_ne, biV_max, biV_min, it_t0, it_t1, it_t2, it_t3, it_l0, it_l1, it_l2, it_l3, Option.map_some, Bool.not_true, Bool.not_false, if_true, if_false, Bool.false_eq_true, decide_true, decide_false, reduceIte, List.map_cons, List.map_nil, List.cons_append, List.nil_append, bin_div (show (0 : Int) < 1000000 by decide), decide_eq_false hc, ← hw, hm]
theorem RowOk.asc : ∀ {l : List (Int × Int)} {a : Int}, RowOk a l → Asc l ∧ ∀ p ∈ l, a < p.1
  | [], _, _ => ⟨.nil, fun p h => nomatch h⟩
  | p :: r, a, h => by
    obtain ⟨h1, h2, h3, h4, h5, h6, h7⟩ := h
    obtain ⟨q1, q2⟩ := RowOk.asc h7
    refine ⟨List.pairwise_cons.mpr ⟨q2, q1⟩, fun x hx => ?_⟩
    rcases List.mem_cons.mp hx with rfl | hx
    · exact h3
    · have := q2 x hx; omega
theorem RowOk.rate : ∀ {l : List (Int × Int)} {a : Int}, RowOk a l → RateOk l
  | [], _, _ => fun p h => nomatch h
  | p :: r, a, h => by
    obtain ⟨h1, h2, h3, h4, h5, h6, h7⟩ := h
    intro x hx
    rcases List.mem_cons.mp hx with rfl | hx
    · exact ⟨h5, h6⟩
    · exact RowOk.rate h7 x hx
theorem RowOk.days : ∀ {l : List (Int × Int)} {a : Int}, RowOk a l → ∀ p ∈ l, 0 ≤ p.1 ∧ p.1 ≤ 100000
  | [], _, _ => fun p h => nomatch h
  | p :: r, a, h => by
    obtain ⟨h1, h2, h3, h4, h5, h6, h7⟩ := h
    intro x hx
    rcases List.mem_cons.mp hx with rfl | hx
    · exact ⟨h1, h2⟩
    · exact RowOk.days h7 x hx
theorem rowOk_of : ∀ {l : List (Int × Int)} {a : Int}, 0 ≤ a → Asc l → RateOk l → (∀ p ∈ l, a < p.1 ∧ p.1 ≤ 100000) → RowOk a l
  | [], _, _, _, _, _ => trivial
  | p :: r, a, h0, ha, hr, hd => by
    have h1 := hd p (by simp)
    have h2 := hr p (by simp)
    refine ⟨by omega, h1.2, h1.1, fun q => by omega, h2.1, h2.2, rowOk_of (by omega) (List.pairwise_cons.mp ha).2 (fun x hx => hr x (by simp [hx])) fun x hx => ⟨(List.pairwise_cons.mp ha).1 x hx, (hd x (by simp [hx])).2⟩⟩
theorem rowOk_first {r0 : Int} {l : List (Int × Int)} (ha : Asc ((0, r0) :: l)) (hr : RateOk ((0, r0) :: l)) (hd : ∀ p ∈ l, p.1 ≤ 100000) : RowOk (-1) ((0, r0) :: l) := by
  have h2 := hr (0, r0) (by simp)
  exact ⟨by show (0 : Int) ≤ 0; decide, by show (0 : Int) ≤ 100000; decide, by show (-1 : Int) < 0; decide, fun _ => rfl, h2.1, h2.2, rowOk_of (by show (0 : Int) ≤ 0; decide) (List.pairwise_cons.mp ha).2 (fun x hx => hr x (by simp [hx])) fun x hx => ⟨(List.pairwise_cons.mp ha).1 x hx, hd x hx⟩⟩
theorem RowOk.app : ∀ {l m : List (Int × Int)} {a : Int}, RowOk a (l ++ m) → RowOk a l
  | [], _, _, _ => trivial
  | p :: r, m, a, h => by
    obtain ⟨h1, h2, h3, h4, h5, h6, h7⟩ := h
    exact ⟨h1, h2, h3, h4, h5, h6, RowOk.app h7⟩
/-- the rows of the laws may be lent on -/
theorem rowL_ok (cell wide : Int) (n : Nat) (hw : 0 < wide) (h : (n : Int) * wide ≤ 100000) : RowOk (-1) (rowL cell wide n) := by
  obtain ⟨r, hc, _⟩ := rowL_cons cell wide n
  have ha := rowL_asc cell wide hw n
  have hr := rowL_rate cell wide n
  have hd : ∀ p ∈ rowL cell wide n, p.1 ≤ 100000 := by
    intro p hp
    simp only [rowL, List.mem_map, List.mem_range] at hp
    obtain ⟨k, hk, rfl⟩ := hp
    have h1 := rowD_le cell wide hw k
    have h2 : (k : Int) * wide ≤ (n : Int) * wide := Int.mul_le_mul_of_nonneg_right (by omega) (by omega)
    show rowD _ _ _ ≤ _
    omega
  rw [hc] at ha hr hd ⊢
  exact rowOk_first ha hr fun p hp => hd p (by simp [hp])

theorem cut_to {σ : Store} {v : V} {vs : List V} {k : Int} {n : Nat} (hs : listOf σ v = some vs) (hl : vs.length ≤ 1000000) (h0 : 0 ≤ k) (h1 : k < 1000000) (hn : k.toNat = n) : cutV σ true v (.int k) = some (.lst (vs.take n)) := by
  subst hn
  simp only [cutV]
  rw [if_pos ⟨h0, h1⟩, hs]
  dsimp only
  rw [if_pos hl]
  rfl
theorem cut_from {σ : Store} {v : V} {vs : List V} {k : Int} {n : Nat} (hs : listOf σ v = some vs) (hl : vs.length ≤ 1000000) (h0 : 0 ≤ k) (h1 : k < 1000000) (hn : k.toNat = n) : cutV σ false v (.int k) = some (.lst (vs.drop n)) := by
  subst hn
  simp only [cutV]
  rw [if_pos ⟨h0, h1⟩, hs]
  dsimp only
  rw [if_pos hl]
  rfl
theorem ev_to {Φ : Fns} {ρ : Loc} {a k : ME} {σ σ₁ σ₂ : Store} {x y : V} {vs : List V} (ha : evalE Φ ρ a σ = .ok x σ₁) (hk : evalE Φ ρ k σ₁ = .ok y σ₂) (hc : cutV σ₂ true x y = some (.lst vs)) : evalE Φ ρ (.sliceTo false a k) σ = .ok (.lst vs) σ₂ := by
  simp only [ee_var, ee_cint, ee_cstr, ee_cnone, ee_cbool, ee_gint, ee_gstr, ee_bin, ee_neg, ee_not, ee_and, ee_or, ee_cmp, ee_cmp2, ee_call, ee_bi, ee_copy, ee_isi, ee_make, ee_meth, ee_attr, ee_idx, ee_sliceTo, ee_sliceFrom, ee_tup, ee_lst, ee_sumAt, ee_rev, ee_strMul, ha, hk, R.bind]
  rw [hc]
  simp only [ofOpt, newL]
theorem ev_from {Φ : Fns} {ρ : Loc} {a k : ME} {σ σ₁ σ₂ : Store} {x y : V} {vs : List V} (ha : evalE Φ ρ a σ = .ok x σ₁) (hk : evalE Φ ρ k σ₁ = .ok y σ₂) (hc : cutV σ₂ false x y = some (.lst vs)) : evalE Φ ρ (.sliceFrom false a k) σ = .ok (.lst vs) σ₂ := by
  simp only [ee_var, ee_cint, ee_cstr, ee_cnone, ee_cbool, ee_gint, ee_gstr, ee_bin, ee_neg, ee_not, ee_and, ee_or, ee_cmp, ee_cmp2, ee_call, ee_bi, ee_copy, ee_isi, ee_make, ee_meth, ee_attr, ee_idx, ee_sliceTo, ee_sliceFrom, ee_tup, ee_lst, ee_sumAt, ee_rev, ee_strMul, ha, hk, R.bind]
  rw [hc]
  simp only [ofOpt, newL]
theorem ev_make {Φ : Fns} {ρ : Loc} {args : List ME} {c f : Nat} {σ σ₁ σ' : Store} {vs : List V} (ha : evalEs Φ ρ args σ = .ok vs σ₁) (hi : Φ.init c = some f) (hf : Φ.fn f (.loc σ₁.length :: vs) (σ₁ ++ [.inst c []]) = .ok .none σ') : evalE Φ ρ (.make c args) σ = .ok (.loc σ₁.length) σ' := by
  simp only [ee_var, ee_cint, ee_cstr, ee_cnone, ee_cbool, ee_gint, ee_gstr, ee_bin, ee_neg, ee_not, ee_and, ee_or, ee_cmp, ee_cmp2, ee_call, ee_bi, ee_copy, ee_isi, ee_make, ee_meth, ee_attr, ee_idx, ee_sliceTo, ee_sliceFrom, ee_tup, ee_lst, ee_sumAt, ee_rev, ee_strMul, ha, R.bind, hi, hf]
theorem ev_cons {Φ : Fns} {ρ : Loc} {e : ME} {es : List ME} {σ σ₁ σ₂ : Store} {v : V} {vs : List V} (h : evalE Φ ρ e σ = .ok v σ₁) (hs : evalEs Φ ρ es σ₁ = .ok vs σ₂) : evalEs Φ ρ (e :: es) σ = .ok (v :: vs) σ₂ := by
  simp only [es_0, es_1, h, R.bind, hs]
theorem ev_nil {Φ : Fns} {ρ : Loc} {σ : Store} : evalEs Φ ρ [] σ = .ok [] σ := by simp only [es_0, es_1]
theorem last_of {l : List (Int × Int)} (h : 0 < l.length) : ∃ m p, l = m ++ [p] := by
  have hne : l ≠ [] := by rintro rfl; simp at h
  exact ⟨l.dropLast, l.getLast hne, (List.dropLast_concat_getLast hne).symm⟩
theorem loop_made (H : HasLoan P) (HP : HasPay P) (all : List V) (amount : Int) (σ : Store) (a b c d : Option V) : ∀ (l done : List (Int × Int)) (x5 : Option V), 0 < done.length → (done ++ l).length < 80000 → RowOk (-1) (done ++ l) →
    ∃ x5', forL (.lst all) all (execB (pre P 41) bodyMade) 5 (rowV l) [a, b, c, d, some (.loc σ.length), x5] (σ ++ [Ob.inst 0 (loanF (σ.length + 1) amount 0 0), Ob.list (rowV done)]) = .ok (.next [a, b, c, d, some (.loc σ.length), x5']) (σ ++ [Ob.inst 0 (loanF (σ.length + 1) amount 0 0), Ob.list (rowV (done ++ l))])
  | [], done, x5, _, _, _ => ⟨x5, by simp [rowV, fl_0, fl_1]⟩
  | p :: l, done, x5, hd, hl, hr => by
    obtain ⟨x5', ih⟩ := loop_made H HP all amount σ a b c d l (done ++ [p]) (some (pairV p)) (by simp) (by simpa using hl) (by simpa using hr)
    refine ⟨x5', ?_⟩
    have hA := (RowOk.asc hr).1
    have hD := RowOk.days hr p (by simp)
    have hR := RowOk.rate hr p (by simp)
    obtain ⟨m, q, hq⟩ := last_of hd
    have h1 : q.1 < p.1 := by
      rw [hq, List.append_assoc, Asc, List.pairwise_append] at hA
      have := (List.pairwise_cons.mp hA.2.1).1 p (by simp)
      exact this
    have hDq := RowOk.days hr q (by rw [hq]; simp)
    have L : Lo (σ ++ [Ob.inst 0 (loanF (σ.length + 1) amount 0 0), Ob.list (rowV done)]) σ.length (σ.length + 1) (m ++ [q]) amount 0 0 := ⟨by simp, by rw [hq]; simp⟩
    have hc := F_change H HP L (by rw [hq] at hl; simp only [List.length_append, List.length_cons, List.length_nil] at hl; omega) p.1 p.2 (by omega) h1 hD.2 hR.1 hR.2
    rw [← hq] at hc
    have hset : (σ ++ [Ob.inst 0 (loanF (σ.length + 1) amount 0 0), Ob.list (rowV done)]).set (σ.length + 1) (Ob.list (rowV (done ++ [(p.1, p.2)]))) = σ ++ [Ob.inst 0 (loanF (σ.length + 1) amount 0 0), Ob.list (rowV (done ++ [p]))] := by
      rw [List.set_append_right _ _ (by omega)]; simp
    rw [hset] at hc
    have t : execB (pre P 41) bodyMade [a, b, c, d, some (.loc σ.length), some (pairV p)] (σ ++ [Ob.inst 0 (loanF (σ.length + 1) amount 0 0), Ob.list (rowV done)]) = .ok (.next [a, b, c, d, some (.loc σ.length), some (pairV p)]) (σ ++ [Ob.inst 0 (loanF (σ.length + 1) amount 0 0), Ob.list (rowV (done ++ [p]))]) := by
      refine step (ρ' := [a, b, c, d, some (.loc σ.length), some (pairV p)]) (σ' := σ ++ [Ob.inst 0 (loanF (σ.length + 1) amount 0 0), Ob.list (rowV (done ++ [p]))]) ?_ (by simp only [xb_0, xb_1])
      simp only [xs_expr, xs_append, xs_assign, xs_unpack, xs_setattr, xs_setitem, xs_unpackSub, xs_unpackL, xs_ite, xs_forIn, xs_forRange, xs_forTup, xs_while, xs_ret, xs_retNone, xs_brk, xs_cont, xs_pass, xs_raise, xs_try, xs_hand]
      rw [ev_meth (σ₁ := σ ++ [Ob.inst 0 (loanF (σ.length + 1) amount 0 0), Ob.list (rowV done)]) (σ₂ := σ ++ [Ob.inst 0 (loanF (σ.length + 1) amount 0 0), Ob.list (rowV done)]) (i := σ.length) (vs := [.int p.1, .int p.2]) ?_ ?_ L.obj L.obj (meth_ok HP.mchange), pre_fn (by decide), hc]
      · simp only [R.on]
      · simp only [xb_0, xb_1, xs_expr, xs_append, xs_assign, xs_unpack, xs_setattr, xs_setitem, xs_unpackSub, xs_unpackL, xs_ite, xs_forIn, xs_forRange, xs_forTup, xs_while, xs_ret, xs_retNone, xs_brk, xs_cont, xs_pass, xs_raise, xs_try, xs_hand, ee_var, ee_cint, ee_cstr, ee_cnone, ee_cbool, ee_gint, ee_gstr, ee_bin, ee_neg, ee_not, ee_and, ee_or, ee_cmp, ee_cmp2, ee_call, ee_bi, ee_copy, ee_isi, ee_make, ee_meth, ee_attr, ee_idx, ee_sliceTo, ee_sliceFrom, ee_tup, ee_lst, ee_sumAt, ee_rev, ee_strMul, es_0, es_1, ea_0, ea_1, eo_0, eo_1, R.bind, R.got, R.on, R.son, ofOpt, List.getElem?_cons_zero, List.getElem?_cons_succ, List.set_cons_zero, List.set_cons_succ, truth, bin_add, bin_sub, cmp_lt, cmp_le, cmp_gt, cmp_ge, cmp_eq, cmp_ne, biV_max, biV_min, it_t0, it_t1, it_t2, it_t3, it_l0, it_l1, it_l2, it_l3, Option.map_some, Bool.not_true, Bool.not_false, if_true, if_false, Bool.false_eq_true, decide_true, decide_false, reduceIte]
      · simp only [xb_0, xb_1, xs_expr, xs_append, xs_assign, xs_unpack, xs_setattr, xs_setitem, xs_unpackSub, xs_unpackL, xs_ite, xs_forIn, xs_forRange, xs_forTup, xs_while, xs_ret, xs_retNone, xs_brk, xs_cont, xs_pass, xs_raise, xs_try, xs_hand, ee_var, ee_cint, ee_cstr, ee_cnone, ee_cbool, ee_gint, ee_gstr, ee_bin, ee_neg, ee_not, ee_and, ee_or, ee_cmp, ee_cmp2, ee_call, ee_bi, ee_copy, ee_isi, ee_make, ee_meth, ee_attr, ee_idx, ee_sliceTo, ee_sliceFrom, ee_tup, ee_lst, ee_sumAt, ee_rev, ee_strMul, es_0, es_1, ea_0, ea_1, eo_0, eo_1, R.bind, R.got, R.on, R.son, ofOpt, List.getElem?_cons_zero, List.getElem?_cons_succ, List.set_cons_zero, List.set_cons_succ, truth, bin_add, bin_sub, cmp_lt, cmp_le, cmp_gt, cmp_ge, cmp_eq, cmp_ne, biV_max, biV_min, it_t0, it_t1, it_t2, it_t3, it_l0, it_l1, it_l2, it_l3, Option.map_some, Bool.not_true, Bool.not_false, if_true, if_false, Bool.false_eq_true, decide_true, decide_false, reduceIte, item_fst, item_snd]
    simp only [rowV, List.map_cons, fl_0, fl_1, List.set_cons_zero, List.set_cons_succ]
    simp only [rowV] at t ih
    rw [t]
    simp only [listOf, if_true]
    rw [ih]
    simp
theorem F_made (H : HasLoan P) (HP : HasPay P) (HM : Has P 41 s_l_made 3 b_l_made) (amount : Int) (src : V) (row : List (Int × Int)) (cell : Int) (σ : Store) (ha : 1 ≤ amount) (ha' : amount ≤ 1000000000000) (hs : listOf σ src = some (rowV row)) (hv : ∀ vs, src ≠ .tup vs) (hr : RowOk (-1) row) (hl : row.length < 80000) (hne : 0 < row.length) :
    fn P 41 [.int amount, src, .int cell] σ = .ok (.loc σ.length) (σ ++ [Ob.inst 0 (loanF (σ.length + 1) amount 0 0), Ob.list (rowV row)]) := by
  rw [fn_has HM]
  have h2 := len_row hs hv (show row.length ≤ 1000000 by omega)
  have hpos : (0 : Int) < (row.length : Int) := by omega
  obtain ⟨kp, hk⟩ : ∃ kp : Nat, (kp : Int) = 1 + cell % (row.length : Int) := ⟨(1 + cell % (row.length : Int)).toNat, by have := Int.emod_nonneg cell (show (row.length : Int) ≠ 0 by omega); omega⟩
  have hk2 : 1 ≤ kp ∧ kp ≤ row.length := by
    have h3 := Int.emod_nonneg cell (show (row.length : Int) ≠ 0 by omega)
    have h4 := Int.emod_lt_of_pos cell hpos
    omega
  have hlenV : (rowV row).length ≤ 1000000 := by rw [List.length_map]; omega
  have c1 : ∀ σ', listOf σ' src = some (rowV row) → cutV σ' true src (.int (kp : Int)) = some (.lst (rowV (row.take kp))) := by
    intro σ' hs'
    rw [cut_to hs' hlenV (by omega) (by omega) (Int.toNat_natCast kp), rowV, rowV, List.map_take]
  have c2 : ∀ σ', listOf σ' src = some (rowV row) → cutV σ' false src (.int (kp : Int)) = some (.lst (rowV (row.drop kp))) := by
    intro σ' hs'
    rw [cut_from hs' hlenV (by omega) (by omega) (Int.toNat_natCast kp), rowV, rowV, List.map_drop]
  have hsplit : row.take kp ++ row.drop kp = row := List.take_append_drop kp row
  have hrt : RowOk (-1) (row.take kp) := RowOk.app (m := row.drop kp) (by rw [hsplit]; exact hr)
  have htl : (row.take kp).length = kp := by rw [List.length_take]; omega
  have hini := F_init H σ.length amount (.lst (rowV (row.take kp))) (row.take kp) (σ ++ [Ob.inst 0 []]) (by simp) ha ha' rfl (fun vs h => by cases h) hrt (by omega) (by omega)
  have hset : ((σ ++ [Ob.inst 0 []]) ++ [Ob.list (rowV (row.take kp))]).set σ.length (Ob.inst 0 (loanF (σ ++ [Ob.inst 0 []]).length amount 0 0)) = σ ++ [Ob.inst 0 (loanF (σ.length + 1) amount 0 0), Ob.list (rowV (row.take kp))] := by
    rw [List.append_assoc, List.set_append_right _ _ (by omega)]; simp
  rw [hset] at hini
  obtain ⟨C, hC⟩ := H.cls
  have hinit : (pre P 41).init 0 = some 23 := by simp [pre, mkFns, hC]
  obtain ⟨x5', hL⟩ := loop_made H HP (rowV (row.drop kp)) amount σ (some (.int amount)) (some src) (some (.int cell)) (some (.int (kp : Int))) (row.drop kp) (row.take kp) none (by omega) (by rw [hsplit]; exact hl) (by rw [hsplit]; exact hr)
  rw [hsplit] at hL
  have hs2 : listOf (σ ++ [Ob.inst 0 (loanF (σ.length + 1) amount 0 0), Ob.list (rowV (row.take kp))]) src = some (rowV row) := by
    have := listOf_app (listOf_app hs (Ob.inst 0 (loanF (σ.length + 1) amount 0 0))) (Ob.list (rowV (row.take kp)))
    simpa using this
  have hb : b_l_made = [.assign 3 (.bin .Add (.cint 1) (.bin .Mod (.var 2) (.bi .len [.var 1]))), .assign 4 (.make 0 [.var 0, .sliceTo false (.var 1) (.var 3)]), .forIn 5 (.sliceFrom false (.var 1) (.var 3)) bodyMade, .ret (.var 4)] := rfl
  rw [hb]
  refine callFn_ret rfl (step (ρ' := [some (.int amount), some src, some (.int cell), some (.int (kp : Int)), none, none]) (σ' := σ) ?_ (step (ρ' := [some (.int amount), some src, some (.int cell), some (.int (kp : Int)), some (.loc σ.length), none]) (σ' := σ ++ [Ob.inst 0 (loanF (σ.length + 1) amount 0 0), Ob.list (rowV (row.take kp))]) ?_
    (step (ex_for (σ' := σ ++ [Ob.inst 0 (loanF (σ.length + 1) amount 0 0), Ob.list (rowV (row.take kp))]) (v := .lst (rowV (row.drop kp))) (vs := rowV (row.drop kp)) ?_ rfl hL) (ex_ret ?_))))
  · refine ex_assign (v := .int (kp : Int)) ?_
    simp only [xb_0, xb_1, xs_expr, xs_append, xs_assign, xs_unpack, xs_setattr, xs_setitem, xs_unpackSub, xs_unpackL, xs_ite, xs_forIn, xs_forRange, xs_forTup, xs_while, xs_ret, xs_retNone, xs_brk, xs_cont, xs_pass, xs_raise, xs_try, xs_hand, ee_var, ee_cint, ee_cstr, ee_cnone, ee_cbool, ee_gint, ee_gstr, ee_bin, ee_neg, ee_not, ee_and, ee_or, ee_cmp, ee_cmp2, ee_call, ee_bi, ee_copy, ee_isi, ee_make, ee_meth, ee_attr, ee_idx, ee_sliceTo, ee_sliceFrom, ee_tup, ee_lst, ee_sumAt, ee_rev, ee_strMul, es_0, es_1, ea_0, ea_1, eo_0, eo_1, R.bind, R.got, R.on, R.son, ofOpt, List.getElem?_cons_zero, List.getElem?_cons_succ, List.set_cons_zero, List.set_cons_succ, truth, bin_add, bin_sub, cmp_lt, cmp_le, cmp_gt, cmp_ge, cmp_eq, cmp_ne, biV_max, biV_min, it_t0, it_t1, it_t2, it_t3, it_l0, it_l1, it_l2, it_l3, Option.map_some, Bool.not_true, Bool.not_false, if_true, if_false, Bool.false_eq_true, decide_true, decide_false, reduceIte, List.map_cons, List.map_nil, List.cons_append, h2, bin_mod hpos, ← hk]
  · refine ex_assign (v := .loc σ.length) ?_
    refine ev_make (σ₁ := σ) (vs := [.int amount, .lst (rowV (row.take kp))]) (ev_cons (σ₁ := σ) ?_ (ev_cons (ev_to (σ₁ := σ) (σ₂ := σ) (x := src) (y := .int (kp : Int)) ?_ ?_ (c1 σ hs)) ev_nil)) hinit (by rw [pre_fn (by decide)]; exact hini)
    · simp only [xb_0, xb_1, xs_expr, xs_append, xs_assign, xs_unpack, xs_setattr, xs_setitem, xs_unpackSub, xs_unpackL, xs_ite, xs_forIn, xs_forRange, xs_forTup, xs_while, xs_ret, xs_retNone, xs_brk, xs_cont, xs_pass, xs_raise, xs_try, xs_hand, ee_var, ee_cint, ee_cstr, ee_cnone, ee_cbool, ee_gint, ee_gstr, ee_bin, ee_neg, ee_not, ee_and, ee_or, ee_cmp, ee_cmp2, ee_call, ee_bi, ee_copy, ee_isi, ee_make, ee_meth, ee_attr, ee_idx, ee_sliceTo, ee_sliceFrom, ee_tup, ee_lst, ee_sumAt, ee_rev, ee_strMul, es_0, es_1, ea_0, ea_1, eo_0, eo_1, R.bind, R.got, R.on, R.son, ofOpt, List.getElem?_cons_zero, List.getElem?_cons_succ, List.set_cons_zero, List.set_cons_succ, truth, bin_add, bin_sub, cmp_lt, cmp_le, cmp_gt, cmp_ge, cmp_eq, cmp_ne, biV_max, biV_min, it_t0, it_t1, it_t2, it_t3, it_l0, it_l1, it_l2, it_l3, Option.map_some, Bool.not_true, Bool.not_false, if_true, if_false, Bool.false_eq_true, decide_true, decide_false, reduceIte]
    · simp only [xb_0, xb_1, xs_expr, xs_append, xs_assign, xs_unpack, xs_setattr, xs_setitem, xs_unpackSub, xs_unpackL, xs_ite, xs_forIn, xs_forRange, xs_forTup, xs_while, xs_ret, xs_retNone, xs_brk, xs_cont, xs_pass, xs_raise, xs_try, xs_hand, ee_var, ee_cint, ee_cstr, ee_cnone, ee_cbool, ee_gint, ee_gstr, ee_bin, ee_neg, ee_not, ee_and, ee_or, ee_cmp, ee_cmp2, ee_call, ee_bi, ee_copy, ee_isi, ee_make, ee_meth, ee_attr, ee_idx, ee_sliceTo, ee_sliceFrom, ee_tup, ee_lst, ee_sumAt, ee_rev, ee_strMul, es_0, es_1, ea_0, ea_1, eo_0, eo_1, R.bind, R.got, R.on, R.son, ofOpt, List.getElem?_cons_zero, List.getElem?_cons_succ, List.set_cons_zero, List.set_cons_succ, truth, bin_add, bin_sub, cmp_lt, cmp_le, cmp_gt, cmp_ge, cmp_eq, cmp_ne, biV_max, biV_min, it_t0, it_t1, it_t2, it_t3, it_l0, it_l1, it_l2, it_l3, Option.map_some, Bool.not_true, Bool.not_false, if_true, if_false, Bool.false_eq_true, decide_true, decide_false, reduceIte]
    · simp only [xb_0, xb_1, xs_expr, xs_append, xs_assign, xs_unpack, xs_setattr, xs_setitem, xs_unpackSub, xs_unpackL, xs_ite, xs_forIn, xs_forRange, xs_forTup, xs_while, xs_ret, xs_retNone, xs_brk, xs_cont, xs_pass, xs_raise, xs_try, xs_hand, ee_var, ee_cint, ee_cstr, ee_cnone, ee_cbool, ee_gint, ee_gstr, ee_bin, ee_neg, ee_not, ee_and, ee_or, ee_cmp, ee_cmp2, ee_call, ee_bi, ee_copy, ee_isi, ee_make, ee_meth, ee_attr, ee_idx, ee_sliceTo, ee_sliceFrom, ee_tup, ee_lst, ee_sumAt, ee_rev, ee_strMul, es_0, es_1, ea_0, ea_1, eo_0, eo_1, R.bind, R.got, R.on, R.son, ofOpt, List.getElem?_cons_zero, List.getElem?_cons_succ, List.set_cons_zero, List.set_cons_succ, truth, bin_add, bin_sub, cmp_lt, cmp_le, cmp_gt, cmp_ge, cmp_eq, cmp_ne, biV_max, biV_min, it_t0, it_t1, it_t2, it_t3, it_l0, it_l1, it_l2, it_l3, Option.map_some, Bool.not_true, Bool.not_false, if_true, if_false, Bool.false_eq_true, decide_true, decide_false, reduceIte]
  · refine ev_from (σ₁ := σ ++ [Ob.inst 0 (loanF (σ.length + 1) amount 0 0), Ob.list (rowV (row.take kp))]) (x := src) (y := .int (kp : Int)) ?_ ?_ (c2 _ hs2)
    · simp only [xb_0, xb_1, xs_expr, xs_append, xs_assign, xs_unpack, xs_setattr, xs_setitem, xs_unpackSub, xs_unpackL, xs_ite, xs_forIn, xs_forRange, xs_forTup, xs_while, xs_ret, xs_retNone, xs_brk, xs_cont, xs_pass, xs_raise, xs_try, xs_hand, ee_var, ee_cint, ee_cstr, ee_cnone, ee_cbool, ee_gint, ee_gstr, ee_bin, ee_neg, ee_not, ee_and, ee_or, ee_cmp, ee_cmp2, ee_call, ee_bi, ee_copy, ee_isi, ee_make, ee_meth, ee_attr, ee_idx, ee_sliceTo, ee_sliceFrom, ee_tup, ee_lst, ee_sumAt, ee_rev, ee_strMul, es_0, es_1, ea_0, ea_1, eo_0, eo_1, R.bind, R.got, R.on, R.son, ofOpt, List.getElem?_cons_zero, List.getElem?_cons_succ, List.set_cons_zero, List.set_cons_succ, truth, bin_add, bin_sub, cmp_lt, cmp_le, cmp_gt, cmp_ge, cmp_eq, cmp_ne, biV_max, biV_min, it_t0, it_t1, it_t2, it_t3, it_l0, it_l1, it_l2, it_l3, Option.map_some, Bool.not_true, Bool.not_false, if_true, if_false, Bool.false_eq_true, decide_true, decide_false, reduceIte]
    · simp only [xb_0, xb_1, xs_expr, xs_append, xs_assign, xs_unpack, xs_setattr, xs_setitem, xs_unpackSub, xs_unpackL, xs_ite, xs_forIn, xs_forRange, xs_forTup, xs_while, xs_ret, xs_retNone, xs_brk, xs_cont, xs_pass, xs_raise, xs_try, xs_hand, ee_var, ee_cint, ee_cstr, ee_cnone, ee_cbool, ee_gint, ee_gstr, ee_bin, ee_neg, ee_not, ee_and, ee_or, ee_cmp, ee_cmp2, ee_call, ee_bi, ee_copy, ee_isi, ee_make, ee_meth, ee_attr, ee_idx, ee_sliceTo, ee_sliceFrom, ee_tup, ee_lst, ee_sumAt, ee_rev, ee_strMul, es_0, es_1, ea_0, ea_1, eo_0, eo_1, R.bind, R.got, R.on, R.son, ofOpt, List.getElem?_cons_zero, List.getElem?_cons_succ, List.set_cons_zero, List.set_cons_succ, truth, bin_add, bin_sub, cmp_lt, cmp_le, cmp_gt, cmp_ge, cmp_eq, cmp_ne, biV_max, biV_min, it_t0, it_t1, it_t2, it_t3, it_l0, it_l1, it_l2, it_l3, Option.map_some, Bool.not_true, Bool.not_false, if_true, if_false, Bool.false_eq_true, decide_true, decide_false, reduceIte]
  · simp only [xb_0, xb_1, xs_expr, xs_append, xs_assign, xs_unpack, xs_setattr, xs_setitem, xs_unpackSub, xs_unpackL, xs_ite, xs_forIn, xs_forRange, xs_forTup, xs_while, xs_ret, xs_retNone, xs_brk, xs_cont, xs_pass, xs_raise, xs_try, xs_hand, ee_var, ee_cint, ee_cstr, ee_cnone, ee_cbool, ee_gint, ee_gstr, ee_bin, ee_neg, ee_not, ee_and, ee_or, ee_cmp, ee_cmp2, ee_call, ee_bi, ee_copy, ee_isi, ee_make, ee_meth, ee_attr, ee_idx, ee_sliceTo, ee_sliceFrom, ee_tup, ee_lst, ee_sumAt, ee_rev, ee_strMul, es_0, es_1, ea_0, ea_1, eo_0, eo_1, R.bind, R.got, R.on, R.son, ofOpt, List.getElem?_cons_zero, List.getElem?_cons_succ, List.set_cons_zero, List.set_cons_succ, truth, bin_add, bin_sub, cmp_lt, cmp_le, cmp_gt, cmp_ge, cmp_eq, cmp_ne, biV_max, biV_min, it_t0, it_t1, it_t2, it_t3, it_l0, it_l1, it_l2, it_l3, Option.map_some, Bool.not_true, Bool.not_false, if_true, if_false, Bool.false_eq_true, decide_true, decide_false, reduceIte]
end
end Mine
set_option maxRecDepth 100000
set_option linter.unusedVariables false
set_option linter.unusedSimpArgs false
namespace Mine
open PySem

theorem x_meth {Φ : Fns} {ρ : Loc} {o : ME} {f i c : Nat} {args : List ME} {σ : Store} {vs : List V} {fs : List (Nat × V)} {r : R V} (ho : evalE Φ ρ o σ = .ok (.loc i) σ) (ha : evalEs Φ ρ args σ = .ok vs σ) (h1 : σ[i]? = some (.inst c fs)) (hm : Φ.methOk c f = true) (hf : Φ.fn f (.loc i :: vs) σ = r) :
    evalE Φ ρ (.meth o f args) σ = r := (ev_meth ho ha h1 h1 hm).trans hf
theorem ex_raise {Φ : Fns} {x : Str} {k : Nat} {m : Str} {r : List MS} {ρ : Loc} {σ : Store} : execB Φ (.raise x k m :: r) ρ σ = .exn true k ρ σ := by simp only [xb_0, xb_1, xs_expr, xs_append, xs_assign, xs_unpack, xs_setattr, xs_setitem, xs_unpackSub, xs_unpackL, xs_ite, xs_forIn, xs_forRange, xs_forTup, xs_while, xs_ret, xs_retNone, xs_brk, xs_cont, xs_pass, xs_raise, xs_try, xs_hand]
theorem ev1 {Φ : Fns} {ρ : Loc} {e : ME} {σ : Store} {v : V} (h : evalE Φ ρ e σ = .ok v σ) : evalEs Φ ρ [e] σ = .ok [v] σ := evs_cons h evs_nil
theorem ev2 {Φ : Fns} {ρ : Loc} {e f : ME} {σ : Store} {v w : V} (h : evalE Φ ρ e σ = .ok v σ) (h' : evalE Φ ρ f σ = .ok w σ) : evalEs Φ ρ [e, f] σ = .ok [v, w] σ := evs_cons h (ev1 h')
theorem ev3 {Φ : Fns} {ρ : Loc} {e f g : ME} {σ : Store} {v w z : V} (h : evalE Φ ρ e σ = .ok v σ) (h' : evalE Φ ρ f σ = .ok w σ) (h'' : evalE Φ ρ g σ = .ok z σ) : evalEs Φ ρ [e, f, g] σ = .ok [v, w, z] σ := evs_cons h (ev2 h' h'')
theorem ev4 {Φ : Fns} {ρ : Loc} {e f g k : ME} {σ : Store} {v w z u : V} (h : evalE Φ ρ e σ = .ok v σ) (h' : evalE Φ ρ f σ = .ok w σ) (h'' : evalE Φ ρ g σ = .ok z σ) (h₃ : evalE Φ ρ k σ = .ok u σ) : evalEs Φ ρ [e, f, g, k] σ = .ok [v, w, z, u] σ := evs_cons h (ev3 h' h'' h₃)
theorem or_tt {Φ : Fns} {ρ : Loc} {a b : ME} {σ : Store} {p q : Bool} (h1 : evalE Φ ρ a σ = .ok (.bool p) σ) (h2 : p = false → evalE Φ ρ b σ = .ok (.bool q) σ) : evalE Φ ρ (.or [a, b]) σ = .ok (.bool (p || q)) σ := by
  cases p with
  | true => simp only [ee_var, ee_cint, ee_cstr, ee_cnone, ee_cbool, ee_gint, ee_gstr, ee_bin, ee_neg, ee_not, ee_and, ee_or, ee_cmp, ee_cmp2, ee_call, ee_bi, ee_copy, ee_isi, ee_make, ee_meth, ee_attr, ee_idx, ee_sliceTo, ee_sliceFrom, ee_tup, ee_lst, ee_sumAt, ee_rev, ee_strMul, eo_0, eo_1, h1, R.bind, truth, ofOpt, if_true, Bool.true_or]
  | false => simp only [ee_var, ee_cint, ee_cstr, ee_cnone, ee_cbool, ee_gint, ee_gstr, ee_bin, ee_neg, ee_not, ee_and, ee_or, ee_cmp, ee_cmp2, ee_call, ee_bi, ee_copy, ee_isi, ee_make, ee_meth, ee_attr, ee_idx, ee_sliceTo, ee_sliceFrom, ee_tup, ee_lst, ee_sumAt, ee_rev, ee_strMul, eo_0, eo_1, h1, h2 rfl, R.bind, truth, ofOpt, Bool.false_eq_true, if_false, Bool.false_or]
theorem and_tt {Φ : Fns} {ρ : Loc} {a b : ME} {σ : Store} {p q : Bool} (h1 : evalE Φ ρ a σ = .ok (.bool p) σ) (h2 : p = true → evalE Φ ρ b σ = .ok (.bool q) σ) : evalE Φ ρ (.and [a, b]) σ = .ok (.bool (p && q)) σ := by
  cases p with
  | true => simp only [ee_var, ee_cint, ee_cstr, ee_cnone, ee_cbool, ee_gint, ee_gstr, ee_bin, ee_neg, ee_not, ee_and, ee_or, ee_cmp, ee_cmp2, ee_call, ee_bi, ee_copy, ee_isi, ee_make, ee_meth, ee_attr, ee_idx, ee_sliceTo, ee_sliceFrom, ee_tup, ee_lst, ee_sumAt, ee_rev, ee_strMul, ea_0, ea_1, h1, h2 rfl, R.bind, truth, ofOpt, if_true, Bool.true_and]
  | false => simp only [ee_var, ee_cint, ee_cstr, ee_cnone, ee_cbool, ee_gint, ee_gstr, ee_bin, ee_neg, ee_not, ee_and, ee_or, ee_cmp, ee_cmp2, ee_call, ee_bi, ee_copy, ee_isi, ee_make, ee_meth, ee_attr, ee_idx, ee_sliceTo, ee_sliceFrom, ee_tup, ee_lst, ee_sumAt, ee_rev, ee_strMul, ea_0, ea_1, h1, R.bind, truth, ofOpt, Bool.false_eq_true, if_false, Bool.false_and]
theorem not_tt {Φ : Fns} {ρ : Loc} {a : ME} {σ : Store} {p : Bool} (h1 : evalE Φ ρ a σ = .ok (.bool p) σ) : evalE Φ ρ (.not a) σ = .ok (.bool (!p)) σ := by
  simp only [ee_var, ee_cint, ee_cstr, ee_cnone, ee_cbool, ee_gint, ee_gstr, ee_bin, ee_neg, ee_not, ee_and, ee_or, ee_cmp, ee_cmp2, ee_call, ee_bi, ee_copy, ee_isi, ee_make, ee_meth, ee_attr, ee_idx, ee_sliceTo, ee_sliceFrom, ee_tup, ee_lst, ee_sumAt, ee_rev, ee_strMul, h1, R.bind, truth, Option.map_some, ofOpt]
theorem ev_bool {Φ : Fns} {ρ : Loc} {b : Bool} {σ : Store} : evalE Φ ρ (.cbool b) σ = .ok (.bool b) σ := by simp only [ee_var, ee_cint, ee_cstr, ee_cnone, ee_cbool, ee_gint, ee_gstr, ee_bin, ee_neg, ee_not, ee_and, ee_or, ee_cmp, ee_cmp2, ee_call, ee_bi, ee_copy, ee_isi, ee_make, ee_meth, ee_attr, ee_idx, ee_sliceTo, ee_sliceFrom, ee_tup, ee_lst, ee_sumAt, ee_rev, ee_strMul]
theorem ev_gint {Φ : Fns} {ρ : Loc} {x : Str} {k : Int} {σ : Store} : evalE Φ ρ (.gint x k) σ = .ok (.int k) σ := by simp only [ee_var, ee_cint, ee_cstr, ee_cnone, ee_cbool, ee_gint, ee_gstr, ee_bin, ee_neg, ee_not, ee_and, ee_or, ee_cmp, ee_cmp2, ee_call, ee_bi, ee_copy, ee_isi, ee_make, ee_meth, ee_attr, ee_idx, ee_sliceTo, ee_sliceFrom, ee_tup, ee_lst, ee_sumAt, ee_rev, ee_strMul]
theorem ev_tup {Φ : Fns} {ρ : Loc} {es : List ME} {σ σ' : Store} {vs : List V} (h : evalEs Φ ρ es σ = .ok vs σ') : evalE Φ ρ (.tup es) σ = .ok (.tup vs) σ' := by simp only [ee_var, ee_cint, ee_cstr, ee_cnone, ee_cbool, ee_gint, ee_gstr, ee_bin, ee_neg, ee_not, ee_and, ee_or, ee_cmp, ee_cmp2, ee_call, ee_bi, ee_copy, ee_isi, ee_make, ee_meth, ee_attr, ee_idx, ee_sliceTo, ee_sliceFrom, ee_tup, ee_lst, ee_sumAt, ee_rev, ee_strMul, h, R.bind]
theorem ev_attr {Φ : Fns} {ρ : Loc} {o : ME} {k i c : Nat} {σ : Store} {fs : List (Nat × V)} {v : V} (ho : evalE Φ ρ o σ = .ok (.loc i) σ) (h1 : σ[i]? = some (.inst c fs)) (ha : Φ.attrOk c k = true) (hf : fieldOf k fs = some v) : evalE Φ ρ (.attr o k) σ = .ok v σ := by
  simp only [xb_0, xb_1, xs_expr, xs_append, xs_assign, xs_unpack, xs_setattr, xs_setitem, xs_unpackSub, xs_unpackL, xs_ite, xs_forIn, xs_forRange, xs_forTup, xs_while, xs_ret, xs_retNone, xs_brk, xs_cont, xs_pass, xs_raise, xs_try, xs_hand, ee_var, ee_cint, ee_cstr, ee_cnone, ee_cbool, ee_gint, ee_gstr, ee_bin, ee_neg, ee_not, ee_and, ee_or, ee_cmp, ee_cmp2, ee_call, ee_bi, ee_copy, ee_isi, ee_make, ee_meth, ee_attr, ee_idx, ee_sliceTo, ee_sliceFrom, ee_tup, ee_lst, ee_sumAt, ee_rev, ee_strMul, es_0, es_1, ea_0, ea_1, eo_0, eo_1, R.bind, R.got, R.on, R.son, ofOpt, List.getElem?_cons_zero, List.getElem?_cons_succ, List.set_cons_zero, List.set_cons_succ, truth, bin_add, bin_sub, cmp_lt, cmp_le, cmp_gt, cmp_ge, cmp_eq, cmp_ne, biV_max, biV_min, it_t0, it_t1, it_t2, it_t3, it_l0, it_l1, it_l2, it_l3, Option.map_some, Bool.not_true, Bool.not_false, if_true, if_false, Bool.false_eq_true, decide_true, decide_false, reduceIte, ho, h1, ha, hf]
section
variable {P : Prog} {σ : Store} {i r : Nat} {row : List (Int × Int)} {left begun day : Int}
theorem gs_low (s e : Int) : ∀ l : List (Int × Int), Asc l → RateOk l → 0 ≤ gs s e l
  | [], _, _ => by simp [gs]
  | [p], _, hr => by
    simp only [gs]
    exact Int.mul_nonneg (by unfold wd; omega) (hr p (by simp)).1
  | p :: q :: r, ha, hr => by
    have h1 := gs_low s e (q :: r) (List.pairwise_cons.mp ha).2 fun x hx => hr x (by simp [hx])
    have h2 : p.1 < q.1 := (List.pairwise_cons.mp ha).1 q (by simp)
    have h4 := Int.mul_nonneg (show 0 ≤ wd s e p.1 - wd s e q.1 by unfold wd; omega) (hr p (by simp)).1
    simp only [gs] at h1 ⊢
    exact Int.add_nonneg h4 h1
theorem owed_low {a b : Int} (ha : 0 ≤ a) (hb : 0 ≤ b) : 0 ≤ owedV a b := by unfold owedV; omega
end
end Mine
set_option maxRecDepth 100000
set_option maxHeartbeats 1000000
set_option linter.unusedVariables false
set_option linter.unusedSimpArgs false
namespace Mine
open PySem

theorem pow40 {σ : Store} : binV σ .Pow (.int 10) (.int 40) = some (.int (10 ^ 40)) := by
  show powF 10 40 = _
  unfold powF
  rw [if_pos (by decide)]
  rfl
theorem mul_sq {σ : Store} {c : Int} (h : Builtin.Int.intBits c ≤ 2 ^ 20) : binV σ .Mult (.int c) (.int c) = some (.int (c * c)) := by
  show mulF c c = _
  unfold mulF
  rw [if_pos (.inr ⟨h, h⟩)]
theorem bits_cell {ns : List Int} (hb : ∀ n ∈ ns, Builtin.Int.intBits n ≤ 2 ^ 20) (k : Nat) : Builtin.Int.intBits (cellAt ns k) ≤ 2 ^ 20 := by
  unfold cellAt
  rw [List.getD_eq_getElem?_getD]
  cases h : ns[k]? with
  | none => decide
  | some n => exact hb n (List.mem_of_getElem? h)
theorem ev_neg {Φ : Fns} {ρ : Loc} {a : ME} {k : Int} {σ σ' : Store} (h : evalE Φ ρ a σ = .ok (.int k) σ') : evalE Φ ρ (.neg a) σ = .ok (.int (-k)) σ' := by simp only [ee_var, ee_cint, ee_cstr, ee_cnone, ee_cbool, ee_gint, ee_gstr, ee_bin, ee_neg, ee_not, ee_and, ee_or, ee_cmp, ee_cmp2, ee_call, ee_bi, ee_copy, ee_isi, ee_make, ee_meth, ee_attr, ee_idx, ee_sliceTo, ee_sliceFrom, ee_tup, ee_lst, ee_sumAt, ee_rev, ee_strMul, h, R.bind]
theorem ev_lst {Φ : Fns} {ρ : Loc} {es : List ME} {σ σ' : Store} {vs : List V} (h : evalEs Φ ρ es σ = .ok vs σ') : evalE Φ ρ (.lst false es) σ = .ok (.lst vs) σ' := by simp only [ee_var, ee_cint, ee_cstr, ee_cnone, ee_cbool, ee_gint, ee_gstr, ee_bin, ee_neg, ee_not, ee_and, ee_or, ee_cmp, ee_cmp2, ee_call, ee_bi, ee_copy, ee_isi, ee_make, ee_meth, ee_attr, ee_idx, ee_sliceTo, ee_sliceFrom, ee_tup, ee_lst, ee_sumAt, ee_rev, ee_strMul, h, R.bind, newL]; rfl
theorem ne_seen {σ : Store} {a b c : V} (ha : seen σ a = c) (hb : seen σ b = c) (hp : plain 8 c = true) (h : ∀ x, a ≠ .int x) (h' : ∀ x, a ≠ .str x) : cmpV σ .NotEq a b = some (.bool false) := by
  have e : eqV σ a b = some true := by
    unfold eqV
    split
    · exact absurd rfl (h' _)
    · rw [ha, hb, if_pos ⟨hp, hp⟩]; simp
  simp only [cmpV, e, Option.map_some, Bool.not_true]
theorem x_fromT {Φ : Fns} {ρ : Loc} {a k : ME} {σ σ₁ σ₂ : Store} {x y : V} {vs : List V} (ha : evalE Φ ρ a σ = .ok x σ₁) (hk : evalE Φ ρ k σ₁ = .ok y σ₂) (hc : cutV σ₂ false x y = some (.tup vs)) : evalE Φ ρ (.sliceFrom false a k) σ = .ok (.tup vs) σ₂ := by
  simp only [ee_var, ee_cint, ee_cstr, ee_cnone, ee_cbool, ee_gint, ee_gstr, ee_bin, ee_neg, ee_not, ee_and, ee_or, ee_cmp, ee_cmp2, ee_call, ee_bi, ee_copy, ee_isi, ee_make, ee_meth, ee_attr, ee_idx, ee_sliceTo, ee_sliceFrom, ee_tup, ee_lst, ee_sumAt, ee_rev, ee_strMul, ha, hk, R.bind]
  rw [hc]
  simp only [ofOpt, newL]
theorem cut_four {σ : Store} {a b c d : V} : cutV σ false (.tup [a, b, c, d]) (.int 2) = some (.tup [c, d]) := by
  simp only [cutV, listOf, cutT]
  rw [if_pos (by decide), if_pos (by simp)]
  rfl
theorem parts_low {a b c : Int} (ha : 0 ≤ a) (hb : 0 ≤ b) (h1 : 1 ≤ c) (h2 : c ≤ owedV a b) : 0 ≤ (partsV a b c).2.2.1 ∧ (partsV a b c).2.2.1 ≤ a ∧ 0 ≤ (partsV a b c).2.2.2 := by
  unfold partsV
  by_cases h : c = owedV a b
  · rw [if_pos h]; exact ⟨Int.le_refl _, ha, Int.le_refl _⟩
  · rw [if_neg h]
    dsimp only
    unfold owedV at h h2
    split <;> omega
noncomputable def atBy (c : Int) : Int := if c / 2 % 6 = 5 then mixed c 3001 else c / 12 % 41
theorem at_ok (c : Int) : 0 ≤ atBy c ∧ atBy c ≤ 3000 := by
  have h1 := mixed_nonneg c 3001 (by decide)
  have h2 := mixed_lt c 3001 (by decide)
  unfold atBy; split <;> omega
theorem eq_seen {σ : Store} {a b c : V} (ha : seen σ a = c) (hb : seen σ b = c) (hp : plain 8 c = true) (h : ∀ x, a ≠ .int x) (h' : ∀ x, a ≠ .str x) : cmpV σ .Eq a b = some (.bool true) := by
  have e : eqV σ a b = some true := by
    unfold eqV
    split
    · exact absurd rfl (h' _)
    · rw [ha, hb, if_pos ⟨hp, hp⟩]; simp
  simp only [cmpV, e, Option.map_some]
theorem or3 {Φ : Fns} {ρ : Loc} {a b c : ME} {σ : Store} {p q r : Bool} (h1 : evalE Φ ρ a σ = .ok (.bool p) σ) (h2 : evalE Φ ρ b σ = .ok (.bool q) σ) (h3 : evalE Φ ρ c σ = .ok (.bool r) σ) : evalE Φ ρ (.or [a, b, c]) σ = .ok (.bool (p || q || r)) σ := by
  cases p <;> cases q <;> simp only [ee_var, ee_cint, ee_cstr, ee_cnone, ee_cbool, ee_gint, ee_gstr, ee_bin, ee_neg, ee_not, ee_and, ee_or, ee_cmp, ee_cmp2, ee_call, ee_bi, ee_copy, ee_isi, ee_make, ee_meth, ee_attr, ee_idx, ee_sliceTo, ee_sliceFrom, ee_tup, ee_lst, ee_sumAt, ee_rev, ee_strMul, eo_0, eo_1, h1, h2, h3, R.bind, truth, ofOpt, if_true, Bool.false_eq_true, if_false, Bool.true_or, Bool.false_or]
theorem or4 {Φ : Fns} {ρ : Loc} {a b c d : ME} {σ : Store} (h1 : evalE Φ ρ a σ = .ok (.bool false) σ) (h2 : evalE Φ ρ b σ = .ok (.bool false) σ) (h3 : evalE Φ ρ c σ = .ok (.bool false) σ) (h4 : evalE Φ ρ d σ = .ok (.bool false) σ) : evalE Φ ρ (.or [a, b, c, d]) σ = .ok (.bool false) σ := by
  simp only [ee_var, ee_cint, ee_cstr, ee_cnone, ee_cbool, ee_gint, ee_gstr, ee_bin, ee_neg, ee_not, ee_and, ee_or, ee_cmp, ee_cmp2, ee_call, ee_bi, ee_copy, ee_isi, ee_make, ee_meth, ee_attr, ee_idx, ee_sliceTo, ee_sliceFrom, ee_tup, ee_lst, ee_sumAt, ee_rev, ee_strMul, eo_0, eo_1, h1, h2, h3, h4, R.bind, truth, ofOpt, Bool.false_eq_true, if_false]
theorem ev_lastDay {Φ : Fns} {ρ : Loc} {o : ME} {σ : Store} {v : V} {l : List (Int × Int)} {p : Int × Int} (ho : evalE Φ ρ o σ = .ok v σ) (hl : listOf σ v = some (rowV (l ++ [p]))) (hv : ∀ vs, v ≠ .tup vs) : evalE Φ ρ (.idx (.idx o (.neg (.cint 1))) (.cint 0)) σ = .ok (.int p.1) σ :=
  ev_idx (ev_idx ho (ev_neg ev_int) (item_last hl hv)) ev_int item_fst
theorem RowOk.snoc : ∀ {l : List (Int × Int)} {a : Int} {q p : Int × Int}, RowOk a (l ++ [q]) → q.1 < p.1 → p.1 ≤ 100000 → 0 ≤ p.2 → p.2 ≤ 100000 → RowOk a (l ++ [q] ++ [p])
  | [], a, q, p, h, h1, h2, h3, h4 => by
    obtain ⟨a1, a2, a3, a4, a5, a6, _⟩ := h
    exact ⟨a1, a2, a3, a4, a5, a6, by omega, h2, h1, by omega, h3, h4, trivial⟩
  | x :: l, a, q, p, h, h1, h2, h3, h4 => by
    obtain ⟨a1, a2, a3, a4, a5, a6, a7⟩ := h
    exact ⟨a1, a2, a3, a4, a5, a6, RowOk.snoc a7 h1 h2 h3 h4⟩
theorem RowOk.first {l : List (Int × Int)} (h : RowOk (-1) l) (hn : 0 < l.length) : ∃ r0 m, l = (0, r0) :: m := by
  cases l with
  | nil => cases hn
  | cons p m =>
    obtain ⟨p1, p2⟩ := p
    have : p1 = 0 := h.2.2.2.1 (by decide)
    exact ⟨p2, m, by rw [this]⟩
section
variable {P : Prog} {σ : Store} {i r : Nat} {row : List (Int × Int)} {left begun day : Int}
theorem F_at (HB : Base P) (H : Has P 11 s_l_at_by 1 b_l_at_by) (c : Int) (σ : Store) : fn P 11 [.int c] σ = .ok (.int (atBy c)) σ := by
  rw [fn_has H]
  have hc : evalE (pre P 11) [some (.int c)] (.cmp .Eq (.bin .Mod (.bin .FloorDiv (.var 0) (.cint 2)) (.cint 6)) (.cint 5)) σ = .ok (.bool (decide (c / 2 % 6 = 5))) σ :=
    ev_cmp (ev_bin (ev_bin (ev_var rfl) ev_int (bin_div (by decide))) ev_int (bin_mod (by decide))) ev_int cmp_eq
  unfold atBy
  by_cases h : c / 2 % 6 = 5
  · rw [decide_eq_true h] at hc
    rw [if_pos h]
    exact callFn_ret rfl (ret_step (ex_ite hc (ex_ret (x_call (vs := [.int c, .int 3001]) (ev2 (ev_var rfl) ev_int) ((pre_fn (by decide) _ _).trans (F_mixed HB c 3001 (by decide) σ))))))
  · rw [decide_eq_false h] at hc
    rw [if_neg h]
    exact callFn_ret rfl (step (ex_ite hc ex_nil) (ex_ret (ev_bin (ev_bin (ev_var rfl) ev_int (bin_div (by decide))) ev_int (bin_mod (by decide)))))
theorem ev_cell (HB : Base P) {ns : List Int} (hl : ns.length ≤ 63) {N : Nat} (hN : 0 < N) {ρ : Loc} (k : Int) {n : Nat} (h0 : 0 ≤ k) (hk : k < 100) (hn : k.toNat = n) (σ : Store) : evalE (pre P N) (some (.lst (ns.map .int)) :: ρ) (.call 0 [.var 0, .cint k]) σ = .ok (.int (cellAt ns n)) σ := by
  subst hn
  exact x_call (vs := [.lst (ns.map .int), .int k]) (ev2 (ev_var rfl) ev_int) ((pre_fn hN _ _).trans (F_cell HB ns k hl h0 hk σ))
theorem F_made1 (H : HasLoan P) (amount : Int) (src : V) (row : List (Int × Int)) (σ : Store) (ha : 1 ≤ amount) (ha' : amount ≤ 1000000000000) (hs : listOf σ src = some (rowV row)) (hv : ∀ vs, src ≠ .tup vs) (hr : RowOk (-1) row) (hl : row.length < 80000) (hne : 0 < row.length) :
    fn P 23 [.loc σ.length, .int amount, src] (σ ++ [.inst 0 []]) = .ok .none (σ ++ [Ob.inst 0 (loanF (σ.length + 1) amount 0 0), Ob.list (rowV row)]) := by
  have hini := F_init H σ.length amount src row (σ ++ [Ob.inst 0 []]) (by simp) ha ha' (listOf_app hs _) hv hr (by omega) hne
  have hset : ((σ ++ [Ob.inst 0 []]) ++ [Ob.list (rowV row)]).set σ.length (Ob.inst 0 (loanF (σ ++ [Ob.inst 0 []]).length amount 0 0)) = σ ++ [Ob.inst 0 (loanF (σ.length + 1) amount 0 0), Ob.list (rowV row)] := by
    rw [List.append_assoc, List.set_append_right _ _ (by omega)]; simp
  rw [hset] at hini
  exact hini
theorem x_setv {Φ : Fns} {o e : ME} {k c : Nat} {ρ : Loc} {σ τ : Store} {v : V} {fs : List (Nat × V)} (ho : evalE Φ ρ o (σ ++ .inst c fs :: τ) = .ok (.loc σ.length) (σ ++ .inst c fs :: τ)) (he : evalE Φ ρ e (σ ++ .inst c fs :: τ) = .ok v (σ ++ .inst c fs :: τ)) (ha : Φ.attrOk c k = true) (hl : fs.length < 900) :
    execS Φ (.setattr o k e) ρ (σ ++ .inst c fs :: τ) = .ok (.next ρ) (σ ++ .inst c (putField k v fs) :: τ) := by
  rw [ex_set he ho (at_mid σ _ τ) ha hl, set_mid]
theorem F_twin (H : HasLoan P) (HT : Has P 28 s_Loan_twin 1 b_Loan_twin) (L : Lo σ i r row left begun day) (hr : RowOk (-1) row) (hl : row.length < 80000) (hne : 0 < row.length) :
    fn P 28 [.loc i] σ = .ok (.loc σ.length) (σ ++ [Ob.inst 0 (loanF (σ.length + 1) left begun day), Ob.list (rowV row)]) := by
  rw [fn_has HT]
  obtain ⟨C, hC⟩ := H.cls
  have hinit : (pre P 28).init 0 = some 23 := by simp [pre, mkFns, hC]
  have hm := F_made1 H 1 (.loc r) row σ (by decide) (by decide) (by simp only [listOf, L.lst]) (fun vs h => by cases h) hr hl hne
  have a0 := attr_ok H 28 (show 0 < 4 by decide)
  have a1 := attr_ok H 28 (show 1 < 4 by decide)
  have a2 := attr_ok H 28 (show 2 < 4 by decide)
  have a3 := attr_ok H 28 (show 3 < 4 by decide)
  have hlt : i < σ.length := (List.getElem?_eq_some_iff.mp L.obj).1
  have ob : ∀ τ : Store, (σ ++ τ)[i]? = some (.inst 0 (loanF r left begun day)) := fun τ => by rw [List.getElem?_append_left hlt]; exact L.obj
  have s0 : execS (pre P 28) (.assign 1 (.make 0 [.cint 1, .attr (.var 0) 0])) [some (.loc i), none] σ = .ok (.next [some (.loc i), some (.loc σ.length)]) (σ ++ .inst 0 (loanF (σ.length + 1) 1 0 0) :: [Ob.list (rowV row)]) :=
    ex_assign (ev_make (σ₁ := σ) (vs := [.int 1, .loc r]) (ev2 ev_int (ev_attr (ev_var rfl) L.obj a0 rfl)) hinit ((pre_fn (show 23 < 28 by decide) _ _).trans hm))
  have s1 := x_setv (Φ := pre P 28) (o := .var 1) (e := .attr (.var 0) 1) (k := 1) (c := 0) (ρ := [some (.loc i), some (.loc σ.length)]) (σ := σ) (τ := [Ob.list (rowV row)]) (fs := loanF (σ.length + 1) 1 0 0) (v := .int left) (ev_var rfl) (ev_attr (ev_var rfl) (ob _) a1 rfl) a1 (by simp [loanF])
  have s2 := x_setv (Φ := pre P 28) (o := .var 1) (e := .attr (.var 0) 2) (k := 2) (c := 0) (ρ := [some (.loc i), some (.loc σ.length)]) (σ := σ) (τ := [Ob.list (rowV row)]) (fs := loanF (σ.length + 1) left 0 0) (v := .int begun) (ev_var rfl) (ev_attr (ev_var rfl) (ob _) a2 rfl) a2 (by simp [loanF])
  have s3 := x_setv (Φ := pre P 28) (o := .var 1) (e := .attr (.var 0) 3) (k := 3) (c := 0) (ρ := [some (.loc i), some (.loc σ.length)]) (σ := σ) (τ := [Ob.list (rowV row)]) (fs := loanF (σ.length + 1) left begun 0) (v := .int day) (ev_var rfl) (ev_attr (ev_var rfl) (ob _) a3 rfl) a3 (by simp [loanF])
  exact callFn_ret rfl (step s0 (step s1 (step s2 (step s3 (ex_ret (ev_var rfl))))))
end
end Mine
set_option maxRecDepth 100000
set_option maxHeartbeats 1000000
set_option linter.unusedVariables false
set_option linter.unusedSimpArgs false
namespace Mine
open PySem

section
variable {Φ : Fns} {ρ : Loc} {a b : ME} {σ σ₁ σ₂ : Store} {x y : Int}
theorem ev_none : evalE Φ ρ .cnone σ = .ok .none σ := by simp only [ee_var, ee_cint, ee_cstr, ee_cnone, ee_cbool, ee_gint, ee_gstr, ee_bin, ee_neg, ee_not, ee_and, ee_or, ee_cmp, ee_cmp2, ee_call, ee_bi, ee_copy, ee_isi, ee_make, ee_meth, ee_attr, ee_idx, ee_sliceTo, ee_sliceFrom, ee_tup, ee_lst, ee_sumAt, ee_rev, ee_strMul]
theorem ev_add (ha : evalE Φ ρ a σ = .ok (.int x) σ₁) (hb : evalE Φ ρ b σ₁ = .ok (.int y) σ₂) : evalE Φ ρ (.bin .Add a b) σ = .ok (.int (x + y)) σ₂ := ev_bin ha hb bin_add
theorem ev_sub (ha : evalE Φ ρ a σ = .ok (.int x) σ₁) (hb : evalE Φ ρ b σ₁ = .ok (.int y) σ₂) : evalE Φ ρ (.bin .Sub a b) σ = .ok (.int (x - y)) σ₂ := ev_bin ha hb bin_sub
theorem ev_mod (ha : evalE Φ ρ a σ = .ok (.int x) σ₁) (hb : evalE Φ ρ b σ₁ = .ok (.int y) σ₂) (h : 0 < y) : evalE Φ ρ (.bin .Mod a b) σ = .ok (.int (x % y)) σ₂ := ev_bin ha hb (bin_mod h)
theorem ev_div (ha : evalE Φ ρ a σ = .ok (.int x) σ₁) (hb : evalE Φ ρ b σ₁ = .ok (.int y) σ₂) (h : 0 < y) : evalE Φ ρ (.bin .FloorDiv a b) σ = .ok (.int (x / y)) σ₂ := ev_bin ha hb (bin_div h)
noncomputable def Sml (x : Int) : Prop := -(2 ^ 63) ≤ x ∧ x < 2 ^ 63
theorem ev_mull (ha : evalE Φ ρ a σ = .ok (.int x) σ₁) (hb : evalE Φ ρ b σ₁ = .ok (.int y) σ₂) (h : Sml x) : evalE Φ ρ (.bin .Mult a b) σ = .ok (.int (x * y)) σ₂ := ev_bin ha hb (bin_mull h.1 h.2)
theorem ev_mulr (ha : evalE Φ ρ a σ = .ok (.int x) σ₁) (hb : evalE Φ ρ b σ₁ = .ok (.int y) σ₂) (h : Sml y) : evalE Φ ρ (.bin .Mult a b) σ = .ok (.int (x * y)) σ₂ := ev_bin ha hb (bin_mulr h.1 h.2)
theorem ev_lt (ha : evalE Φ ρ a σ = .ok (.int x) σ₁) (hb : evalE Φ ρ b σ₁ = .ok (.int y) σ₂) : evalE Φ ρ (.cmp .Lt a b) σ = .ok (.bool (decide (x < y))) σ₂ := ev_cmp ha hb cmp_lt
theorem ev_le (ha : evalE Φ ρ a σ = .ok (.int x) σ₁) (hb : evalE Φ ρ b σ₁ = .ok (.int y) σ₂) : evalE Φ ρ (.cmp .LtE a b) σ = .ok (.bool (decide (x ≤ y))) σ₂ := ev_cmp ha hb cmp_le
theorem ev_gt (ha : evalE Φ ρ a σ = .ok (.int x) σ₁) (hb : evalE Φ ρ b σ₁ = .ok (.int y) σ₂) : evalE Φ ρ (.cmp .Gt a b) σ = .ok (.bool (decide (y < x))) σ₂ := ev_cmp ha hb cmp_gt
theorem ev_eq (ha : evalE Φ ρ a σ = .ok (.int x) σ₁) (hb : evalE Φ ρ b σ₁ = .ok (.int y) σ₂) : evalE Φ ρ (.cmp .Eq a b) σ = .ok (.bool (decide (x = y))) σ₂ := ev_cmp ha hb cmp_eq
theorem ev_ne (ha : evalE Φ ρ a σ = .ok (.int x) σ₁) (hb : evalE Φ ρ b σ₁ = .ok (.int y) σ₂) : evalE Φ ρ (.cmp .NotEq a b) σ = .ok (.bool (decide (x ≠ y))) σ₂ := ev_cmp ha hb cmp_ne
theorem ev_max' (h1 : evalE Φ ρ a σ = .ok (.int x) σ₁) (h2 : evalE Φ ρ b σ₁ = .ok (.int y) σ₂) : evalE Φ ρ (.bi .max2 [a, b]) σ = .ok (.int (max x y)) σ₂ := by
  have : (if x < y then y else x) = max x y := by split <;> omega
  simp only [ee_var, ee_cint, ee_cstr, ee_cnone, ee_cbool, ee_gint, ee_gstr, ee_bin, ee_neg, ee_not, ee_and, ee_or, ee_cmp, ee_cmp2, ee_call, ee_bi, ee_copy, ee_isi, ee_make, ee_meth, ee_attr, ee_idx, ee_sliceTo, ee_sliceFrom, ee_tup, ee_lst, ee_sumAt, ee_rev, ee_strMul, es_0, es_1, h1, h2, R.bind, biV_max, ofOpt, this]
theorem ev_min' (h1 : evalE Φ ρ a σ = .ok (.int x) σ₁) (h2 : evalE Φ ρ b σ₁ = .ok (.int y) σ₂) : evalE Φ ρ (.bi .min2 [a, b]) σ = .ok (.int (min x y)) σ₂ := by
  have : (if y < x then y else x) = min x y := by split <;> omega
  simp only [ee_var, ee_cint, ee_cstr, ee_cnone, ee_cbool, ee_gint, ee_gstr, ee_bin, ee_neg, ee_not, ee_and, ee_or, ee_cmp, ee_cmp2, ee_call, ee_bi, ee_copy, ee_isi, ee_make, ee_meth, ee_attr, ee_idx, ee_sliceTo, ee_sliceFrom, ee_tup, ee_lst, ee_sumAt, ee_rev, ee_strMul, es_0, es_1, h1, h2, R.bind, biV_min, ofOpt, this]
end
theorem and3 {Φ : Fns} {ρ : Loc} {a b c : ME} {σ : Store} (h1 : evalE Φ ρ a σ = .ok (.bool true) σ) (h2 : evalE Φ ρ b σ = .ok (.bool true) σ) (h3 : evalE Φ ρ c σ = .ok (.bool true) σ) : evalE Φ ρ (.and [a, b, c]) σ = .ok (.bool true) σ := by
  simp only [ee_var, ee_cint, ee_cstr, ee_cnone, ee_cbool, ee_gint, ee_gstr, ee_bin, ee_neg, ee_not, ee_and, ee_or, ee_cmp, ee_cmp2, ee_call, ee_bi, ee_copy, ee_isi, ee_make, ee_meth, ee_attr, ee_idx, ee_sliceTo, ee_sliceFrom, ee_tup, ee_lst, ee_sumAt, ee_rev, ee_strMul, ea_0, ea_1, h1, h2, h3, R.bind, truth, ofOpt, if_true]
theorem x_fn {P : Prog} {n f : Nat} {ρ : Loc} {args : List ME} {σ σ₁ : Store} {vs : List V} {r : R V} (ha : evalEs (pre P n) ρ args σ = .ok vs σ₁) (h : f < n) (hf : fn P f vs σ₁ = r) : evalE (pre P n) ρ (.call f args) σ = r := x_call ha ((pre_fn h _ _).trans hf)
theorem x_mt {P : Prog} {n f i : Nat} {ρ : Loc} {o : ME} {args : List ME} {σ : Store} {vs : List V} {fs : List (Nat × V)} {r : R V} (ho : evalE (pre P n) ρ o σ = .ok (.loc i) σ) (ha : evalEs (pre P n) ρ args σ = .ok vs σ) (h1 : σ[i]? = some (.inst 0 fs)) (h : f < n) (hm : (0, f) ∈ P.meths) (hf : fn P f (.loc i :: vs) σ = r) : evalE (pre P n) ρ (.meth o f args) σ = r :=
  x_meth ho ha h1 (meth_ok hm) ((pre_fn h _ _).trans hf)
/-- a run that ends with True -/
noncomputable def Ends (Φ : Fns) (b : List MS) (ρ : Loc) (σ : Store) : Prop := ∃ σ', execB Φ b ρ σ = .ok (.ret (.bool true)) σ'
section
variable {Φ : Fns} {ρ ρ' : Loc} {σ σ' : Store} {r : List MS}
theorem Ends.step {s : MS} (h : execS Φ s ρ σ = .ok (.next ρ') σ') (k : Ends Φ r ρ' σ') : Ends Φ (s :: r) ρ σ := k.elim fun τ e => ⟨τ, Mine.step h e⟩
theorem Ends.asg {i : Nat} {e : ME} {v : V} (h : evalE Φ ρ e σ = .ok v σ') (k : Ends Φ r (ρ.set i (some v)) σ') : Ends Φ (.assign i e :: r) ρ σ := .step (ex_assign h) k
theorem Ends.no {c : ME} {a : List MS} (h : evalE Φ ρ c σ = .ok (.bool false) σ') (k : Ends Φ r ρ σ') : Ends Φ (.ite c a [] :: r) ρ σ := .step (ex_ite h ex_nil) k
theorem Ends.yes {c : ME} {a b : List MS} {σ₂ : Store} (h : evalE Φ ρ c σ = .ok (.bool true) σ') (ha : execB Φ a ρ σ' = .ok (.next ρ') σ₂) (k : Ends Φ r ρ' σ₂) : Ends Φ (.ite c a b :: r) ρ σ := .step (ex_ite h ha) k
theorem Ends.ret {e : ME} (h : evalE Φ ρ e σ = .ok (.bool true) σ') : Ends Φ (.ret e :: r) ρ σ := ⟨σ', ex_ret h⟩
theorem Ends.yesRet {c : ME} {a b : List MS} (h : evalE Φ ρ c σ = .ok (.bool true) σ') (ha : Ends Φ a ρ σ') : Ends Φ (.ite c a b :: r) ρ σ := ha.elim fun τ e => ⟨τ, ret_step (ex_ite h e)⟩
end
theorem item_ints {σ : Store} {is : List Int} {k : Int} (h0 : 0 ≤ k) (h1 : k < is.length) (h2 : is.length ≤ 1000) : ∃ z, z ∈ is ∧ itemV σ (.lst (is.map .int)) (.int k) = some (.int z) := by
  have hlt : k.toNat < is.length := by omega
  refine ⟨is[k.toNat], List.getElem_mem hlt, ?_⟩
  simp only [itemV, seqOf, listOf, Option.bind_some, V.asInt]
  rw [if_pos h0, if_pos (by omega)]
  simp [hlt]
/-- the sum of a row that may be lent on -/
theorem F_sum' {P : Prog} (H : Has P 6 s_l_sum_by 3 b_l_sum_by) {src : V} {row : List (Int × Int)} {s e : Int} {σ : Store} (hs : listOf σ src = some (rowV row)) (hv : ∀ vs, src ≠ .tup vs) (hr : RowOk (-1) row) (hn : 0 < row.length) (hl : row.length ≤ 10000) (h0 : 0 ≤ s) (hse : s ≤ e) : fn P 6 [src, .int s, .int e] σ = .ok (.int (gs s e row)) σ := by
  obtain ⟨r0, m, rfl⟩ := RowOk.first hr hn
  exact F_sum H src r0 m s e σ hs hv (by simp only [List.length_cons] at hl; omega) (RowOk.rate hr) h0 hse
theorem RowOk.fit {row : List (Int × Int)} {left : Int} (h : RowOk (-1) row) (hl : row.length ≤ 10000) (hs : Sml left) : Fit row left := ⟨(RowOk.asc h).1, RowOk.rate h, by omega, hs.1, hs.2⟩
theorem RowOk.sumLow {row : List (Int × Int)} {a s e : Int} (h : RowOk a row) : 0 ≤ gs s e row := gs_low _ _ _ (RowOk.asc h).1 (RowOk.rate h)
end Mine
set_option maxRecDepth 100000
set_option maxHeartbeats 1000000
set_option linter.unusedVariables false
set_option linter.unusedSimpArgs false
namespace Mine
open PySem


noncomputable abbrev intsV (l : List Int) : List V := l.map V.int
theorem Lo.app {σ : Store} {i r : Nat} {row : List (Int × Int)} {l b a : Int} (L : Lo σ i r row l b a) (τ : Store) : Lo (σ ++ τ) i r row l b a :=
  ⟨by rw [List.getElem?_append_left (List.getElem?_eq_some_iff.mp L.obj).1]; exact L.obj, by rw [List.getElem?_append_left (List.getElem?_eq_some_iff.mp L.lst).1]; exact L.lst⟩
theorem Lo.ne {σ : Store} {i r : Nat} {row : List (Int × Int)} {l b a : Int} (L : Lo σ i r row l b a) : i ≠ r := by
  rintro rfl
  have h1 := L.obj
  rw [L.lst] at h1
  cases h1
theorem Lo.put {σ : Store} {i r : Nat} {row : List (Int × Int)} {l b a : Int} (L : Lo σ i r row l b a) (l' b' a' : Int) : Lo (σ.set i (.inst 0 (loanF r l' b' a'))) i r row l' b' a' :=
  ⟨by rw [List.getElem?_set_self (List.getElem?_eq_some_iff.mp L.obj).1], by rw [List.getElem?_set_ne L.ne]; exact L.lst⟩
theorem Lo.same {σ : Store} {i r : Nat} {row : List (Int × Int)} {l b a : Int} (L : Lo σ i r row l b a) : σ.set i (.inst 0 (loanF r l b a)) = σ := by
  obtain ⟨hlt, e⟩ := List.getElem?_eq_some_iff.mp L.obj
  rw [← e, List.set_getElem_self]
theorem Lo.lt {σ : Store} {i r : Nat} {row : List (Int × Int)} {l b a : Int} (L : Lo σ i r row l b a) : i < σ.length := (List.getElem?_eq_some_iff.mp L.obj).1
theorem len_l {σ : Store} {vs : List V} {n : Int} (h : vs.length ≤ 1000000) (hn : n = vs.length) : biV σ .len [.lst vs] = some (.int n) := by
  subst hn
  simp only [biV, bi1, seqOf, listOf, Option.bind_some]
  rw [if_pos h]
theorem ev_len {Φ : Fns} {ρ : Loc} {e : ME} {σ : Store} {v : V} {n : Int} (he : evalE Φ ρ e σ = .ok v σ) (h : biV σ .len [v] = some (.int n)) : evalE Φ ρ (.bi .len [e]) σ = .ok (.int n) σ := by
  simp only [ee_var, ee_cint, ee_cstr, ee_cnone, ee_cbool, ee_gint, ee_gstr, ee_bin, ee_neg, ee_not, ee_and, ee_or, ee_cmp, ee_cmp2, ee_call, ee_bi, ee_copy, ee_isi, ee_make, ee_meth, ee_attr, ee_idx, ee_sliceTo, ee_sliceFrom, ee_tup, ee_lst, ee_sumAt, ee_rev, ee_strMul, es_0, es_1, he, R.bind, h, ofOpt]
/-- due days that are not good behind a day -/
noncomputable def daysBad : Int → List Int → Bool
  | _, [] => false
  | a, d :: r => (decide (d ≤ a) || decide (100000 < d)) || daysBad d r
structure HasDays (P : Prog) : Prop where
  days : Has P 29 s_sure_days 2 b_sure_days
  pay : Has P 32 s_paid_by 3 b_paid_by
theorem loop_sure (Φ : Fns) (o : Option V) (all : List V) (σ : Store) : ∀ (ds : List Int) (a : Int) (x3 : Option V),
    (daysBad a ds = false → ∃ y2 y3, forL (.lst all) all (execB Φ bodySure) 3 (intsV ds) [o, some (.lst all), some (.int a), x3] σ = .ok (.next [o, some (.lst all), y2, y3]) σ) ∧
    (daysBad a ds = true → ∃ ρ', forL (.lst all) all (execB Φ bodySure) 3 (intsV ds) [o, some (.lst all), some (.int a), x3] σ = .exn true 3 ρ' σ)
  | [], a, x3 => ⟨fun _ => ⟨_, _, rfl⟩, fun h => by cases h⟩
  | d :: ds, a, x3 => by
    have hc : evalE Φ [o, some (.lst all), some (.int a), some (.int d)] (.or [.cmp .LtE (.var 3) (.var 2), .cmp .Gt (.var 3) (.gint "LAST_DAY" 100000)]) σ = .ok (.bool (decide (d ≤ a) || decide (100000 < d))) σ := or_tt (by (repeat' (first | exact ev_var rfl | exact ev_int | exact ev_gint | exact ev_str | exact ev_bool | exact ev_none | exact evs_nil | apply evs_cons | apply ev_add | apply ev_sub | apply ev_lt | apply ev_le | apply ev_gt | apply ev_ge | apply ev_eq | apply ev_ne | apply ev_max' | apply ev_min' | apply ev_mod | apply ev_div | apply ev_neg | apply not_tt | apply ev_tup | apply ev_lst | apply ev_idx | exact it_t0 | exact it_t1 | exact it_t2 | exact it_t3 | exact it_l0 | exact it_l1 | exact it_l2 | apply ev_bint | decide | omega))) fun _ => by (repeat' (first | exact ev_var rfl | exact ev_int | exact ev_gint | exact ev_str | exact ev_bool | exact ev_none | exact evs_nil | apply evs_cons | apply ev_add | apply ev_sub | apply ev_lt | apply ev_le | apply ev_gt | apply ev_ge | apply ev_eq | apply ev_ne | apply ev_max' | apply ev_min' | apply ev_mod | apply ev_div | apply ev_neg | apply not_tt | apply ev_tup | apply ev_lst | apply ev_idx | exact it_t0 | exact it_t1 | exact it_t2 | exact it_t3 | exact it_l0 | exact it_l1 | exact it_l2 | apply ev_bint | decide | omega))
    simp only [intsV, List.map_cons, fl_0, fl_1, List.set_cons_zero, List.set_cons_succ, daysBad]
    cases hb : (decide (d ≤ a) || decide (100000 < d)) with
    | true =>
      rw [hb] at hc
      have t : execB Φ bodySure [o, some (.lst all), some (.int a), some (.int d)] σ = .exn true 3 [o, some (.lst all), some (.int a), some (.int d)] σ := step_no (ex_ite hc ex_raise)
      rw [t]
      exact ⟨fun h => by simp at h, fun _ => ⟨_, rfl⟩⟩
    | false =>
      rw [hb] at hc
      have t : execB Φ bodySure [o, some (.lst all), some (.int a), some (.int d)] σ = .ok (.next [o, some (.lst all), some (.int d), some (.int d)]) σ := step (ex_ite hc ex_nil) (step (ex_assign (ev_var rfl)) ex_nil)
      rw [t]
      simp only [listOf, if_true, Bool.false_or]
      exact loop_sure Φ o all σ ds d (some (.int d))
section
variable {P : Prog} {σ : Store} {i r : Nat} {row : List (Int × Int)} {left begun day : Int}
theorem F_sure_days (H : HasLoan P) (HD : HasDays P) (L : Lo σ i r row left begun day) (ds : List Int) (hl : ds.length ≤ 400) : fn P 29 [.loc i, .lst (intsV ds)] σ = if daysBad (day - 1) ds = true then .exn 3 σ else .ok .none σ := by
  rw [fn_has HD.days]
  have hlen := len_l (σ := σ) (vs := intsV ds) (n := ds.length) (by rw [List.length_map]; omega) (by rw [List.length_map])
  have hc : evalE (pre P 29) [some (.loc i), some (.lst (intsV ds)), none, none] (.cmp .Gt (.bi .len [.var 1]) (.gint "MOST_DAYS" 400)) σ = .ok (.bool false) σ := by
    refine (ev_gt (ev_len (ev_var rfl) hlen) ev_gint).trans ?_
    rw [decide_eq_false (by omega)]
  have s1 : execS (pre P 29) (.assign 2 (.bin .Sub (.attr (.var 0) 3) (.cint 1))) [some (.loc i), some (.lst (intsV ds)), none, none] σ = .ok (.next [some (.loc i), some (.lst (intsV ds)), some (.int (day - 1)), none]) σ := ex_assign (ev_sub (ev_attr (ev_var rfl) L.obj (attr_ok H 29 (show 3 < 4 by decide)) rfl) ev_int)
  obtain ⟨h1, h2⟩ := loop_sure (pre P 29) (some (.loc i)) (intsV ds) σ ds (day - 1) none
  cases hb : daysBad (day - 1) ds with
  | false =>
    obtain ⟨y2, y3, h⟩ := h1 hb
    exact callFn_next rfl (step (ex_ite hc ex_nil) (step s1 (step (ex_for (ev_var rfl) rfl h) ex_nil)))
  | true =>
    obtain ⟨ρ', h⟩ := h2 hb
    exact callFn_no rfl (step (ex_ite hc ex_nil) (step s1 (step_no (ex_for (ev_var rfl) rfl h))))
theorem F_some_days (H : HasLoan P) (HD : HasDays P) (HS : Has P 30 s_sure_some_days 2 b_sure_some_days) (L : Lo σ i r row left begun day) (ds : List Int) (hl : ds.length ≤ 400) : fn P 30 [.loc i, .lst (intsV ds)] σ = if ds = [] ∨ daysBad (day - 1) ds = true then .exn 3 σ else .ok .none σ := by
  rw [fn_has HS]
  have hlen := len_l (σ := σ) (vs := intsV ds) (n := ds.length) (by rw [List.length_map]; omega) (by rw [List.length_map])
  have hc : evalE (pre P 30) [some (.loc i), some (.lst (intsV ds))] (.cmp .Eq (.bi .len [.var 1]) (.cint 0)) σ = .ok (.bool (decide ((ds.length : Int) = 0))) σ := ev_eq (ev_len (ev_var rfl) hlen) ev_int
  have hd := F_sure_days H HD L ds hl
  by_cases he : ds = []
  · subst he
    rw [if_pos (.inl rfl)]
    exact callFn_no (m := true) (ρ := [some (.loc i), some (.lst (intsV []))]) rfl (step_no (ex_ite hc ex_raise))
  · have h0 : ¬ (ds.length : Int) = 0 := fun h => he (List.length_eq_zero_iff.mp (by omega))
    rw [decide_eq_false h0] at hc
    cases hb : daysBad (day - 1) ds with
    | true =>
      rw [if_pos (.inr rfl)]
      rw [hb, if_pos rfl] at hd
      exact callFn_no rfl (step (ex_ite hc ex_nil) (step_no (ex_expr_no (x_fn (ev2 (ev_var rfl) (ev_var rfl)) (by decide) hd))))
    | false =>
      rw [if_neg (by simp [he])]
      rw [hb, if_neg (by simp)] at hd
      exact callFn_next rfl (step (ex_ite hc ex_nil) (step (ex_expr (x_fn (ev2 (ev_var rfl) (ev_var rfl)) (by decide) hd)) ex_nil))
theorem F_sure_part (H : Has P 31 s_sure_part 1 b_sure_part) (x : Int) (σ : Store) : fn P 31 [.int x] σ = if x < 1 then .exn 4 σ else .ok .none σ := by
  rw [fn_has H]
  have hc : evalE (pre P 31) [some (.int x)] (.cmp .Lt (.var 0) (.cint 1)) σ = .ok (.bool (decide (x < 1))) σ := by (repeat' (first | exact ev_var rfl | exact ev_int | exact ev_gint | exact ev_str | exact ev_bool | exact ev_none | exact evs_nil | apply evs_cons | apply ev_add | apply ev_sub | apply ev_lt | apply ev_le | apply ev_gt | apply ev_ge | apply ev_eq | apply ev_ne | apply ev_max' | apply ev_min' | apply ev_mod | apply ev_div | apply ev_neg | apply not_tt | apply ev_tup | apply ev_lst | apply ev_idx | exact it_t0 | exact it_t1 | exact it_t2 | exact it_t3 | exact it_l0 | exact it_l1 | exact it_l2 | apply ev_bint | decide | omega))
  by_cases h : x < 1
  · rw [decide_eq_true h] at hc
    rw [if_pos h]
    exact callFn_no rfl (step_no (ex_ite hc ex_raise))
  · rw [decide_eq_false h] at hc
    rw [if_neg h]
    exact callFn_next rfl (step (ex_ite hc ex_nil) ex_nil)
end

/-- what stays behind payments of a part: what is left, what is begun, what is paid -/
noncomputable def gone (row : List (Int × Int)) (part : Int) : List Int → Int → Int → Int → Int → Int × Int × Int
  | [], l, b, _, p => (l, b, p)
  | d :: ds, l, b, a, p =>
    if 0 < min part (owedV l (b + l * gs a d row)) then gone row part ds (partsV l (b + l * gs a d row) (min part (owedV l (b + l * gs a d row)))).2.2.1 (partsV l (b + l * gs a d row) (min part (owedV l (b + l * gs a d row)))).2.2.2 d (p + min part (owedV l (b + l * gs a d row)))
    else gone row part ds l (b + l * gs a d row) d p
noncomputable abbrev planT (d c : Int) (q : Int × Int × Int × Int) : V := .tup [.int d, .int c, .int q.1, .int q.2.1, .int q.2.2.1]
/-- the rows of a plan, and how the loan stands behind it -/
noncomputable def planV (row : List (Int × Int)) (part : Int) : List Int → Int → Int → Int → List V × Int × Int × Int
  | [], l, b, a => ([], l, b, a)
  | d :: ds, l, b, a =>
    if owedV l (b + l * gs a d row) = 0 then ([], l, b, a)
    else (planT d (min part (owedV l (b + l * gs a d row))) (partsV l (b + l * gs a d row) (min part (owedV l (b + l * gs a d row)))) :: (planV row part ds (partsV l (b + l * gs a d row) (min part (owedV l (b + l * gs a d row)))).2.2.1 (partsV l (b + l * gs a d row) (min part (owedV l (b + l * gs a d row)))).2.2.2 d).1,
      (planV row part ds (partsV l (b + l * gs a d row) (min part (owedV l (b + l * gs a d row)))).2.2.1 (partsV l (b + l * gs a d row) (min part (owedV l (b + l * gs a d row)))).2.2.2 d).2)
/-- a loan that can be asked -/
structure Well (row : List (Int × Int)) (l b : Int) : Prop where
  ok : RowOk (-1) row
  pos : 0 < row.length
  few : row.length ≤ 1000
  l0 : 0 ≤ l
  l1 : l ≤ 1000000000000
  b0 : 0 ≤ b
theorem Well.sml {row : List (Int × Int)} {l b : Int} (W : Well row l b) : Sml l := by
  have := W.l0; have := W.l1
  unfold Sml; omega
theorem Well.fit {row : List (Int × Int)} {l b : Int} (W : Well row l b) : Fit row l := RowOk.fit W.ok (Nat.le_trans W.few (by decide)) W.sml
theorem Well.later {row : List (Int × Int)} {l b : Int} (W : Well row l b) (a d : Int) : Well row l (b + l * gs a d row) :=
  ⟨W.ok, W.pos, W.few, W.l0, W.l1, Int.add_nonneg W.b0 (Int.mul_nonneg W.l0 (RowOk.sumLow W.ok))⟩
theorem Well.paid {row : List (Int × Int)} {l b : Int} (W : Well row l b) {c : Int} (h1 : 1 ≤ c) (h2 : c ≤ owedV l b) : Well row (partsV l b c).2.2.1 (partsV l b c).2.2.2 := by
  have := parts_low W.l0 W.b0 h1 h2
  have := W.l1
  exact ⟨W.ok, W.pos, W.few, by omega, by omega, by omega⟩
theorem Well.owed {row : List (Int × Int)} {l b : Int} (W : Well row l b) : 0 ≤ owedV l b := owed_low W.l0 W.b0
section
variable {P : Prog}
theorem loop_paid (H : HasLoan P) (HP : HasPay P) (all : List V) (part : Int) (hp : 1 ≤ part) {i r : Nat} {row : List (Int × Int)} : ∀ (ds : List Int) (l b a : Int) (σ : Store) (done : List V) (x4 x5 x6 x7 : Option V), Lo σ i r row l b a → Well row l b → daysBad (a - 1) ds = false → done.length + ds.length ≤ 1000 →
    ∃ y4 y5 y6 y7, forL (.lst all) all (execB (pre P 32) bodyPaid) 4 (intsV ds) [some (.loc i), some (.lst all), some (.int part), some (.loc σ.length), x4, x5, x6, x7] (σ ++ [.list done]) = .ok (.next [some (.loc i), some (.lst all), some (.int part), some (.loc σ.length), y4, y5, y6, y7]) (σ.set i (.inst 0 (loanF r (planV row part ds l b a).2.1 (planV row part ds l b a).2.2.1 (planV row part ds l b a).2.2.2)) ++ [.list (done ++ (planV row part ds l b a).1)]) ∨
      forL (.lst all) all (execB (pre P 32) bodyPaid) 4 (intsV ds) [some (.loc i), some (.lst all), some (.int part), some (.loc σ.length), x4, x5, x6, x7] (σ ++ [.list done]) = .ok (.ret (.loc σ.length)) (σ.set i (.inst 0 (loanF r (planV row part ds l b a).2.1 (planV row part ds l b a).2.2.1 (planV row part ds l b a).2.2.2)) ++ [.list (done ++ (planV row part ds l b a).1)])
  | [], l, b, a, σ, done, x4, x5, x6, x7, L, W, hd, hl => ⟨x4, x5, x6, x7, .inl (by simp only [planV, List.append_nil, L.same]; rfl)⟩
  | d :: ds, l, b, a, σ, done, x4, x5, x6, x7, L, W, hd, hl => by
    simp only [daysBad, Bool.or_eq_false_iff, decide_eq_false_iff_not] at hd
    obtain ⟨⟨hd1, hd2⟩, hd3⟩ := hd
    have L' := L.app [.list done]
    have hda : a ≤ d ∧ d ≤ 100000 := by omega
    have ho := F_owed H HP L' W.fit d hda.1 hda.2
    have W' := W.later a d
    simp only [planV]
    obtain ⟨b', hb'⟩ : ∃ b', b' = b + l * gs a d row := ⟨_, rfl⟩
    rw [← hb'] at ho W' ⊢
    have s0 : execS (pre P 32) (.assign 5 (.meth (.var 0) 25 [.var 4])) [some (.loc i), some (.lst all), some (.int part), some (.loc σ.length), some (.int d), x5, x6, x7] (σ ++ [.list done]) = .ok (.next [some (.loc i), some (.lst all), some (.int part), some (.loc σ.length), some (.int d), some (.int (owedV l b')), x6, x7]) (σ ++ [.list done]) :=
      ex_assign (x_mt (ev_var rfl) (ev1 (ev_var rfl)) L'.obj (by decide) HP.mowed ho)
    have hc : evalE (pre P 32) [some (.loc i), some (.lst all), some (.int part), some (.loc σ.length), some (.int d), some (.int (owedV l b')), x6, x7] (.cmp .Eq (.var 5) (.cint 0)) (σ ++ [.list done]) = .ok (.bool (decide (owedV l b' = 0))) (σ ++ [.list done]) := by (repeat' (first | exact ev_var rfl | exact ev_int | exact ev_gint | exact ev_str | exact ev_bool | exact ev_none | exact evs_nil | apply evs_cons | apply ev_add | apply ev_sub | apply ev_lt | apply ev_le | apply ev_gt | apply ev_ge | apply ev_eq | apply ev_ne | apply ev_max' | apply ev_min' | apply ev_mod | apply ev_div | apply ev_neg | apply not_tt | apply ev_tup | apply ev_lst | apply ev_idx | exact it_t0 | exact it_t1 | exact it_t2 | exact it_t3 | exact it_l0 | exact it_l1 | exact it_l2 | apply ev_bint | decide | omega))
    simp only [intsV, List.map_cons, fl_0, fl_1, List.set_cons_zero, List.set_cons_succ]
    by_cases h0 : owedV l b' = 0
    · rw [decide_eq_true h0] at hc
      rw [if_pos h0]
      have t : execB (pre P 32) bodyPaid [some (.loc i), some (.lst all), some (.int part), some (.loc σ.length), some (.int d), x5, x6, x7] (σ ++ [.list done]) = .ok (.ret (.loc σ.length)) (σ ++ [.list done]) := step s0 (ret_step (ex_ite hc (ex_ret (ev_var rfl))))
      refine ⟨x4, x5, x6, x7, .inr ?_⟩
      rw [t]
      simp only [List.append_nil, L.same]
    · rw [decide_eq_false h0] at hc
      rw [if_neg h0]
      have hw := W'.owed
      obtain ⟨c, hcc⟩ : ∃ c, c = min part (owedV l b') := ⟨_, rfl⟩
      have hc1 : 1 ≤ c ∧ c ≤ owedV l b' := by omega
      have W2 := W'.paid hc1.1 hc1.2
      have hpay := F_pay H HP L' W.fit d c hda.1 hda.2 hc1.1 (by rw [← hb']; exact hc1.2)
      rw [← hb'] at hpay
      rw [← hcc]
      obtain ⟨q, hq⟩ : ∃ q, q = partsV l b' c := ⟨_, rfl⟩
      rw [← hq] at hpay W2 ⊢
      have hset : (σ ++ [Ob.list done]).set i (Ob.inst 0 (loanF r q.2.2.1 q.2.2.2 d)) = σ.set i (Ob.inst 0 (loanF r q.2.2.1 q.2.2.2 d)) ++ [Ob.list done] := List.set_append_left _ _ L.lt
      rw [hset] at hpay
      obtain ⟨σ', hσ'⟩ : ∃ σ', σ' = σ.set i (Ob.inst 0 (loanF r q.2.2.1 q.2.2.2 d)) := ⟨_, rfl⟩
      have hlen : σ'.length = σ.length := by rw [hσ', List.length_set]
      have L2 : Lo σ' i r row q.2.2.1 q.2.2.2 d := hσ' ▸ L.put _ _ _
      rw [← hσ'] at hpay
      have hdl : done.length < 1000000 := by simp only [List.length_cons] at hl; omega
      have t : execB (pre P 32) bodyPaid [some (.loc i), some (.lst all), some (.int part), some (.loc σ.length), some (.int d), x5, x6, x7] (σ ++ [.list done]) = .ok (.next [some (.loc i), some (.lst all), some (.int part), some (.loc σ.length), some (.int d), some (.int (owedV l b')), some (.int c), some (.tup [.int q.1, .int q.2.1])]) (σ' ++ [.list (done ++ [planT d c q])]) := by
        refine step s0 (step (ex_ite hc ex_nil) (step (ρ' := [some (.loc i), some (.lst all), some (.int part), some (.loc σ.length), some (.int d), some (.int (owedV l b')), some (.int c), x7]) (σ' := σ ++ [.list done]) ?_ (step (ρ' := [some (.loc i), some (.lst all), some (.int part), some (.loc σ.length), some (.int d), some (.int (owedV l b')), some (.int c), some (.tup [.int q.1, .int q.2.1])]) (σ' := σ' ++ [.list done]) ?_ (step ?_ ex_nil))))
        · rw [hcc]; exact ex_assign (by (repeat' (first | exact ev_var rfl | exact ev_int | exact ev_gint | exact ev_str | exact ev_bool | exact ev_none | exact evs_nil | apply evs_cons | apply ev_add | apply ev_sub | apply ev_lt | apply ev_le | apply ev_gt | apply ev_ge | apply ev_eq | apply ev_ne | apply ev_max' | apply ev_min' | apply ev_mod | apply ev_div | apply ev_neg | apply not_tt | apply ev_tup | apply ev_lst | apply ev_idx | exact it_t0 | exact it_t1 | exact it_t2 | exact it_t3 | exact it_l0 | exact it_l1 | exact it_l2 | apply ev_bint | decide | omega)))
        · exact ex_assign (x_mt (ev_var rfl) (ev2 (ev_var rfl) (ev_var rfl)) L'.obj (by decide) HP.mpay hpay)
        · have hg : (σ' ++ [Ob.list done])[σ.length]? = some (.list done) := by rw [← hlen]; simp
          have := ex_append (Φ := pre P 32) (ρ := [some (.loc i), some (.lst all), some (.int part), some (.loc σ.length), some (.int d), some (.int (owedV l b')), some (.int c), some (.tup [.int q.1, .int q.2.1])]) (o := .var 3) (e := .tup [.var 4, .var 6, .idx (.var 7) (.cint 0), .idx (.var 7) (.cint 1), .attr (.var 0) 1]) (σ := σ' ++ [.list done]) (v := planT d c q) (ev_var rfl) (ev_tup (evs_cons (ev_var rfl) (ev4 (ev_var rfl) (ev_idx (ev_var rfl) ev_int it_t0) (ev_idx (ev_var rfl) ev_int it_t1) (ev_attr (ev_var rfl) (L2.app _).obj (attr_ok H 32 (show 1 < 4 by decide)) rfl)))) hg hg hdl
          rw [this, ← hlen, st_set]
      obtain ⟨y4, y5, y6, y7, ih⟩ := loop_paid H HP all part hp ds q.2.2.1 q.2.2.2 d σ' (done ++ [planT d c q]) (some (.int d)) (some (.int (owedV l b'))) (some (.int c)) (some (.tup [.int q.1, .int q.2.1])) L2 W2 (by
        have : ∀ (l : List Int), daysBad d l = false → daysBad (d - 1) l = false := by
          intro l hl
          cases l with
          | nil => rfl
          | cons x l =>
            simp only [daysBad, Bool.or_eq_false_iff, decide_eq_false_iff_not] at hl ⊢
            exact ⟨⟨by omega, hl.1.2⟩, hl.2⟩
        exact this ds hd3) (by simp only [List.length_cons, List.length_append, List.length_nil] at hl ⊢; omega)
      have hcomp : ∀ ob, σ'.set i ob = σ.set i ob := fun ob => by rw [hσ', List.set_set]
      rw [hlen, hcomp, List.append_assoc] at ih
      refine ⟨y4, y5, y6, y7, ?_⟩
      simp only [intsV] at ih
      rw [t]
      simp only [listOf, if_true]
      exact ih
theorem F_paid_by (H : HasLoan P) (HP : HasPay P) (HD : HasDays P) (part : Int) (hp : 1 ≤ part) {i r : Nat} {row : List (Int × Int)} {l b a : Int} {σ : Store} (ds : List Int) (L : Lo σ i r row l b a) (W : Well row l b) (hd : daysBad (a - 1) ds = false) (hl : ds.length ≤ 1000) :
    fn P 32 [.loc i, .lst (intsV ds), .int part] σ = .ok (.loc σ.length) (σ.set i (.inst 0 (loanF r (planV row part ds l b a).2.1 (planV row part ds l b a).2.2.1 (planV row part ds l b a).2.2.2)) ++ [.list (planV row part ds l b a).1]) := by
  rw [fn_has HD.pay]
  obtain ⟨y4, y5, y6, y7, h⟩ := loop_paid H HP (intsV ds) part hp ds l b a σ [] none none none none L W hd (by simpa using hl)
  rw [List.nil_append] at h
  have s0 : execS (pre P 32) (.assign 3 (.lst true [])) [some (.loc i), some (.lst (intsV ds)), some (.int part), none, none, none, none, none] σ = .ok (.next [some (.loc i), some (.lst (intsV ds)), some (.int part), some (.loc σ.length), none, none, none, none]) (σ ++ [.list []]) := by
    refine ex_assign ?_
    simp only [ee_var, ee_cint, ee_cstr, ee_cnone, ee_cbool, ee_gint, ee_gstr, ee_bin, ee_neg, ee_not, ee_and, ee_or, ee_cmp, ee_cmp2, ee_call, ee_bi, ee_copy, ee_isi, ee_make, ee_meth, ee_attr, ee_idx, ee_sliceTo, ee_sliceFrom, ee_tup, ee_lst, ee_sumAt, ee_rev, ee_strMul, es_0, es_1, R.bind]; rfl
  rcases h with h | h
  · exact callFn_ret rfl (step s0 (step (ex_for (ev_var rfl) rfl h) (ex_ret (ev_var rfl))))
  · exact callFn_ret rfl (step s0 (ret_step (ex_for (ev_var rfl) rfl h)))
end
end Mine
set_option maxRecDepth 100000
set_option maxHeartbeats 1000000
set_option linter.unusedVariables false
set_option linter.unusedSimpArgs false
namespace Mine
open PySem


theorem F_sumW {P : Prog} (HS : Has P 6 s_l_sum_by 3 b_l_sum_by) {row : List (Int × Int)} {l b : Int} (W : Well row l b) {σ : Store} {src : V} (hs : listOf σ src = some (rowV row)) (hv : ∀ vs, src ≠ .tup vs) {s e : Int} (h0 : 0 ≤ s) (h : s ≤ e) : fn P 6 [src, .int s, .int e] σ = .ok (.int (gs s e row)) σ :=
  F_sum' HS hs hv W.ok W.pos (Nat.le_trans W.few (by decide)) h0 h
structure HasLaw (P : Prog) : Prop where
  base : Base P
  sum : Has P 6 s_l_sum_by 3 b_l_sum_by
  owed : Has P 8 s_l_owed 2 b_l_owed
  parts : Has P 9 s_l_parts 3 b_l_parts
section
variable {P : Prog}
theorem loop_behind (HL : HasLaw P) (x0 : Option V) (all : List V) (part : Int) {row : List (Int × Int)} {src : V} {σ : Store} (hs : listOf σ src = some (rowV row)) (hv : ∀ vs, src ≠ .tup vs) : ∀ (ds : List Int) (l b a p : Int) (x8 x9 : Option V), Well row l b → 0 ≤ a → daysBad (a - 1) ds = false →
    ∃ y6 y8 y9, forL (.lst all) all (execB (pre P 50) bodyBehind) 8 (intsV ds) [x0, some src, some (.lst all), some (.int part), some (.int l), some (.int b), some (.int a), some (.int p), x8, x9] σ = .ok (.next [x0, some src, some (.lst all), some (.int part), some (.int (gone row part ds l b a p).1), some (.int (gone row part ds l b a p).2.1), y6, some (.int (gone row part ds l b a p).2.2), y8, y9]) σ
  | [], l, b, a, p, x8, x9, W, ha, hd => ⟨_, x8, x9, rfl⟩
  | d :: ds, l, b, a, p, x8, x9, W, ha, hd => by
    simp only [daysBad, Bool.or_eq_false_iff, decide_eq_false_iff_not] at hd
    obtain ⟨⟨hd1, hd2⟩, hd3⟩ := hd
    have hda : a ≤ d := by omega
    have hd4 : daysBad (d - 1) ds = false := by
      cases ds with
      | nil => rfl
      | cons x l =>
        simp only [daysBad, Bool.or_eq_false_iff, decide_eq_false_iff_not] at hd3 ⊢
        exact ⟨⟨by omega, hd3.1.2⟩, hd3.2⟩
    have hsum := F_sumW HL.sum W hs hv ha hda
    have W' := W.later a d
    simp only [gone]
    obtain ⟨b', hb'⟩ : ∃ b', b' = b + l * gs a d row := ⟨_, rfl⟩
    rw [← hb'] at W' ⊢
    obtain ⟨c, hcc⟩ : ∃ c, c = min part (owedV l b') := ⟨_, rfl⟩
    rw [← hcc]
    have s0 : execS (pre P 50) (.assign 5 (.bin .Add (.var 5) (.bin .Mult (.var 4) (.call 6 [.var 1, .var 6, .var 8])))) [x0, some src, some (.lst all), some (.int part), some (.int l), some (.int b), some (.int a), some (.int p), some (.int d), x9] σ = .ok (.next [x0, some src, some (.lst all), some (.int part), some (.int l), some (.int b'), some (.int a), some (.int p), some (.int d), x9]) σ := by
      rw [hb']; exact ex_assign (ev_add (ev_var rfl) (ev_mull (ev_var rfl) (x_fn (ev3 (ev_var rfl) (ev_var rfl) (ev_var rfl)) (by decide) hsum) W.sml))
    have s2 : execS (pre P 50) (.assign 9 (.bi .min2 [.var 3, .call 8 [.var 4, .var 5]])) [x0, some src, some (.lst all), some (.int part), some (.int l), some (.int b'), some (.int d), some (.int p), some (.int d), x9] σ = .ok (.next [x0, some src, some (.lst all), some (.int part), some (.int l), some (.int b'), some (.int d), some (.int p), some (.int d), some (.int c)]) σ := by
      rw [hcc]; exact ex_assign (ev_min' (ev_var rfl) (x_fn (ev2 (ev_var rfl) (ev_var rfl)) (by decide) (F_lowed HL.owed _ _ _)))
    have hc : evalE (pre P 50) [x0, some src, some (.lst all), some (.int part), some (.int l), some (.int b'), some (.int d), some (.int p), some (.int d), some (.int c)] (.cmp .Gt (.var 9) (.cint 0)) σ = .ok (.bool (decide (0 < c))) σ := by (repeat' (first | exact ev_var rfl | exact ev_int | exact ev_gint | exact ev_str | exact ev_bool | exact ev_none | exact evs_nil | apply evs_cons | apply ev_add | apply ev_sub | apply ev_lt | apply ev_le | apply ev_gt | apply ev_ge | apply ev_eq | apply ev_ne | apply ev_max' | apply ev_min' | apply ev_mod | apply ev_div | apply ev_neg | apply not_tt | apply ev_tup | apply ev_lst | apply ev_idx | exact it_t0 | exact it_t1 | exact it_t2 | exact it_t3 | exact it_l0 | exact it_l1 | exact it_l2 | apply ev_bint | decide | omega))
    simp only [intsV, List.map_cons, fl_0, fl_1, List.set_cons_zero, List.set_cons_succ]
    by_cases h0 : 0 < c
    · rw [decide_eq_true h0] at hc
      rw [if_pos h0]
      have W2 := W'.paid (c := c) (by omega) (by omega)
      have hpt := F_lparts HL.parts l b' c σ
      obtain ⟨q, hq⟩ : ∃ q, q = partsV l b' c := ⟨_, rfl⟩
      rw [← hq] at W2 hpt ⊢
      obtain ⟨y6, y8, y9, ih⟩ := loop_behind HL x0 all part hs hv ds q.2.2.1 q.2.2.2 d (p + c) (some (.int d)) (some (.int c)) W2 (by omega) hd4
      refine ⟨y6, y8, y9, ?_⟩
      have t : execB (pre P 50) bodyBehind [x0, some src, some (.lst all), some (.int part), some (.int l), some (.int b), some (.int a), some (.int p), some (.int d), x9] σ = .ok (.next [x0, some src, some (.lst all), some (.int part), some (.int q.2.2.1), some (.int q.2.2.2), some (.int d), some (.int (p + c)), some (.int d), some (.int c)]) σ :=
        step s0 (step (ex_assign (ev_var rfl)) (step s2 (step (ex_ite hc (step (ex_unpack (x_fromT (x_fn (ev3 (ev_var rfl) (ev_var rfl) (ev_var rfl)) (by decide) hpt) ev_int cut_four) rfl) (step (ex_assign (ev_add (ev_var rfl) (ev_var rfl))) ex_nil))) ex_nil)))
      rw [t]
      simp only [listOf, if_true]
      exact ih
    · rw [decide_eq_false h0] at hc
      rw [if_neg h0]
      obtain ⟨y6, y8, y9, ih⟩ := loop_behind HL x0 all part hs hv ds l b' d p (some (.int d)) (some (.int c)) W' (by omega) hd4
      refine ⟨y6, y8, y9, ?_⟩
      have t : execB (pre P 50) bodyBehind [x0, some src, some (.lst all), some (.int part), some (.int l), some (.int b), some (.int a), some (.int p), some (.int d), x9] σ = .ok (.next [x0, some src, some (.lst all), some (.int part), some (.int l), some (.int b'), some (.int d), some (.int p), some (.int d), some (.int c)]) σ :=
        step s0 (step (ex_assign (ev_var rfl)) (step s2 (step (ex_ite hc ex_nil) ex_nil)))
      rw [t]
      simp only [listOf, if_true]
      exact ih
theorem F_behind (HL : HasLaw P) (HB : Has P 50 s_l_behind 4 b_l_behind) {row : List (Int × Int)} {src : V} {σ : Store} (hs : listOf σ src = some (rowV row)) (hv : ∀ vs, src ≠ .tup vs) (ds : List Int) {l b a : Int} (W : Well row l b) (ha : 0 ≤ a) (hd : daysBad (a - 1) ds = false) (part : Int) :
    fn P 50 [.tup [.int l, .int b, .int a], src, .lst (intsV ds), .int part] σ = .ok (.tup [.int (gone row part ds l b a 0).2.2, .int (owedV (gone row part ds l b a 0).1 (gone row part ds l b a 0).2.1)]) σ := by
  rw [fn_has HB]
  obtain ⟨y6, y8, y9, h⟩ := loop_behind HL (some (.tup [.int l, .int b, .int a])) (intsV ds) part hs hv ds l b a 0 none none W ha hd
  exact callFn_ret rfl (step (ex_unpack (ev_var rfl) rfl) (step (ex_assign ev_int) (step (ex_for (ev_var rfl) rfl h) (ex_ret (ev_tup (ev2 (ev_var rfl) (x_fn (ev2 (ev_var rfl) (ev_var rfl)) (by decide) (F_lowed HL.owed _ _ _))))))))

/-- the due days -/
noncomputable def dayD (cell at' wide : Int) : Nat → Int
  | 0 => at' + cell % 4
  | k + 1 => dayD cell at' wide k + 1 + mixed (cell + 17 * ((k : Int) + 1)) wide
noncomputable def dayL (cell at' wide : Int) (n : Nat) : List Int := (List.range (n + 1)).map (dayD cell at' wide)
theorem dayL_succ (cell at' wide : Int) (n : Nat) : dayL cell at' wide (n + 1) = dayL cell at' wide n ++ [dayD cell at' wide (n + 1)] := by
  simp [dayL, List.range_succ]
theorem dayL_last (cell at' wide : Int) (n : Nat) : ∃ l, dayL cell at' wide n = l ++ [dayD cell at' wide n] := by
  cases n with
  | zero => exact ⟨[], rfl⟩
  | succ n => exact ⟨_, dayL_succ cell at' wide n⟩
theorem dayL_len (cell at' wide : Int) (n : Nat) : (dayL cell at' wide n).length = n + 1 := by simp [dayL]
theorem dayD_lt (cell at' wide : Int) (hw : 0 < wide) (j k : Nat) (h : j < k) : dayD cell at' wide j < dayD cell at' wide k := by
  induction k with
  | zero => omega
  | succ k ih =>
    have := mixed_nonneg (cell + 17 * ((k : Int) + 1)) wide hw
    have e : dayD cell at' wide (k + 1) = dayD cell at' wide k + 1 + mixed (cell + 17 * ((k : Int) + 1)) wide := rfl
    by_cases hjk : j = k
    · subst hjk; omega
    · have := ih (by omega); omega
theorem dayD_le (cell at' wide : Int) (hw : 0 < wide) : ∀ k : Nat, at' ≤ dayD cell at' wide k ∧ dayD cell at' wide k ≤ at' + cell % 4 + (k : Int) * wide
  | 0 => by simp only [dayD]; omega
  | k + 1 => by
    have := dayD_le cell at' wide hw k
    have := mixed_lt (cell + 17 * ((k : Int) + 1)) wide hw
    have := mixed_nonneg (cell + 17 * ((k : Int) + 1)) wide hw
    have e : dayD cell at' wide (k + 1) = dayD cell at' wide k + 1 + mixed (cell + 17 * ((k : Int) + 1)) wide := rfl
    have e2 : (((k + 1 : Nat)) : Int) * wide = (k : Int) * wide + wide := by push_cast; rw [Int.add_mul, Int.one_mul]
    omega
theorem days_ok : ∀ (l : List Int) (a : Int), l.Pairwise (· < ·) → (∀ d ∈ l, a < d ∧ d ≤ 100000) → daysBad a l = false
  | [], _, _, _ => rfl
  | d :: l, a, hp, hd => by
    have h1 := hd d (by simp)
    have h2 := List.pairwise_cons.mp hp
    simp only [daysBad, Bool.or_eq_false_iff, decide_eq_false_iff_not]
    exact ⟨⟨by omega, by omega⟩, days_ok l d h2.2 fun x hx => ⟨h2.1 x hx, (hd x (by simp [hx])).2⟩⟩
theorem item_lastI {σ : Store} {v : V} {l : List Int} {p : Int} (hl : listOf σ v = some (intsV (l ++ [p]))) (hv : ∀ vs, v ≠ .tup vs) : itemV σ v (.int (-1)) = some (.int p) := by
  have e : seqOf σ v = some (intsV (l ++ [p])) := by
    cases v with
    | tup vs => exact absurd rfl (hv vs)
    | _ => exact hl
  simp only [itemV, e, Option.bind_some, V.asInt]
  rw [if_neg (by omega), if_pos ⟨by simp; omega, by omega⟩]
  have : (-1 + ((intsV (l ++ [p])).length : Int)).toNat = l.length := by simp; omega
  rw [this]
  simp [intsV]
theorem loop_days (HB : Base P) (cell at' many wide : Int) (hw : 0 < wide) (σ : Store) : ∀ (m j : Nat) (x5 : Option V), j + m < 1000 →
    ∃ x5', forR (execB (pre P 12) bodyDays) 5 m ((j : Int) + 1) [some (.int cell), some (.int at'), some (.int many), some (.int wide), some (.loc σ.length), x5] (σ ++ [.list (intsV (dayL cell at' wide j))]) =
      .ok (.next [some (.int cell), some (.int at'), some (.int many), some (.int wide), some (.loc σ.length), x5']) (σ ++ [.list (intsV (dayL cell at' wide (j + m)))])
  | 0, j, x5, _ => ⟨x5, rfl⟩
  | m + 1, j, x5, h => by
    obtain ⟨l, hl⟩ := dayL_last cell at' wide j
    have e1 : listOf (σ ++ [.list (intsV (dayL cell at' wide j))]) (.loc σ.length) = some (intsV (l ++ [dayD cell at' wide j])) := by simp only [listOf, st_get, hl]
    have e2 := item_lastI e1 (by intro vs h; cases h)
    have hlen : (intsV (dayL cell at' wide j)).length < 1000000 := by rw [List.length_map, dayL_len]; omega
    have t : execB (pre P 12) bodyDays [some (.int cell), some (.int at'), some (.int many), some (.int wide), some (.loc σ.length), some (.int ((j : Int) + 1))] (σ ++ [.list (intsV (dayL cell at' wide j))]) = .ok (.next [some (.int cell), some (.int at'), some (.int many), some (.int wide), some (.loc σ.length), some (.int ((j : Int) + 1))]) (σ ++ [.list (intsV (dayL cell at' wide (j + 1)))]) := by
      have := ex_append (Φ := pre P 12) (ρ := [some (.int cell), some (.int at'), some (.int many), some (.int wide), some (.loc σ.length), some (.int ((j : Int) + 1))]) (o := .var 4) (e := .bin .Add (.bin .Add (.idx (.var 4) (.neg (.cint 1))) (.cint 1)) (.call 2 [.bin .Add (.var 0) (.bin .Mult (.cint 17) (.var 5)), .var 3])) (σ := σ ++ [.list (intsV (dayL cell at' wide j))]) (v := .int (dayD cell at' wide (j + 1))) (ev_var rfl) (ev_add (ev_add (ev_idx (ev_var rfl) (ev_neg ev_int) e2) ev_int) (x_fn (ev2 (ev_add (ev_var rfl) (ev_mull ev_int (ev_var rfl) (by unfold Sml; omega))) (ev_var rfl)) (by decide) (F_mixed HB _ _ hw _))) (st_get _ _) (st_get _ _) hlen
      refine step (this.trans ?_) ex_nil
      rw [st_set, dayL_succ]
      simp [intsV]
    obtain ⟨x5', ih⟩ := loop_days HB cell at' many wide hw σ m (j + 1) (some (.int ((j : Int) + 1))) (by omega)
    refine ⟨x5', ?_⟩
    simp only [fr_0, fr_1, List.set_cons_zero, List.set_cons_succ]
    rw [t]
    have e : (((j + 1 : Nat) : Int) + 1) = (j : Int) + 1 + 1 := by push_cast; rfl
    have e' : j + 1 + m = j + (m + 1) := by omega
    rw [e, e'] at ih
    exact ih
theorem F_days (HB : Base P) (HD : Has P 12 s_l_days_by 4 b_l_days_by) (cell at' many wide : Int) (hw : 0 < wide) (hm : 0 ≤ many) (hm' : many ≤ 900) (h0 : 0 ≤ at') (h : many = 0 ∨ at' + 3 + (many - 1) * wide ≤ 100000) (σ : Store) :
    ∃ ds ob, fn P 12 [.int cell, .int at', .int many, .int wide] σ = .ok (.lst (intsV ds)) (σ ++ [ob]) ∧ (ds.length : Int) = many ∧ daysBad (at' - 1) ds = false := by
  rw [fn_has HD]
  obtain ⟨x5', hL⟩ := loop_days HB cell at' many wide hw σ (many - 1).toNat 0 none (by omega)
  have e0 : intsV (dayL cell at' wide 0) = [.int (at' + cell % 4)] := rfl
  have e1 : ((0 : Nat) : Int) + 1 = 1 := rfl
  rw [e0, e1, Nat.zero_add] at hL
  have hr : rangeOf [.int 1, .int many] = some (1, (many - 1).toNat) := by
    show (if (-1000000 < (1 : Int) ∧ (1 : Int) < 1000000) ∧ (-1000000 < many ∧ many < 1000000) then some ((1 : Int), (many - 1).toNat) else none) = _
    rw [if_pos ⟨⟨by decide, by decide⟩, by omega, by omega⟩]
  have hlen : (intsV (dayL cell at' wide (many - 1).toNat)).length ≤ 1000000 := by rw [List.length_map, dayL_len]; omega
  refine ⟨(dayL cell at' wide (many - 1).toNat).take many.toNat, Ob.list (intsV (dayL cell at' wide (many - 1).toNat)), callFn_ret rfl (step (ρ' := [some (.int cell), some (.int at'), some (.int many), some (.int wide), some (.loc σ.length), none]) (σ' := σ ++ [Ob.list [V.int (at' + cell % 4)]]) ?_ (step (ex_range (σ' := σ ++ [Ob.list [V.int (at' + cell % 4)]]) (ev2 ev_int (ev_var rfl)) hr hL) (ex_ret ?_))), ?_, ?_⟩
  · refine ex_assign ?_
    have : evalEs (pre P 12) [some (.int cell), some (.int at'), some (.int many), some (.int wide), none, none] [.bin .Add (.var 1) (.bin .Mod (.var 0) (.cint 4))] σ = .ok [.int (at' + cell % 4)] σ := ev1 (by (repeat' (first | exact ev_var rfl | exact ev_int | exact ev_gint | exact ev_str | exact ev_bool | exact ev_none | exact evs_nil | apply evs_cons | apply ev_add | apply ev_sub | apply ev_lt | apply ev_le | apply ev_gt | apply ev_ge | apply ev_eq | apply ev_ne | apply ev_max' | apply ev_min' | apply ev_mod | apply ev_div | apply ev_neg | apply not_tt | apply ev_tup | apply ev_lst | apply ev_idx | exact it_t0 | exact it_t1 | exact it_t2 | exact it_t3 | exact it_l0 | exact it_l1 | exact it_l2 | apply ev_bint | decide | omega)))
    show evalE (pre P 12) [some (.int cell), some (.int at'), some (.int many), some (.int wide), none, none] _ σ = _
    simp only [ee_var, ee_cint, ee_cstr, ee_cnone, ee_cbool, ee_gint, ee_gstr, ee_bin, ee_neg, ee_not, ee_and, ee_or, ee_cmp, ee_cmp2, ee_call, ee_bi, ee_copy, ee_isi, ee_make, ee_meth, ee_attr, ee_idx, ee_sliceTo, ee_sliceFrom, ee_tup, ee_lst, ee_sumAt, ee_rev, ee_strMul, this, R.bind, if_true]
  · have := ev_to (Φ := pre P 12) (ρ := [some (.int cell), some (.int at'), some (.int many), some (.int wide), some (.loc σ.length), x5']) (a := .var 4) (k := .var 2) (σ := σ ++ [.list (intsV (dayL cell at' wide (many - 1).toNat))]) (ev_var rfl) (ev_var rfl) (cut_to (n := many.toNat) (vs := intsV (dayL cell at' wide (many - 1).toNat)) (by simp only [listOf, st_get]) hlen hm (by omega) rfl)
    rw [this, intsV, intsV, List.map_take]
  · rw [List.length_take, dayL_len]; omega
  · refine days_ok _ _ ?_ ?_
    · refine List.Pairwise.sublist (List.take_sublist _ _) ?_
      rw [dayL, List.pairwise_map]
      exact List.Pairwise.imp (fun h => dayD_lt cell at' wide hw _ _ h) List.pairwise_lt_range
    · intro d hd
      rcases h with rfl | h
      · simp at hd
      · have hd := List.mem_of_mem_take hd
        simp only [dayL, List.mem_map, List.mem_range] at hd
        obtain ⟨k, hk, rfl⟩ := hd
        by_cases hz : many = 0
        · subst hz
          have hk0 : k = 0 := by simp at hk; omega
          subst hk0
          have h1 := dayD_le cell at' wide hw 0
          simp at hd
        · have h1 := dayD_le cell at' wide hw k
          have h2 : (k : Int) * wide ≤ (many - 1) * wide := Int.mul_le_mul_of_nonneg_right (by omega) (by omega)
          have h3 : cell % 4 ≤ 3 := by omega
          omega
end
end Mine
set_option maxRecDepth 100000
set_option maxHeartbeats 1000000
set_option linter.unusedVariables false
set_option linter.unusedSimpArgs false
namespace Mine
open PySem

theorem gs_high (s e : Int) : ∀ (l : List (Int × Int)) (p : Int × Int), Asc (p :: l) → RateOk (p :: l) → gs s e (p :: l) ≤ 100000 * wd s e p.1
  | [], p, _, hr => by
    have h1 := hr p (by simp)
    have h2 : 0 ≤ wd s e p.1 := by unfold wd; omega
    simp only [gs]
    rw [Int.mul_comm]
    exact Int.mul_le_mul_of_nonneg_right h1.2 h2
  | q :: r, p, ha, hr => by
    have h1 := hr p (by simp)
    have ih := gs_high s e r q (List.pairwise_cons.mp ha).2 fun x hx => hr x (by simp [hx])
    have h2 : p.1 < q.1 := (List.pairwise_cons.mp ha).1 q (by simp)
    have h3 : 0 ≤ wd s e p.1 - wd s e q.1 := by unfold wd; omega
    have h4 := Int.mul_le_mul_of_nonneg_left h1.2 h3
    simp only [gs]
    omega
theorem RowOk.sumHigh {row : List (Int × Int)} {a s e : Int} (h : RowOk a row) (hs : 0 ≤ s) (hse : s ≤ e) (he : e ≤ 100000) : gs s e row ≤ 10000000000 := by
  cases row with
  | nil => simp [gs]
  | cons p l =>
    have h1 := gs_high s e l p (RowOk.asc h).1 (RowOk.rate h)
    have h2 : wd s e p.1 ≤ 100000 := by unfold wd; omega
    omega
theorem Well.grow {row : List (Int × Int)} {l b : Int} (W : Well row l b) {s e : Int} (hs : 0 ≤ s) (hse : s ≤ e) (he : e ≤ 100000) : l * gs s e row ≤ 10 ^ 22 := by
  have h1 := RowOk.sumHigh W.ok hs hse he
  have h2 := RowOk.sumLow (s := s) (e := e) W.ok
  have h3 := Int.mul_le_mul W.l1 h1 h2 (by decide)
  exact Int.le_trans h3 (by decide)
theorem parts_begun {a b c : Int} (hb : 0 ≤ b) (h1 : 1 ≤ c) : (partsV a b c).2.2.2 ≤ b := by
  unfold partsV
  by_cases h : c = owedV a b
  · rw [if_pos h]; exact hb
  · rw [if_neg h]
    dsimp only
    split <;> omega
/-- how a loan of the laws stands, and what is held against it -/
structure Sit (D : Int) (σ : Store) (src : V) (row : List (Int × Int)) (l b a : Int) : Prop where
  lo : Lo σ 1 2 row l b a
  own : listOf σ src = some (rowV row)
  src : src = .loc 0 ∨ ∃ vs, src = .lst vs
  well : Well row l b
  few : row.length ≤ 61
  days : ∀ p ∈ row, p.1 ≤ D
  a0 : 0 ≤ a
  a1 : a ≤ 3000
  b1 : b ≤ 10 ^ 22
theorem Sit.notup {D : Int} {σ : Store} {src : V} {row : List (Int × Int)} {l b a : Int} (S : Sit D σ src row l b a) : ∀ vs, src ≠ .tup vs := by
  rcases S.src with h | ⟨vs, h⟩ <;> (subst h; intro vs h; cases h)
theorem Sit.app {D : Int} {σ : Store} {src : V} {row : List (Int × Int)} {l b a : Int} (S : Sit D σ src row l b a) (τ : Store) : Sit D (σ ++ τ) src row l b a :=
  ⟨S.lo.app τ, list_app S.own τ, S.src, S.well, S.few, S.days, S.a0, S.a1, S.b1⟩
theorem Sit.last {D : Int} {σ : Store} {src : V} {row : List (Int × Int)} {l b a : Int} (S : Sit D σ src row l b a) : ∃ m p, row = m ++ [p] := last_of S.well.pos
theorem own_set {σ : Store} {src : V} {vs : List V} {k : Nat} {ob : Ob} (h : listOf σ src = some vs) (hs : src = .loc 0 ∨ ∃ vs, src = .lst vs) (hk : k ≠ 0) : listOf (σ.set k ob) src = some vs := by
  rcases hs with rfl | ⟨us, rfl⟩
  · simp only [listOf] at h ⊢
    rw [List.getElem?_set_ne hk]; exact h
  · exact h
/-- one more pair, by change -/
theorem Sit.more {D E : Int} {σ : Store} {src : V} {row : List (Int × Int)} {l b a : Int} (S : Sit D σ src row l b a) {m : List (Int × Int)} {p : Int × Int} (hrow : row = m ++ [p]) {d r : Int} (h1 : p.1 < d) (h2 : d ≤ E) (hDE : D ≤ E) (hE : E ≤ 100000) (h3 : 0 ≤ r) (h4 : r ≤ 100000) (hf : row.length < 60) :
    Sit E (σ.set 2 (.list (rowV (row ++ [(d, r)])))) (.lst (rowV (row ++ [(d, r)]))) (row ++ [(d, r)]) l b a := by
  have hlt : 2 < σ.length := (List.getElem?_eq_some_iff.mp S.lo.lst).1
  refine ⟨⟨?_, ?_⟩, rfl, .inr ⟨_, rfl⟩, ⟨?_, ?_, ?_, S.well.l0, S.well.l1, S.well.b0⟩, ?_, ?_, S.a0, S.a1, S.b1⟩
  · rw [List.getElem?_set_ne (by decide)]; exact S.lo.obj
  · rw [List.getElem?_set_self hlt]
  · subst hrow; exact RowOk.snoc S.well.ok h1 (by omega) h3 h4
  · simp
  · have := S.few; simp; omega
  · simp; omega
  · intro q hq
    rcases List.mem_append.mp hq with hq | hq
    · have := S.days q hq; omega
    · simp at hq; subst hq; exact h2
section
variable {P : Prog}
theorem ev_lenRow {Φ : Fns} {ρ : Loc} {e : ME} {σ : Store} {v : V} {row : List (Int × Int)} (he : evalE Φ ρ e σ = .ok v σ) (hs : listOf σ v = some (rowV row)) (hv : ∀ vs, v ≠ .tup vs) (h : row.length ≤ 1000) : evalE Φ ρ (.bi .len [e]) σ = .ok (.int (row.length : Int)) σ :=
  ev_len he (len_row hs hv (Nat.le_trans h (by decide)))
theorem ev_lastRate {Φ : Fns} {ρ : Loc} {o : ME} {σ : Store} {v : V} {l : List (Int × Int)} {p : Int × Int} (ho : evalE Φ ρ o σ = .ok v σ) (hl : listOf σ v = some (rowV (l ++ [p]))) (hv : ∀ vs, v ≠ .tup vs) : evalE Φ ρ (.idx (.idx o (.neg (.cint 1))) (.cint 1)) σ = .ok (.int p.2) σ :=
  ev_idx (ev_idx ho (ev_neg ev_int) (item_last hl hv)) ev_int item_snd
theorem bin_rows {σ : Store} {a b : V} {xs ys : List (Int × Int)} (ha : listOf σ a = some (rowV xs)) (hb : listOf σ b = some (rowV ys)) (h : xs.length + ys.length ≤ 1000000) : binV σ .Add a b = some (.lst (rowV (xs ++ ys))) := by
  have h' : (rowV xs).length + (rowV ys).length ≤ 1000000 := by rw [List.length_map, List.length_map]; exact h
  have e : rowV xs ++ rowV ys = rowV (xs ++ ys) := by simp [rowV]
  have h0 : ∀ f, on2 a b f = none := fun f => by
    cases a with
    | int i => cases ha
    | _ => rfl
  show (on2 a b _).or (addL σ a b) = _
  rw [h0, Option.none_or, addL, ha, hb]
  simp only [Option.bind_some]
  rw [if_pos h', e]
/-- the deeds that make one more change, at the end of a row -/
theorem more_deed (H : HasLoan P) (HP : HasPay P) (HB : Base P) {N : Nat} (hN : 28 < N) {σ : Store} {src : V} {row : List (Int × Int)} {l b a : Int} (S : Sit 59100 σ src row l b a) (hf : row.length < 60) {ρ : Loc} {ir il : Nat} (hr : ρ[ir]? = some (some src)) (hl : ρ[il]? = some (some (.loc 1))) (hil : il ≠ ir) {da dr dl : ME} {ra : Int} (hra : 0 ≤ ra ∧ ra ≤ 100000) {k : Int} (hk : 0 ≤ k ∧ k ≤ 60)
    (hda : evalE (pre P N) ρ da σ = .ok (.int a) σ) (hdk : evalE (pre P N) ρ dl σ = .ok (.int k) σ) (hdr : evalE (pre P N) ρ dr σ = .ok (.int ra) σ) :
    ∃ row', execS (pre P N) (.assign ir (.bin .Add (.var ir) (.lst false [.tup [.bin .Add (.bin .Add (.bi .max2 [da, .idx (.idx (.var ir) (.neg (.cint 1))) (.cint 0)]) (.cint 1)) dl, dr]]))) ρ σ = .ok (.next (ρ.set ir (some (.lst (rowV row'))))) σ ∧
      execS (pre P N) (.expr (.meth (.var il) 27 [.idx (.idx (.var ir) (.neg (.cint 1))) (.cint 0), .idx (.idx (.var ir) (.neg (.cint 1))) (.cint 1)])) (ρ.set ir (some (.lst (rowV row')))) σ = .ok (.next (ρ.set ir (some (.lst (rowV row'))))) (σ.set 2 (.list (rowV row'))) ∧
      Sit 100000 (σ.set 2 (.list (rowV row'))) (.lst (rowV row')) row' l b a ∧ (∀ q ∈ row', q.1 ≤ 59100 ∨ q.1 ≤ max a 59100 + 1 + k) ∧ (∀ B, (∀ q ∈ row, q.1 ≤ B) → ∀ q ∈ row', q.1 ≤ max a B + 1 + k) := by
  obtain ⟨m, p, hrow⟩ := S.last
  have hlt : ir < ρ.length := (List.getElem?_eq_some_iff.mp hr).1
  have hp := S.days p (by rw [hrow]; simp)
  have ha0 := S.a0
  have ha1 := S.a1
  have own := S.own
  rw [hrow] at own
  obtain ⟨d, hd⟩ : ∃ d, d = max a p.1 + 1 + k := ⟨_, rfl⟩
  have S' : Sit 100000 (σ.set 2 (.list (rowV (row ++ [(d, ra)])))) (.lst (rowV (row ++ [(d, ra)]))) (row ++ [(d, ra)]) l b a := S.more hrow (by omega) (by omega) (by decide) (by decide) hra.1 hra.2 hf
  have L := S.lo
  rw [hrow] at L
  have hc := F_change H HP L (by rw [hrow] at hf; simp at hf; omega) d ra (by omega) (by omega) (by omega) hra.1 hra.2
  rw [← hrow] at hc
  have hrho : (ρ.set ir (some (.lst (rowV (row ++ [(d, ra)])))))[ir]? = some (some (.lst (rowV (row ++ [(d, ra)])))) := by rw [List.getElem?_set_self hlt]
  have hrho2 : (ρ.set ir (some (.lst (rowV (row ++ [(d, ra)])))))[il]? = some (some (.loc 1)) := by rw [List.getElem?_set_ne (Ne.symm hil)]; exact hl
  refine ⟨row ++ [(d, ra)], ?_, ?_, S', ?_, ?_⟩
  · refine ex_assign (ev_bin (ev_var hr) (ev_lst (ev1 (ev_tup (ev2 (ev_add (ev_add (ev_max' hda (ev_lastDay (ev_var hr) own S.notup)) ev_int) hdk) hdr)))) ?_)
    rw [← hd]
    exact bin_rows (ys := [(d, ra)]) S.own rfl (by have := S.few; simp; omega)
  · exact ex_expr (x_mt (ev_var hrho2) (ev2 (ev_lastDay (l := row) (ev_var hrho) rfl (fun vs h => by cases h)) (ev_lastRate (l := row) (ev_var hrho) rfl (fun vs h => by cases h))) S.lo.obj (by omega) HP.mchange hc)
  · intro q hq
    rcases List.mem_append.mp hq with hq | hq
    · exact .inl (S.days q hq)
    · simp at hq; subst hq; exact .inr (by dsimp only; omega)
  · intro B hB q hq
    rcases List.mem_append.mp hq with hq | hq
    · have := hB q hq; omega
    · have := hB p (by rw [hrow]; simp)
      simp at hq; subst hq; dsimp only; omega
theorem Sit.weak {D E : Int} {σ : Store} {src : V} {row : List (Int × Int)} {l b a : Int} (S : Sit D σ src row l b a) (h : ∀ p ∈ row, p.1 ≤ E) : Sit E σ src row l b a := ⟨S.lo, S.own, S.src, S.well, S.few, h, S.a0, S.a1, S.b1⟩
/-- the loan that the laws begin with -/
structure HasMake (P : Prog) : Prop where
  loan : HasLoan P
  pay : HasPay P
  law : HasLaw P
  amount : Has P 7 s_l_amount_by 1 b_l_amount_by
  at' : Has P 11 s_l_at_by 1 b_l_at_by
  made : Has P 41 s_l_made 3 b_l_made
noncomputable abbrev st3 (row row' : List (Int × Int)) (l b a : Int) : Store := [Ob.list (rowV row), Ob.inst 0 (loanF 2 l b a), Ob.list (rowV row')]
theorem loan_tail (H : HasMake P) {ns : List Int} (hl : ns.length ≤ 63) {row : List (Int × Int)} {am l b a : Int} (S : Sit 59000 (st3 row row l b a) (.loc 0) row l b a) (x7 : Option V) :
    ∃ row' src', execB (pre P 42) (b_l_loan_by.drop 4) [some (.lst (ns.map .int)), some (.loc 0), some (.int am), some (.loc 1), some (.int l), some (.int b), some (.int a), x7, none] (st3 row row l b a) = .ok (.ret (.tup [.loc 1, .tup [.int l, .int b, .int a], src'])) (st3 row row' l b a) ∧ Sit 59100 (st3 row row' l b a) src' row' l b a := by
  have hw : 0 ≤ (cellAt ns 11) / 3 % 50 ∧ (cellAt ns 11) / 3 % 50 ≤ 60 := by omega
  have s8 : execS (pre P 42) (.assign 8 (.call 0 [.var 0, .cint 11])) [some (.lst (ns.map .int)), some (.loc 0), some (.int am), some (.loc 1), some (.int l), some (.int b), some (.int a), x7, none] (st3 row row l b a) = .ok (.next [some (.lst (ns.map .int)), some (.loc 0), some (.int am), some (.loc 1), some (.int l), some (.int b), some (.int a), x7, some (.int (cellAt ns 11))]) (st3 row row l b a) := ex_assign (ev_cell H.law.base hl (by decide) 11 (by decide) (by decide) rfl _)
  have hc : evalE (pre P 42) [some (.lst (ns.map .int)), some (.loc 0), some (.int am), some (.loc 1), some (.int l), some (.int b), some (.int a), x7, some (.int (cellAt ns 11))] (.and [.cmp .Eq (.bin .Mod (.var 8) (.cint 3)) (.cint 1), .cmp .Lt (.bi .len [.var 1]) (.cint 60)]) (st3 row row l b a) = .ok (.bool (decide (cellAt ns 11 % 3 = 1) && decide ((row.length : Int) < 60))) (st3 row row l b a) :=
    and_tt (by (repeat' (first | exact ev_var rfl | exact ev_int | exact ev_gint | exact ev_str | exact ev_bool | exact ev_none | exact evs_nil | apply evs_cons | apply ev_add | apply ev_sub | apply ev_lt | apply ev_le | apply ev_gt | apply ev_ge | apply ev_eq | apply ev_ne | apply ev_max' | apply ev_min' | apply ev_mod | apply ev_div | apply ev_neg | apply not_tt | apply ev_tup | apply ev_lst | apply ev_idx | exact it_t0 | exact it_t1 | exact it_t2 | exact it_t3 | exact it_l0 | exact it_l1 | exact it_l2 | apply ev_bint | decide | omega))) fun _ => ev_lt (ev_lenRow (ev_var rfl) S.own S.notup S.well.few) ev_int
  by_cases hb : cellAt ns 11 % 3 = 1 ∧ (row.length : Int) < 60
  · rw [decide_eq_true hb.1, decide_eq_true hb.2] at hc
    obtain ⟨row', e1, e2, S', _, hB⟩ := more_deed H.loan H.pay H.law.base (N := 42) (by decide) (S.weak (E := 59100) fun q hq => by have := S.days q hq; omega) (by omega) (ρ := [some (.lst (ns.map .int)), some (.loc 0), some (.int am), some (.loc 1), some (.int l), some (.int b), some (.int a), x7, some (.int (cellAt ns 11))]) (ir := 1) (il := 3) rfl rfl (by decide) (da := .var 6) (dr := .call 3 [.bin .FloorDiv (.var 8) (.cint 3)]) (dl := .bin .Mod (.bin .FloorDiv (.var 8) (.cint 3)) (.cint 50)) (rateBy_ok (cellAt ns 11 / 3)) hw (ev_var rfl) (by (repeat' (first | exact ev_var rfl | exact ev_int | exact ev_gint | exact ev_str | exact ev_bool | exact ev_none | exact evs_nil | apply evs_cons | apply ev_add | apply ev_sub | apply ev_lt | apply ev_le | apply ev_gt | apply ev_ge | apply ev_eq | apply ev_ne | apply ev_max' | apply ev_min' | apply ev_mod | apply ev_div | apply ev_neg | apply not_tt | apply ev_tup | apply ev_lst | apply ev_idx | exact it_t0 | exact it_t1 | exact it_t2 | exact it_t3 | exact it_l0 | exact it_l1 | exact it_l2 | apply ev_bint | decide | omega))) (x_fn (ev1 (by (repeat' (first | exact ev_var rfl | exact ev_int | exact ev_gint | exact ev_str | exact ev_bool | exact ev_none | exact evs_nil | apply evs_cons | apply ev_add | apply ev_sub | apply ev_lt | apply ev_le | apply ev_gt | apply ev_ge | apply ev_eq | apply ev_ne | apply ev_max' | apply ev_min' | apply ev_mod | apply ev_div | apply ev_neg | apply not_tt | apply ev_tup | apply ev_lst | apply ev_idx | exact it_t0 | exact it_t1 | exact it_t2 | exact it_t3 | exact it_l0 | exact it_l1 | exact it_l2 | apply ev_bint | decide | omega)))) (by decide) (F_rate H.law.base _ _))
    refine ⟨row', _, step s8 (step (ex_ite hc (step e1 (step e2 ex_nil))) (ex_ret (ev_tup (ev3 (ev_var rfl) (ev_tup (ev3 (ev_var rfl) (ev_var rfl) (ev_var rfl))) (ev_var rfl))))), S'.weak fun q hq => ?_⟩
    have := hB 59000 S.days q hq
    have := S.a1
    omega
  · have : (decide (cellAt ns 11 % 3 = 1) && decide ((row.length : Int) < 60)) = false := by
      rw [Bool.and_eq_false_iff, decide_eq_false_iff_not, decide_eq_false_iff_not]; omega
    rw [this] at hc
    exact ⟨row, _, step s8 (step (ex_ite hc ex_nil) (ex_ret (ev_tup (ev3 (ev_var rfl) (ev_tup (ev3 (ev_var rfl) (ev_var rfl) (ev_var rfl))) (ev_var rfl))))), S.weak fun q hq => by have := S.days q hq; omega⟩
theorem F_loan_by (H : HasMake P) (H42 : Has P 42 s_l_loan_by 2 b_l_loan_by) {ns : List Int} (hl : ns.length ≤ 63) {row : List (Int × Int)} (hok : RowOk (-1) row) (hn : 0 < row.length) (hf : row.length ≤ 60) (hd : ∀ p ∈ row, p.1 ≤ 59000) :
    ∃ l b a row' src', fn P 42 [.lst (ns.map .int), .loc 0] [Ob.list (rowV row)] = .ok (.tup [.loc 1, .tup [.int l, .int b, .int a], src']) (st3 row row' l b a) ∧ Sit 59100 (st3 row row' l b a) src' row' l b a := by
  rw [fn_has H42]
  have HB := H.law.base
  have cell := fun (ρ : Loc) (k : Int) (h0 : 0 ≤ k) (hk : k < 100) (σ : Store) => ev_cell HB hl (N := 42) (by decide) (ρ := ρ) k h0 hk rfl σ
  obtain ⟨am, ham⟩ : ∃ a : Int, a = amountBy (cellAt ns 0) := ⟨_, rfl⟩
  have hA : 1 ≤ am ∧ am ≤ 1000000000000 := ham ▸ amount_ok _
  have f0 := F_amount HB H.amount (cellAt ns 0)
  rw [← ham] at f0
  have hmade := F_made H.loan H.pay H.made am (.loc 0) row (cellAt ns 10) [Ob.list (rowV row)] hA.1 hA.2 rfl (fun vs h => by cases h) hok (by omega) hn
  have S0 : Sit 59000 (st3 row row am 0 0) (.loc 0) row am 0 0 := ⟨⟨rfl, rfl⟩, rfl, .inl rfl, ⟨hok, hn, by omega, by omega, by omega, by omega⟩, by omega, hd, by decide, by decide, by decide⟩
  have s0 : execS (pre P 42) (.assign 2 (.call 7 [.call 0 [.var 0, .cint 0]])) [some (.lst (ns.map .int)), some (.loc 0), none, none, none, none, none, none, none] [Ob.list (rowV row)] = .ok (.next [some (.lst (ns.map .int)), some (.loc 0), some (.int am), none, none, none, none, none, none]) [Ob.list (rowV row)] :=
    ex_assign (x_fn (ev1 (cell _ 0 (by decide) (by decide) _)) (by decide) (f0 _))
  have s1 : execS (pre P 42) (.assign 3 (.call 41 [.var 2, .var 1, .call 0 [.var 0, .cint 10]])) [some (.lst (ns.map .int)), some (.loc 0), some (.int am), none, none, none, none, none, none] [Ob.list (rowV row)] = .ok (.next [some (.lst (ns.map .int)), some (.loc 0), some (.int am), some (.loc 1), none, none, none, none, none]) (st3 row row am 0 0) :=
    ex_assign (x_fn (ev3 (ev_var rfl) (ev_var rfl) (cell _ 10 (by decide) (by decide) _)) (by decide) hmade)
  have s2 : execS (pre P 42) (.unpack [4, 5, 6] (.tup [.var 2, .cint 0, .cint 0])) [some (.lst (ns.map .int)), some (.loc 0), some (.int am), some (.loc 1), none, none, none, none, none] (st3 row row am 0 0) = .ok (.next [some (.lst (ns.map .int)), some (.loc 0), some (.int am), some (.loc 1), some (.int am), some (.int 0), some (.int 0), none, none]) (st3 row row am 0 0) :=
    ex_unpack (ev_tup (ev3 (ev_var rfl) ev_int ev_int)) rfl
  have hc : evalE (pre P 42) [some (.lst (ns.map .int)), some (.loc 0), some (.int am), some (.loc 1), some (.int am), some (.int 0), some (.int 0), none, none] (.cmp .Eq (.bin .Mod (.call 0 [.var 0, .cint 2]) (.cint 2)) (.cint 1)) (st3 row row am 0 0) = .ok (.bool (decide (cellAt ns 2 % 2 = 1))) (st3 row row am 0 0) :=
    ev_eq (ev_mod (cell _ 2 (by decide) (by decide) _) ev_int (by decide)) ev_int
  by_cases hB : cellAt ns 2 % 2 = 1
  · rw [decide_eq_true hB] at hc
    obtain ⟨a, ha⟩ : ∃ a : Int, a = atBy (cellAt ns 2) := ⟨_, rfl⟩
    have hM : 0 ≤ a ∧ a ≤ 3000 := ha ▸ at_ok _
    have fa := F_at HB H.at' (cellAt ns 2)
    rw [← ha] at fa
    have hsum := F_sumW H.law.sum S0.well S0.own (fun vs h => by cases h) (by decide) hM.1
    have hgrow := S0.well.grow (s := 0) (e := a) (by decide) hM.1 (by omega)
    obtain ⟨bg, hbg⟩ : ∃ bg : Int, bg = am * gs 0 a row := ⟨_, rfl⟩
    have W1 := S0.well.later 0 a
    rw [Int.zero_add, ← hbg] at W1
    rw [← hbg] at hgrow
    have how : 1 ≤ owedV am bg := by have := W1.b0; unfold owedV; omega
    obtain ⟨c, hcc⟩ : ∃ c : Int, c = (if decide (cellAt ns 3 % 6 = 0) = true then owedV am bg else 1 + mixed (cellAt ns 3) 2147483647 * 467 % owedV am bg) := ⟨_, rfl⟩
    have hc1 : 1 ≤ c ∧ c ≤ owedV am bg := by
      have h1 := Int.emod_nonneg (mixed (cellAt ns 3) 2147483647 * 467) (show owedV am bg ≠ 0 by omega)
      have h2 := Int.emod_lt_of_pos (mixed (cellAt ns 3) 2147483647 * 467) (show 0 < owedV am bg by omega)
      rw [hcc]; split <;> omega
    have hpay := F_pay H.loan H.pay S0.lo S0.well.fit a c hM.1 (by omega) hc1.1 (by rw [Int.zero_add, ← hbg]; exact hc1.2)
    rw [Int.zero_add, ← hbg] at hpay
    have W2 := W1.paid hc1.1 hc1.2
    have hpb := parts_begun (a := am) W1.b0 hc1.1
    have hpt := fun σ => F_lparts H.law.parts am bg c σ
    generalize partsV am bg c = pv at *
    obtain ⟨p1, p2, p3, p4⟩ := pv
    dsimp only at hpay hpt W2 hpb
    have S1 : Sit 59000 (st3 row row p3 p4 a) (.loc 0) row p3 p4 a := ⟨⟨rfl, rfl⟩, rfl, .inl rfl, W2, S0.few, hd, hM.1, hM.2, by omega⟩
    obtain ⟨row', src', e, S'⟩ := loan_tail H hl (am := am) S1 (some (.int c))
    refine ⟨p3, p4, a, row', src', ?_, S'⟩
    have hlow : ∀ {ρ : Loc} {σ : Store}, ρ[2]? = some (some (.int am)) → ρ[5]? = some (some (.int bg)) → evalE (pre P 42) ρ (.call 8 [.var 2, .var 5]) σ = .ok (.int (owedV am bg)) σ := fun {ρ σ} e4 e5 => x_fn (ev2 (ev_var e4) (ev_var e5)) (by decide) (F_lowed H.law.owed am bg σ)
    have t0 : execS (pre P 42) (.assign 6 (.call 11 [.call 0 [.var 0, .cint 2]])) [some (.lst (ns.map .int)), some (.loc 0), some (.int am), some (.loc 1), some (.int am), some (.int 0), some (.int 0), none, none] (st3 row row am 0 0) = .ok (.next [some (.lst (ns.map .int)), some (.loc 0), some (.int am), some (.loc 1), some (.int am), some (.int 0), some (.int a), none, none]) (st3 row row am 0 0) :=
      ex_assign (x_fn (ev1 (cell _ 2 (by decide) (by decide) _)) (by decide) (fa _))
    have t1 : execS (pre P 42) (.assign 5 (.bin .Mult (.var 2) (.call 6 [.var 1, .cint 0, .var 6]))) [some (.lst (ns.map .int)), some (.loc 0), some (.int am), some (.loc 1), some (.int am), some (.int 0), some (.int a), none, none] (st3 row row am 0 0) = .ok (.next [some (.lst (ns.map .int)), some (.loc 0), some (.int am), some (.loc 1), some (.int am), some (.int bg), some (.int a), none, none]) (st3 row row am 0 0) := by
      rw [hbg]; exact ex_assign (ev_mull (ev_var rfl) (x_fn (ev3 (ev_var rfl) ev_int (ev_var rfl)) (by decide) hsum) S0.well.sml)
    have t2 : execS (pre P 42) (.assign 7 (.bin .Add (.cint 1) (.bin .Mod (.bin .Mult (.call 2 [.call 0 [.var 0, .cint 3], .cint 2147483647]) (.cint 467)) (.call 8 [.var 2, .var 5])))) [some (.lst (ns.map .int)), some (.loc 0), some (.int am), some (.loc 1), some (.int am), some (.int bg), some (.int a), none, none] (st3 row row am 0 0) = .ok (.next [some (.lst (ns.map .int)), some (.loc 0), some (.int am), some (.loc 1), some (.int am), some (.int bg), some (.int a), some (.int (1 + mixed (cellAt ns 3) 2147483647 * 467 % owedV am bg)), none]) (st3 row row am 0 0) :=
      ex_assign (ev_add ev_int (ev_mod (ev_mulr (x_fn (ev2 (cell _ 3 (by decide) (by decide) _) ev_int) (by decide) (F_mixed HB _ _ (by decide) _)) ev_int (by unfold Sml; omega)) (hlow rfl rfl) (by omega)))
    have t3 : execS (pre P 42) (.ite (.cmp .Eq (.bin .Mod (.call 0 [.var 0, .cint 3]) (.cint 6)) (.cint 0)) [.assign 7 (.call 8 [.var 2, .var 5])] []) [some (.lst (ns.map .int)), some (.loc 0), some (.int am), some (.loc 1), some (.int am), some (.int bg), some (.int a), some (.int (1 + mixed (cellAt ns 3) 2147483647 * 467 % owedV am bg)), none] (st3 row row am 0 0) = .ok (.next [some (.lst (ns.map .int)), some (.loc 0), some (.int am), some (.loc 1), some (.int am), some (.int bg), some (.int a), some (.int c), none]) (st3 row row am 0 0) := by
      rw [hcc]
      exact if_assign (b := decide (cellAt ns 3 % 6 = 0)) (v := owedV am bg) (w := 1 + mixed (cellAt ns 3) 2147483647 * 467 % owedV am bg) (ev_eq (ev_mod (cell _ 3 (by decide) (by decide) _) ev_int (by decide)) ev_int) (hlow rfl rfl) rfl
    have t4 : execS (pre P 42) (.expr (.meth (.var 3) 26 [.var 6, .var 7])) [some (.lst (ns.map .int)), some (.loc 0), some (.int am), some (.loc 1), some (.int am), some (.int bg), some (.int a), some (.int c), none] (st3 row row am 0 0) = .ok (.next [some (.lst (ns.map .int)), some (.loc 0), some (.int am), some (.loc 1), some (.int am), some (.int bg), some (.int a), some (.int c), none]) (st3 row row p3 p4 a) :=
      ex_expr (x_mt (ev_var rfl) (ev2 (ev_var rfl) (ev_var rfl)) S0.lo.obj (by decide) H.pay.mpay hpay)
    have t5 : execS (pre P 42) (.unpack [4, 5] (.sliceFrom false (.call 9 [.var 2, .var 5, .var 7]) (.cint 2))) [some (.lst (ns.map .int)), some (.loc 0), some (.int am), some (.loc 1), some (.int am), some (.int bg), some (.int a), some (.int c), none] (st3 row row p3 p4 a) = .ok (.next [some (.lst (ns.map .int)), some (.loc 0), some (.int am), some (.loc 1), some (.int p3), some (.int p4), some (.int a), some (.int c), none]) (st3 row row p3 p4 a) :=
      ex_unpack (x_fromT (x_fn (ev3 (ev_var rfl) (ev_var rfl) (ev_var rfl)) (by decide) (hpt _)) ev_int cut_four) rfl
    exact callFn_ret rfl (step s0 (step s1 (step s2 (step (ex_ite hc (step t0 (step t1 (step t2 (step t3 (step t4 (step t5 ex_nil))))))) e))))
  · rw [decide_eq_false hB] at hc
    obtain ⟨row', src', e, S'⟩ := loan_tail H hl (am := am) S0 none
    exact ⟨am, 0, 0, row', src', callFn_ret rfl (step s0 (step s1 (step s2 (step (ex_ite hc ex_nil) e)))), S'⟩
/-- one deed more -/
theorem F_done_more (H : HasMake P) (H45 : Has P 45 s_l_done_more 4 b_l_done_more) {σ : Store} {src : V} {row : List (Int × Int)} {l b a : Int} (S : Sit 59100 σ src row l b a) (cell : Int) :
    ∃ σ' l' b' row' src', fn P 45 [.loc 1, .tup [.int l, .int b, .int a], src, .int cell] σ = .ok (.tup [.tup [.int l', .int b', .int a], src']) σ' ∧ Sit 100000 σ' src' row' l' b' a ∧ ∀ k, 2 < k → σ'[k]? = σ[k]? := by
  rw [fn_has H45]
  have HB := H.law.base
  have hw : 0 ≤ cell / 2 % 20 ∧ cell / 2 % 20 ≤ 60 := by omega
  have hc : evalE (pre P 45) [some (.loc 1), some (.tup [.int l, .int b, .int a]), some src, some (.int cell), none, none, none] (.and [.cmp .Eq (.bin .Mod (.var 3) (.cint 2)) (.cint 1), .cmp .Lt (.bi .len [.var 2]) (.cint 60)]) σ = .ok (.bool (decide (cell % 2 = 1) && decide ((row.length : Int) < 60))) σ :=
    and_tt (by (repeat' (first | exact ev_var rfl | exact ev_int | exact ev_gint | exact ev_str | exact ev_bool | exact ev_none | exact evs_nil | apply evs_cons | apply ev_add | apply ev_sub | apply ev_lt | apply ev_le | apply ev_gt | apply ev_ge | apply ev_eq | apply ev_ne | apply ev_max' | apply ev_min' | apply ev_mod | apply ev_div | apply ev_neg | apply not_tt | apply ev_tup | apply ev_lst | apply ev_idx | exact it_t0 | exact it_t1 | exact it_t2 | exact it_t3 | exact it_l0 | exact it_l1 | exact it_l2 | apply ev_bint | decide | omega))) fun _ => ev_lt (ev_lenRow (ev_var rfl) S.own S.notup S.well.few) ev_int
  have S100 : Sit 100000 σ src row l b a := S.weak fun q hq => by have := S.days q hq; omega
  by_cases hb : cell % 2 = 1 ∧ (row.length : Int) < 60
  · rw [decide_eq_true hb.1, decide_eq_true hb.2] at hc
    obtain ⟨row', e1, e2, S', _, hB⟩ := more_deed H.loan H.pay HB (N := 45) (by decide) S (by omega) (ρ := [some (.loc 1), some (.tup [.int l, .int b, .int a]), some src, some (.int cell), none, none, none]) (ir := 2) (il := 0) rfl rfl (by decide) (da := .idx (.var 1) (.cint 2)) (dr := .call 3 [.bin .FloorDiv (.var 3) (.cint 2)]) (dl := .bin .Mod (.bin .FloorDiv (.var 3) (.cint 2)) (.cint 20)) (rateBy_ok (cell / 2)) hw (ev_idx (ev_var rfl) ev_int it_t2) (by (repeat' (first | exact ev_var rfl | exact ev_int | exact ev_gint | exact ev_str | exact ev_bool | exact ev_none | exact evs_nil | apply evs_cons | apply ev_add | apply ev_sub | apply ev_lt | apply ev_le | apply ev_gt | apply ev_ge | apply ev_eq | apply ev_ne | apply ev_max' | apply ev_min' | apply ev_mod | apply ev_div | apply ev_neg | apply not_tt | apply ev_tup | apply ev_lst | apply ev_idx | exact it_t0 | exact it_t1 | exact it_t2 | exact it_t3 | exact it_l0 | exact it_l1 | exact it_l2 | apply ev_bint | decide | omega))) (x_fn (ev1 (by (repeat' (first | exact ev_var rfl | exact ev_int | exact ev_gint | exact ev_str | exact ev_bool | exact ev_none | exact evs_nil | apply evs_cons | apply ev_add | apply ev_sub | apply ev_lt | apply ev_le | apply ev_gt | apply ev_ge | apply ev_eq | apply ev_ne | apply ev_max' | apply ev_min' | apply ev_mod | apply ev_div | apply ev_neg | apply not_tt | apply ev_tup | apply ev_lst | apply ev_idx | exact it_t0 | exact it_t1 | exact it_t2 | exact it_t3 | exact it_l0 | exact it_l1 | exact it_l2 | apply ev_bint | decide | omega)))) (by decide) (F_rate HB _ _))
    exact ⟨_, l, b, row', _, callFn_ret rfl (ret_step (ex_ite hc (step e1 (step e2 (ex_ret (ev_tup (ev2 (ev_var rfl) (ev_var rfl)))))))), S', fun k hk => List.getElem?_set_ne (by omega)⟩
  · have hcf : (decide (cell % 2 = 1) && decide ((row.length : Int) < 60)) = false := by
      rw [Bool.and_eq_false_iff, decide_eq_false_iff_not, decide_eq_false_iff_not]; omega
    rw [hcf] at hc
    have s1 : execS (pre P 45) (.assign 4 (.call 8 [.idx (.var 1) (.cint 0), .idx (.var 1) (.cint 1)])) [some (.loc 1), some (.tup [.int l, .int b, .int a]), some src, some (.int cell), none, none, none] σ = .ok (.next [some (.loc 1), some (.tup [.int l, .int b, .int a]), some src, some (.int cell), some (.int (owedV l b)), none, none]) σ := ex_assign (x_fn (ev2 (ev_idx (ev_var rfl) ev_int it_t0) (ev_idx (ev_var rfl) ev_int it_t1)) (by decide) (F_lowed H.law.owed _ _ _))
    have hc2 : evalE (pre P 45) [some (.loc 1), some (.tup [.int l, .int b, .int a]), some src, some (.int cell), some (.int (owedV l b)), none, none] (.cmp .Eq (.var 4) (.cint 0)) σ = .ok (.bool (decide (owedV l b = 0))) σ := by (repeat' (first | exact ev_var rfl | exact ev_int | exact ev_gint | exact ev_str | exact ev_bool | exact ev_none | exact evs_nil | apply evs_cons | apply ev_add | apply ev_sub | apply ev_lt | apply ev_le | apply ev_gt | apply ev_ge | apply ev_eq | apply ev_ne | apply ev_max' | apply ev_min' | apply ev_mod | apply ev_div | apply ev_neg | apply not_tt | apply ev_tup | apply ev_lst | apply ev_idx | exact it_t0 | exact it_t1 | exact it_t2 | exact it_t3 | exact it_l0 | exact it_l1 | exact it_l2 | apply ev_bint | decide | omega))
    by_cases h0 : owedV l b = 0
    · rw [decide_eq_true h0] at hc2
      exact ⟨σ, l, b, row, src, callFn_ret rfl (step (ex_ite hc ex_nil) (step s1 (ret_step (ex_ite hc2 (ex_ret (ev_tup (ev2 (ev_var rfl) (ev_var rfl)))))))), S100, fun k hk => rfl⟩
    · rw [decide_eq_false h0] at hc2
      have how := S.well.owed
      obtain ⟨c, hcc⟩ : ∃ c : Int, c = 1 + mixed cell 2147483647 * 467 % owedV l b := ⟨_, rfl⟩
      have hc1 : 1 ≤ c ∧ c ≤ owedV l b := by
        have h1 := Int.emod_nonneg (mixed cell 2147483647 * 467) h0
        have h2 := Int.emod_lt_of_pos (mixed cell 2147483647 * 467) (show 0 < owedV l b by omega)
        omega
      have hg0 : b + l * gs a a row = b := by rw [gs_same]; simp
      have hpay := F_pay H.loan H.pay S.lo S.well.fit a c (Int.le_refl _) (by have := S.a1; omega) hc1.1 (by rw [hg0]; exact hc1.2)
      rw [hg0] at hpay
      have W2 := S.well.paid hc1.1 hc1.2
      have hpb := parts_begun (a := l) S.well.b0 hc1.1
      have hpt := fun σ => F_lparts H.law.parts l b c σ
      generalize partsV l b c = pv at *
      obtain ⟨p1, p2, p3, p4⟩ := pv
      dsimp only at hpay hpt W2 hpb
      have S' : Sit 100000 (σ.set 1 (.inst 0 (loanF 2 p3 p4 a))) src row p3 p4 a := ⟨S.lo.put _ _ _, own_set S.own S.src (by decide), S.src, W2, S.few, S100.days, S.a0, S.a1, by have := S.b1; omega⟩
      refine ⟨_, p3, p4, row, src, callFn_ret rfl (step (ex_ite hc ex_nil) (step s1 (step (ex_ite hc2 ex_nil) (step (ex_assign (v := .int c) ?_) (step (ex_expr (x_mt (ev_var rfl) (ev2 (ev_idx (ev_var rfl) ev_int it_t2) (ev_var rfl)) S.lo.obj (by decide) H.pay.mpay hpay)) (step (ex_assign (x_fn (ev3 (ev_idx (ev_var rfl) ev_int it_t0) (ev_idx (ev_var rfl) ev_int it_t1) (ev_var rfl)) (by decide) (hpt _))) (ex_ret (ev_tup (ev2 (ev_tup (ev3 (ev_idx (ev_var rfl) ev_int it_t2) (ev_idx (ev_var rfl) ev_int it_t3) (ev_idx (ev_var rfl) ev_int it_t2))) (ev_var rfl)))))))))), S', fun k hk => List.getElem?_set_ne (by omega)⟩
      rw [hcc]
      exact ev_add ev_int (ev_mod (ev_mulr (x_fn (ev2 (ev_var rfl) ev_int) (by decide) (F_mixed HB _ _ (by decide) _)) ev_int (by unfold Sml; omega)) (ev_var rfl) (by omega))
end
end Mine
set_option maxRecDepth 100000
set_option maxHeartbeats 1000000
set_option linter.unusedVariables false
set_option linter.unusedSimpArgs false
namespace Mine
open PySem

theorem owed_none {l b : Int} (hl : 0 ≤ l) (hb : 0 ≤ b) (h : owedV l b = 0) : l = 0 ∧ b = 0 := by
  unfold owedV at h; omega
theorem gone_none (row : List (Int × Int)) (part : Int) : ∀ (ds : List Int) (a p : Int), gone row part ds 0 0 a p = (0, 0, p)
  | [], _, _ => rfl
  | d :: ds, a, p => by
    have h : owedV 0 (0 + 0 * gs a d row) = 0 := by rw [Int.zero_mul]; rfl
    simp only [gone, h]
    rw [if_neg (by omega), Int.zero_mul, Int.add_zero]
    exact gone_none row part ds d p
theorem plan_gone (row : List (Int × Int)) (part : Int) (hp : 1 ≤ part) : ∀ (ds : List Int) (l b a p : Int), Well row l b → (planV row part ds l b a).2.1 = (gone row part ds l b a p).1 ∧ (planV row part ds l b a).2.2.1 = (gone row part ds l b a p).2.1
  | [], l, b, a, p, _ => ⟨rfl, rfl⟩
  | d :: ds, l, b, a, p, W => by
    have W' := W.later a d
    simp only [planV, gone]
    by_cases h0 : owedV l (b + l * gs a d row) = 0
    · obtain ⟨h1, h2⟩ := owed_none W'.l0 W'.b0 h0
      subst h1
      rw [Int.zero_mul, Int.add_zero] at h2
      subst h2
      rw [if_pos h0]
      have e : min part (owedV 0 (0 + 0 * gs a d row)) = 0 := by rw [h0]; omega
      rw [e, if_neg (by omega), Int.zero_mul, Int.add_zero, gone_none]
      exact ⟨rfl, rfl⟩
    · have hw := W'.owed
      have hc : 0 < min part (owedV l (b + l * gs a d row)) := by omega
      rw [if_neg h0, if_pos hc]
      exact plan_gone row part hp ds _ _ d _ (W'.paid (by omega) (by omega))
theorem plan_well (row : List (Int × Int)) (part : Int) (hp : 1 ≤ part) : ∀ (ds : List Int) (l b a : Int), Well row l b → Well row (planV row part ds l b a).2.1 (planV row part ds l b a).2.2.1
  | [], l, b, a, W => W
  | d :: ds, l, b, a, W => by
    have W' := W.later a d
    simp only [planV]
    by_cases h0 : owedV l (b + l * gs a d row) = 0
    · rw [if_pos h0]; exact W
    · have hw := W'.owed
      rw [if_neg h0]
      exact plan_well row part hp ds _ _ d (W'.paid (by omega) (by omega))
/-- what is owed behind payments of a part -/
noncomputable def endV (row : List (Int × Int)) (ds : List Int) (l b a part : Int) : Int := owedV (gone row part ds l b a 0).1 (gone row part ds l b a 0).2.1
structure HasTwin (P : Prog) : Prop where
  twin : Has P 28 s_Loan_twin 1 b_Loan_twin
  mtwin : (0, 28) ∈ P.meths
section
variable {P : Prog}
/-- a twin is paid by parts -/
theorem twin_paid (H : HasLoan P) (HP : HasPay P) (HD : HasDays P) (HT : HasTwin P) {σ : Store} {i r : Nat} {row : List (Int × Int)} {l b a : Int} (L : Lo σ i r row l b a) (W : Well row l b) (ds : List Int) (hd : daysBad (a - 1) ds = false) (hl : ds.length ≤ 400) (part : Int) (hp : 1 ≤ part) :
    fn P 28 [.loc i] σ = .ok (.loc σ.length) (σ ++ [Ob.inst 0 (loanF (σ.length + 1) l b a), Ob.list (rowV row)]) ∧
    Lo (σ ++ [Ob.inst 0 (loanF (σ.length + 1) l b a), Ob.list (rowV row)]) σ.length (σ.length + 1) row l b a ∧
    fn P 32 [.loc σ.length, .lst (intsV ds), .int part] (σ ++ [Ob.inst 0 (loanF (σ.length + 1) l b a), Ob.list (rowV row)]) = .ok (.loc (σ.length + 2)) (σ ++ [Ob.inst 0 (loanF (σ.length + 1) (planV row part ds l b a).2.1 (planV row part ds l b a).2.2.1 (planV row part ds l b a).2.2.2), Ob.list (rowV row), Ob.list (planV row part ds l b a).1]) := by
  have L2 : Lo (σ ++ [Ob.inst 0 (loanF (σ.length + 1) l b a), Ob.list (rowV row)]) σ.length (σ.length + 1) row l b a := ⟨by simp, by simp⟩
  refine ⟨F_twin H HT.twin L W.ok (by have := W.few; omega) W.pos, L2, ?_⟩
  have h := F_paid_by H HP HD part hp ds L2 W hd (by omega)
  rw [h]
  simp
end
end Mine
set_option maxRecDepth 100000
set_option maxHeartbeats 1000000
set_option linter.unusedVariables false
set_option linter.unusedSimpArgs false
namespace Mine
open PySem

theorem if_some {Φ : Fns} {c e : ME} {i : Nat} {ρ : Loc} {σ : Store} {b : Bool} {w : Int} (Q : Int → Prop) (hc : evalE Φ ρ c σ = .ok (.bool b) σ) (he : b = true → ∃ v, Q v ∧ evalE Φ ρ e σ = .ok (.int v) σ) (hw : ρ[i]? = some (some (.int w))) (hq : Q w) :
    ∃ z, Q z ∧ execS Φ (.ite c [.assign i e] []) ρ σ = .ok (.next (ρ.set i (some (.int z)))) σ := by
  cases b with
  | true =>
    obtain ⟨v, hv, he⟩ := he rfl
    exact ⟨v, hv, ex_ite hc (step (ex_assign he) ex_nil)⟩
  | false =>
    refine ⟨w, hq, ?_⟩
    obtain ⟨hlt, e⟩ := List.getElem?_eq_some_iff.mp hw
    rw [← e, List.set_getElem_self]
    exact ex_ite hc ex_nil
theorem daysBad_mono {a a' : Int} (h : a ≤ a') : ∀ {ds : List Int}, daysBad a' ds = false → daysBad a ds = false
  | [], _ => rfl
  | d :: ds, hd => by
    simp only [daysBad, Bool.or_eq_false_iff, decide_eq_false_iff_not] at hd ⊢
    exact ⟨⟨by omega, hd.1.2⟩, hd.2⟩
theorem F_row2 {P : Prog} (HB : Base P) (h4 : (P.fns.lookup 4).isSome = true) (cell many wide : Int) (hw : 0 < wide) (hm : 1 ≤ many) (hm' : many ≤ 60) (h : (many - 1) * wide ≤ 59000) (σ : Store) (h4 : (P.fns.lookup 4).isSome = true := by rfl) : ∃ row, fn P 4 [.int cell, .int many, .int wide] σ = .ok (.loc σ.length) (σ ++ [.list (rowV row)]) ∧ RowOk (-1) row ∧ (row.length : Int) = many ∧ ∀ p ∈ row, p.1 ≤ 59000 := by
  have hn : ((many - 1).toNat : Int) = many - 1 := Int.toNat_of_nonneg (by omega)
  refine ⟨_, F_row HB cell many wide hw hm (by omega) σ h4, rowL_ok _ _ _ hw (by rw [hn]; omega), ?_, ?_⟩
  · rw [rowL_len]; omega
  · intro p hp
    simp only [rowL, List.mem_map, List.mem_range] at hp
    obtain ⟨k, hk, rfl⟩ := hp
    have h1 := rowD_le cell wide hw k
    have h2 : (k : Int) * wide ≤ (many - 1) * wide := Int.mul_le_mul_of_nonneg_right (by omega) (by omega)
    show rowD _ _ _ ≤ _
    omega
/-- how the loan is asked in the end: the handed days, the rates, how it stands -/
theorem Sit.cNe {P : Prog} (H : HasLoan P) {N : Nat} {D : Int} {σ : Store} {src : V} {row : List (Int × Int)} {l b a : Int} (S : Sit D σ src row l b a) {ρ : Loc} {il ir is : Nat} (h1 : ρ[il]? = some (some (.loc 1))) (h2 : ρ[ir]? = some (some src)) (h3 : ρ[is]? = some (some (.tup [.int l, .int b, .int a]))) :
    evalE (pre P N) ρ (.cmp .NotEq (.attr (.var il) 0) (.var ir)) σ = .ok (.bool false) σ ∧ evalE (pre P N) ρ (.cmp .NotEq (.tup [.attr (.var il) 1, .attr (.var il) 2, .attr (.var il) 3]) (.var is)) σ = .ok (.bool false) σ ∧
    evalE (pre P N) ρ (.cmp .Eq (.attr (.var il) 0) (.var ir)) σ = .ok (.bool true) σ ∧ evalE (pre P N) ρ (.cmp .Eq (.tup [.attr (.var il) 1, .attr (.var il) 2, .attr (.var il) 3]) (.var is)) σ = .ok (.bool true) σ := by
  have e0 : seen σ (.loc 2) = .lst (rowV row) := by simp only [seen, listOf, S.lo.lst]
  have e1 : seen σ src = .lst (rowV row) := by simp only [seen, S.own]
  have a0 := ev_attr (k := 0) (ev_var h1) S.lo.obj (attr_ok H N (show 0 < 4 by decide)) rfl
  have a1 := ev_attr (k := 1) (ev_var h1) S.lo.obj (attr_ok H N (show 1 < 4 by decide)) rfl
  have a2 := ev_attr (k := 2) (ev_var h1) S.lo.obj (attr_ok H N (show 2 < 4 by decide)) rfl
  have a3 := ev_attr (k := 3) (ev_var h1) S.lo.obj (attr_ok H N (show 3 < 4 by decide)) rfl
  refine ⟨ev_cmp a0 (ev_var h2) (ne_seen e0 e1 (plain_row _) (fun x h => by cases h) (fun x h => by cases h)), ev_cmp (ev_tup (ev3 a1 a2 a3)) (ev_var h3) (ne_seen rfl rfl rfl (fun x h => by cases h) (fun x h => by cases h)), ev_cmp a0 (ev_var h2) (eq_seen e0 e1 (plain_row _) (fun x h => by cases h) (fun x h => by cases h)), ev_cmp (ev_tup (ev3 a1 a2 a3)) (ev_var h3) (eq_seen rfl rfl rfl (fun x h => by cases h) (fun x h => by cases h))⟩
theorem plain_ints (l : List Int) : plain 8 (.lst (intsV l)) = true := by simp [plain, intsV]
theorem ints_ne {Φ : Fns} {ρ : Loc} {i j : Nat} {σ : Store} {ds : List Int} (h1 : ρ[i]? = some (some (.lst (intsV ds)))) (h2 : ρ[j]? = some (some (.lst (intsV ds)))) : evalE Φ ρ (.cmp .NotEq (.var i) (.var j)) σ = .ok (.bool false) σ ∧ evalE Φ ρ (.cmp .Eq (.var i) (.var j)) σ = .ok (.bool true) σ :=
  ⟨ev_cmp (ev_var h1) (ev_var h2) (ne_seen rfl rfl (plain_ints _) (fun x h => by cases h) (fun x h => by cases h)), ev_cmp (ev_var h1) (ev_var h2) (eq_seen rfl rfl (plain_ints _) (fun x h => by cases h) (fun x h => by cases h))⟩
theorem x_copyF {Φ : Fns} {e : ME} {ρ : Loc} {σ : Store} {vs : List V} (he : evalE Φ ρ e σ = .ok (.lst vs) σ) (hl : vs.length ≤ 1000000) : evalE Φ ρ (.copy false e) σ = .ok (.lst vs) σ := by
  simp only [ee_var, ee_cint, ee_cstr, ee_cnone, ee_cbool, ee_gint, ee_gstr, ee_bin, ee_neg, ee_not, ee_and, ee_or, ee_cmp, ee_cmp2, ee_call, ee_bi, ee_copy, ee_isi, ee_make, ee_meth, ee_attr, ee_idx, ee_sliceTo, ee_sliceFrom, ee_tup, ee_lst, ee_sumAt, ee_rev, ee_strMul, he, R.bind, listOf]
  rw [if_pos hl]; rfl
end Mine
set_option maxRecDepth 100000
set_option maxHeartbeats 1000000
set_option linter.unusedVariables false
set_option linter.unusedSimpArgs false
namespace Mine
open PySem


/-- what is paid in all: by parts, and what is owed in the end -/
noncomputable def costV (row : List (Int × Int)) (part : Int) (ds : List Int) (l b a : Int) : Int := (gone row part ds l b a 0).2.2 + endV row ds l b a part
noncomputable def lastD : Int → List Int → Int
  | a, [] => a
  | _, d :: ds => lastD d ds
theorem plan_len1 (row : List (Int × Int)) (part : Int) : ∀ (ds : List Int) (l b a : Int), (planV row part ds l b a).1.length ≤ ds.length
  | [], _, _, _ => by simp [planV]
  | d :: ds, l, b, a => by
    simp only [planV]
    split
    · simp
    · simp only [List.length_cons]
      exact Nat.succ_le_succ (plan_len1 row part ds _ _ _)
theorem col_cons {k : Nat} {ws r : List V} {i : Int} {is : List Int} (h : ws[k]? = some (.int i)) (hr : colOf k r = some is) : colOf k (.tup ws :: r) = some (i :: is) := by
  simp only [colOf, tupOf, Option.bind_some, h, V.asInt, hr, Option.map_some]
/-- what the rows say is paid -/
theorem plan_sum (row : List (Int × Int)) (part : Int) (hp : 1 ≤ part) : ∀ (ds : List Int) (l b a p : Int), Well row l b → ∃ is, colOf 1 (planV row part ds l b a).1 = some is ∧ p + is.sum = (gone row part ds l b a p).2.2
  | [], l, b, a, p, W => ⟨[], rfl, by simp [gone]⟩
  | d :: ds, l, b, a, p, W => by
    have W' := W.later a d
    simp only [planV, gone]
    by_cases h0 : owedV l (b + l * gs a d row) = 0
    · obtain ⟨h1, h2⟩ := owed_none W'.l0 W'.b0 h0
      subst h1
      rw [Int.zero_mul, Int.add_zero] at h2
      subst h2
      rw [if_pos h0]
      have e : min part (owedV 0 (0 + 0 * gs a d row)) = 0 := by rw [h0]; omega
      rw [e, if_neg (by omega), Int.zero_mul, Int.add_zero, gone_none]
      exact ⟨[], rfl, by simp⟩
    · have hw := W'.owed
      have hc : 0 < min part (owedV l (b + l * gs a d row)) := by omega
      rw [if_neg h0, if_pos hc]
      obtain ⟨is, h1, h2⟩ := plan_sum row part hp ds (partsV l (b + l * gs a d row) (min part (owedV l (b + l * gs a d row)))).2.2.1 (partsV l (b + l * gs a d row) (min part (owedV l (b + l * gs a d row)))).2.2.2 d (p + min part (owedV l (b + l * gs a d row))) (W'.paid (by omega) (by omega))
      refine ⟨min part (owedV l (b + l * gs a d row)) :: is, col_cons rfl h1, ?_⟩
      rw [List.sum_cons, ← h2]; omega
theorem good_next {d : Int} {ds : List Int} (h : daysBad d ds = false) : daysBad (d - 1) ds = false := daysBad_mono (by omega) h
theorem lastD_ok : ∀ (ds : List Int) (a : Int), daysBad (a - 1) ds = false → a ≤ 100000 → a ≤ lastD a ds ∧ lastD a ds ≤ 100000
  | [], a, _, h => ⟨Int.le_refl _, h⟩
  | d :: ds, a, hd, h => by
    simp only [daysBad, Bool.or_eq_false_iff, decide_eq_false_iff_not] at hd
    have := lastD_ok ds d (good_next hd.2) (by omega)
    simp only [lastD]; omega
/-- the loan stands at the last day, or nothing is owed -/
theorem plan_end (row : List (Int × Int)) (part : Int) (hp : 1 ≤ part) : ∀ (ds : List Int) (l b a : Int), Well row l b → daysBad (a - 1) ds = false → a ≤ 100000 →
    (planV row part ds l b a).2.2.2 ≤ lastD a ds ∧ (((planV row part ds l b a).2.1 = 0 ∧ (planV row part ds l b a).2.2.1 = 0) ∨ (planV row part ds l b a).2.2.2 = lastD a ds)
  | [], l, b, a, W, _, _ => ⟨Int.le_refl _, .inr rfl⟩
  | d :: ds, l, b, a, W, hd, ha => by
    have hl := lastD_ok (d :: ds) a hd ha
    have W' := W.later a d
    simp only [daysBad, Bool.or_eq_false_iff, decide_eq_false_iff_not] at hd
    simp only [planV]
    by_cases h0 : owedV l (b + l * gs a d row) = 0
    · obtain ⟨h1, h2⟩ := owed_none W'.l0 W'.b0 h0
      subst h1
      rw [Int.zero_mul, Int.add_zero] at h2
      subst h2
      rw [if_pos h0]
      exact ⟨hl.1, .inl ⟨rfl, rfl⟩⟩
    · have hw := W'.owed
      rw [if_neg h0]
      exact plan_end row part hp ds _ _ d (W'.paid (by omega) (by omega)) (good_next hd.2) (by omega)
theorem item_lastD {σ : Store} (d : Int) (ds : List Int) : itemV σ (.lst (intsV (d :: ds))) (.int (-1)) = some (.int (lastD d ds)) := by
  have h : ∀ (ds : List Int) (d : Int), (d :: ds)[ds.length]? = some (lastD d ds) := by
    intro ds
    induction ds with
    | nil => intro d; rfl
    | cons e ds ih => intro d; exact ih e
  simp only [itemV, seqOf, listOf, Option.bind_some, V.asInt]
  rw [if_neg (by omega), if_pos ⟨by simp; omega, by omega⟩]
  have : (-1 + ((intsV (d :: ds)).length : Int)).toNat = ds.length := by simp; omega
  rw [this, List.getElem?_map, h]
  rfl
theorem ev_sumAt {Φ : Fns} {ρ : Loc} {i : Nat} {σ : Store} {k : Nat} {v : V} {vs : List V} {is : List Int} (he : ρ[i]? = some (some v)) (hv : listOf σ v = some vs) (hi : colOf k vs = some is) (hl : vs.length ≤ 1000000) (hk : k < 1000000) : evalE Φ ρ (.sumAt k i) σ = .ok (.int is.sum) σ := by
  simp only [ee_var, ee_cint, ee_cstr, ee_cnone, ee_cbool, ee_gint, ee_gstr, ee_bin, ee_neg, ee_not, ee_and, ee_or, ee_cmp, ee_cmp2, ee_call, ee_bi, ee_copy, ee_isi, ee_make, ee_meth, ee_attr, ee_idx, ee_sliceTo, ee_sliceFrom, ee_tup, ee_lst, ee_sumAt, ee_rev, ee_strMul, he, sumAtV, hv, Option.bind_some, hi]
  rw [if_pos ⟨hl, hk⟩]
  rfl
structure HasCost (P : Prog) : Prop where
  loan : HasLoan P
  pay : HasPay P
  days : HasDays P
  twin : HasTwin P
  some' : Has P 30 s_sure_some_days 2 b_sure_some_days
  part : Has P 31 s_sure_part 1 b_sure_part
  costOf : Has P 35 s_cost_of 3 b_cost_of
  cost : Has P 36 s_cost 3 b_cost
  saved : Has P 37 s_saved 5 b_saved
section
variable {P : Prog} {σ : Store} {i r : Nat} {row : List (Int × Int)} {l b a : Int}
theorem F_cost_of (H : HasCost P) (L : Lo σ i r row l b a) (W : Well row l b) (ha : a ≤ 100000) (d : Int) (ds : List Int) (hd : daysBad (a - 1) (d :: ds) = false) (hl : (d :: ds).length ≤ 400) (part : Int) (hp : 1 ≤ part) :
    ∃ τ, fn P 35 [.loc i, .lst (intsV (d :: ds)), .int part] σ = .ok (.int (costV row part (d :: ds) l b a)) (σ ++ τ) := by
  rw [fn_has H.costOf]
  obtain ⟨t1, L2, t2⟩ := twin_paid H.loan H.pay H.days H.twin L W (d :: ds) hd hl part hp
  have hpw := plan_well row part hp (d :: ds) l b a W
  have hpg := plan_gone row part hp (d :: ds) l b a 0 W
  have hln := plan_len1 row part (d :: ds) l b a
  obtain ⟨is, hcol, hsum⟩ := plan_sum row part hp (d :: ds) l b a 0 W
  have hpe := plan_end row part hp (d :: ds) l b a W hd ha
  have hlast := lastD_ok (d :: ds) a hd ha
  have hcost : costV row part (d :: ds) l b a = is.sum + owedV (planV row part (d :: ds) l b a).2.1 (planV row part (d :: ds) l b a).2.2.1 := by
    rw [costV, ← hsum, endV, hpg.1, hpg.2]; omega
  rw [hcost]
  generalize planV row part (d :: ds) l b a = pl at *
  obtain ⟨rows, pl, pb, pa⟩ := pl
  dsimp only at t2 hpw hln hcol hpe ⊢
  obtain ⟨σ₂, hσ₂⟩ : ∃ σ₂, σ₂ = σ ++ [Ob.inst 0 (loanF (σ.length + 1) pl pb pa), Ob.list (rowV row), Ob.list rows] := ⟨_, rfl⟩
  rw [← hσ₂] at t2
  have L3 : Lo σ₂ σ.length (σ.length + 1) row pl pb pa := ⟨by rw [hσ₂]; simp, by rw [hσ₂]; simp⟩
  have hrows : listOf σ₂ (.loc (σ.length + 2)) = some rows := by
    have : σ₂[σ.length + 2]? = some (Ob.list rows) := by rw [hσ₂]; simp
    simp only [listOf, this]
  have ho := F_owed H.loan H.pay L3 hpw.fit (lastD d ds) hpe.1 hlast.2
  have e : owedV pl (pb + pl * gs pa (lastD d ds) row) = owedV pl pb := by
    rcases hpe.2 with ⟨h1, h2⟩ | h
    · rw [h1, Int.zero_mul, Int.add_zero]
    · have h : pa = lastD d ds := h
      rw [h, gs_same, Int.mul_zero, Int.add_zero]
  rw [e] at ho
  refine ⟨[Ob.inst 0 (loanF (σ.length + 1) pl pb pa), Ob.list (rowV row), Ob.list rows], ?_⟩
  · rw [← hσ₂]
    exact callFn_ret rfl (step (ex_assign (x_mt (ev_var rfl) evs_nil L.obj (by decide) H.twin.mtwin t1)) (step (ex_assign (x_fn (ev3 (ev_var rfl) (ev_var rfl) (ev_var rfl)) (by decide) t2)) (ex_ret (ev_add (ev_sumAt rfl hrows hcol (by omega) (by decide)) (x_mt (ev_var rfl) (ev1 (ev_idx (ev_var rfl) (ev_neg ev_int) (item_lastD d ds))) L3.obj (by decide) H.pay.mowed ho)))))
theorem F_cost (H : HasCost P) (L : Lo σ i r row l b a) (W : Well row l b) (ha : a ≤ 100000) (d : Int) (ds : List Int) (hd : daysBad (a - 1) (d :: ds) = false) (hl : (d :: ds).length ≤ 400) (part : Int) (hp : 1 ≤ part) :
    ∃ τ, fn P 36 [.loc i, .lst (intsV (d :: ds)), .int part] σ = .ok (.int (costV row part (d :: ds) l b a)) (σ ++ τ) := by
  obtain ⟨τ, h⟩ := F_cost_of H L W ha d ds hd hl part hp
  have hs := F_some_days H.loan H.days H.some' L (d :: ds) hl
  rw [hd, if_neg (by simp)] at hs
  have h2 := F_sure_part H.part part σ
  rw [if_neg (by omega)] at h2
  refine ⟨τ, ?_⟩
  rw [fn_has H.cost]
  exact callFn_ret rfl (step (ex_expr (x_fn (ev2 (ev_var rfl) (ev_var rfl)) (by decide) hs)) (step (ex_expr (x_fn (ev1 (ev_var rfl)) (by decide) h2)) (ex_ret (x_fn (ev3 (ev_var rfl) (ev_var rfl) (ev_var rfl)) (by decide) h))))
/-- a payment ahead: what it saves -/
theorem F_saved (H : HasCost P) (L : Lo σ i r row l b a) (W : Well row l b) (ha : a ≤ 100000) (d : Int) (ds : List Int) (hd : daysBad (a - 1) (d :: ds) = false) (hl : (d :: ds).length ≤ 400) (part : Int) (hp : 1 ≤ part) (day cents : Int) (h1 : a ≤ day) (h2 : day ≤ d) (h3 : 1 ≤ cents) (h4 : cents ≤ owedV l (b + l * gs a day row)) :
    ∃ τ, fn P 37 [.loc i, .lst (intsV (d :: ds)), .int part, .int day, .int cents] σ = .ok (.int (costV row part (d :: ds) l b a - cents - costV row part (d :: ds) (partsV l (b + l * gs a day row) cents).2.2.1 (partsV l (b + l * gs a day row) cents).2.2.2 day)) (σ ++ τ) := by
  have hs := F_some_days H.loan H.days H.some' L (d :: ds) hl
  rw [hd, if_neg (by simp)] at hs
  have hd0 := hd
  simp only [daysBad, Bool.or_eq_false_iff, decide_eq_false_iff_not] at hd0
  have hd' : daysBad (day - 1) (d :: ds) = false := by
    simp only [daysBad, Bool.or_eq_false_iff, decide_eq_false_iff_not]
    exact ⟨⟨by omega, by omega⟩, hd0.2⟩
  have hpp := F_sure_part H.part part σ
  rw [if_neg (by omega)] at hpp
  have W1 := W.later a day
  have W2 := W1.paid h3 h4
  have ht := F_twin H.loan H.twin.twin L W.ok (by have := W.few; omega) W.pos
  obtain ⟨σ₁, hσ₁⟩ : ∃ σ₁, σ₁ = σ ++ [Ob.inst 0 (loanF (σ.length + 1) l b a), Ob.list (rowV row)] := ⟨_, rfl⟩
  have L1 : Lo σ₁ σ.length (σ.length + 1) row l b a := ⟨by rw [hσ₁]; simp, by rw [hσ₁]; simp⟩
  rw [← hσ₁] at ht
  have hpay := F_pay H.loan H.pay L1 W.fit day cents h1 (by omega) h3 h4
  generalize partsV l (b + l * gs a day row) cents = q at *
  obtain ⟨q1, q2, q3, q4⟩ := q
  dsimp only at hpay W2 ⊢
  obtain ⟨σ₂, hσ₂⟩ : ∃ σ₂, σ₂ = σ ++ [Ob.inst 0 (loanF (σ.length + 1) q3 q4 day), Ob.list (rowV row)] := ⟨_, rfl⟩
  have e2 : σ₁.set σ.length (Ob.inst 0 (loanF (σ.length + 1) q3 q4 day)) = σ₂ := by rw [hσ₁, hσ₂]; simp
  rw [e2] at hpay
  have L2 : Lo σ₂ i r row l b a := by rw [hσ₂]; exact L.app _
  obtain ⟨τ₃, hc1⟩ := F_cost_of H L2 W ha d ds hd hl part hp
  have L3 : Lo (σ₂ ++ τ₃) σ.length (σ.length + 1) row q3 q4 day := by
    have : Lo σ₂ σ.length (σ.length + 1) row q3 q4 day := ⟨by rw [hσ₂]; simp, by rw [hσ₂]; simp⟩
    exact this.app _
  obtain ⟨τ₄, hc2⟩ := F_cost_of H L3 W2 (by omega) d ds hd' hl part hp
  have hcond : evalE (pre P 37) [some (.loc i), some (.lst (intsV (d :: ds))), some (.int part), some (.int day), some (.int cents), none] (.or [.cmp .Lt (.var 3) (.attr (.var 0) 3), .cmp .Gt (.var 3) (.idx (.var 1) (.cint 0))]) σ = .ok (.bool false) σ := by
    refine or_tt (p := false) (q := false) ((ev_lt (ev_var rfl) (ev_attr (ev_var rfl) L.obj (attr_ok H.loan 37 (show 3 < 4 by decide)) rfl)).trans ?_) fun _ => (ev_gt (ev_var rfl) (ev_idx (ev_var rfl) ev_int it_l0)).trans ?_
    · rw [decide_eq_false (by omega)]
    · rw [decide_eq_false (by omega)]
  refine ⟨[Ob.inst 0 (loanF (σ.length + 1) q3 q4 day), Ob.list (rowV row)] ++ τ₃ ++ τ₄, ?_⟩
  rw [← List.append_assoc, ← List.append_assoc, ← hσ₂, fn_has H.saved]
  exact callFn_ret rfl (step (ex_expr (x_fn (ev2 (ev_var rfl) (ev_var rfl)) (by decide) hs)) (step (ex_expr (x_fn (ev1 (ev_var rfl)) (by decide) hpp)) (step (ex_ite hcond ex_nil) (step (ex_assign (x_mt (ev_var rfl) evs_nil L.obj (by decide) H.twin.mtwin ht)) (step (ex_expr (x_mt (ev_var rfl) (ev2 (ev_var rfl) (ev_var rfl)) L1.obj (by decide) H.pay.mpay hpay)) (ex_ret (ev_sub (ev_sub (x_fn (ev3 (ev_var rfl) (ev_var rfl) (ev_var rfl)) (by decide) hc1) (ev_var rfl)) (x_fn (ev3 (ev_var rfl) (ev_var rfl) (ev_var rfl)) (by decide) hc2))))))))
theorem F_lcost (HL : HasLaw P) (HB : Has P 50 s_l_behind 4 b_l_behind) (HC : Has P 51 s_l_cost 4 b_l_cost) {src : V} (hs : listOf σ src = some (rowV row)) (hv : ∀ vs, src ≠ .tup vs) (ds : List Int) (W : Well row l b) (ha : 0 ≤ a) (hd : daysBad (a - 1) ds = false) (part : Int) :
    fn P 51 [.tup [.int l, .int b, .int a], src, .lst (intsV ds), .int part] σ = .ok (.int (costV row part ds l b a)) σ := by
  rw [fn_has HC]
  exact callFn_ret rfl (step (ex_unpack (x_fn (ev4 (ev_var rfl) (ev_var rfl) (ev_var rfl) (ev_var rfl)) (by decide) (F_behind HL HB hs hv ds W ha hd part)) rfl) (ex_ret (ev_add (ev_var rfl) (ev_var rfl))))
end
end Mine
set_option maxRecDepth 100000
set_option maxHeartbeats 1000000
set_option linter.unusedVariables false
set_option linter.unusedSimpArgs false
namespace Mine
open PySem

theorem gs_add (s m e : Int) (h1 : s ≤ m) (h2 : m ≤ e) : ∀ l : List (Int × Int), gs s m l + gs m e l = gs s e l
  | [] => rfl
  | [p] => by
    have : wd s e p.1 = wd s m p.1 + wd m e p.1 := by unfold wd; omega
    simp only [gs, this, Int.add_mul]
  | p :: q :: r => by
    have h := gs_add s m e h1 h2 (q :: r)
    have hp : wd s e p.1 = wd s m p.1 + wd m e p.1 := by unfold wd; omega
    have hq : wd s e q.1 = wd s m q.1 + wd m e q.1 := by unfold wd; omega
    simp only [gs] at h ⊢
    rw [← h, hp, hq]
    simp only [Int.add_mul, Int.sub_mul]; omega
/-- all that is paid, with p paid ahead -/
noncomputable def tot (row : List (Int × Int)) (part : Int) (ds : List Int) (l b a p : Int) : Int := (gone row part ds l b a p).2.2 + owedV (gone row part ds l b a p).1 (gone row part ds l b a p).2.1
theorem tot_p (row : List (Int × Int)) (part : Int) : ∀ (ds : List Int) (l b a p : Int), tot row part ds l b a p = p + tot row part ds l b a 0
  | [], l, b, a, p => by simp [tot, gone]
  | d :: ds, l, b, a, p => by
    simp only [tot, gone]
    split
    · have h1 := tot_p row part ds (partsV l (b + l * gs a d row) (min part (owedV l (b + l * gs a d row)))).2.2.1 (partsV l (b + l * gs a d row) (min part (owedV l (b + l * gs a d row)))).2.2.2 d (p + min part (owedV l (b + l * gs a d row)))
      have h2 := tot_p row part ds (partsV l (b + l * gs a d row) (min part (owedV l (b + l * gs a d row)))).2.2.1 (partsV l (b + l * gs a d row) (min part (owedV l (b + l * gs a d row)))).2.2.2 d (0 + min part (owedV l (b + l * gs a d row)))
      unfold tot at h1 h2
      rw [h1, h2]; omega
    · exact tot_p row part ds l (b + l * gs a d row) d p
theorem parts_sum {l b c : Int} : owedV l b = c + owedV (partsV l b c).2.2.1 (partsV l b c).2.2.2 := by
  unfold partsV
  by_cases h : c = owedV l b
  · rw [if_pos h, h]; show _ = _ + owedV 0 0; unfold owedV; omega
  · rw [if_neg h]
    generalize (if b / 1000000 < c then b / 1000000 else c) = i
    show _ = c + owedV (l - (c - i)) (b - 1000000 * i)
    unfold owedV; omega
theorem parts_less {l b c : Int} (h : c ≠ owedV l b) : ∃ i, i = min c (b / 1000000) ∧ (partsV l b c).2.2.1 = l - (c - i) ∧ (partsV l b c).2.2.2 = b - 1000000 * i := by
  unfold partsV
  rw [if_neg h]
  refine ⟨if b / 1000000 < c then b / 1000000 else c, ?_, rfl, rfl⟩
  split <;> omega
theorem tot_low (row : List (Int × Int)) (part : Int) (hp : 1 ≤ part) : ∀ (ds : List Int) (l b a p : Int), Well row l b → p + owedV l b ≤ tot row part ds l b a p
  | [], l, b, a, p, W => by simp [tot, gone]
  | d :: ds, l, b, a, p, W => by
    have W' := W.later a d
    have hg := Int.mul_nonneg W.l0 (RowOk.sumLow (s := a) (e := d) W.ok)
    have ho : owedV l b ≤ owedV l (b + l * gs a d row) := by
      generalize l * gs a d row = g at *
      unfold owedV; omega
    have hw := W'.owed
    simp only [tot, gone]
    generalize b + l * gs a d row = b' at *
    by_cases hc : 0 < min part (owedV l b')
    · rw [if_pos hc]
      have ih := tot_low row part hp ds (partsV l b' (min part (owedV l b'))).2.2.1 (partsV l b' (min part (owedV l b'))).2.2.2 d (p + min part (owedV l b')) (W'.paid (by omega) (by omega))
      have hs := parts_sum (l := l) (b := b') (c := min part (owedV l b'))
      unfold tot at ih
      omega
    · rw [if_neg hc]
      have ih := tot_low row part hp ds l b' d p W'
      unfold tot at ih
      omega
theorem tot_low1 (row : List (Int × Int)) (part : Int) (hp : 1 ≤ part) {d : Int} {ds : List Int} {l b a p : Int} (W : Well row l b) : p + owedV l (b + l * gs a d row) ≤ tot row part (d :: ds) l b a p := by
  have h := tot_low row part hp (d :: ds) l (b + l * gs a d row) d p (W.later a d)
  have e : tot row part (d :: ds) l (b + l * gs a d row) d p = tot row part (d :: ds) l b a p := by
    simp only [tot, gone, gs_same, Int.mul_zero, Int.add_zero]
  rw [e] at h; exact h
theorem tot_full (row : List (Int × Int)) (part : Int) {d : Int} {ds : List Int} {l b a p : Int} (W : Well row l b) (h : owedV l (b + l * gs a d row) ≤ part) : tot row part (d :: ds) l b a p = p + owedV l (b + l * gs a d row) := by
  have W' := W.later a d
  have hw := W'.owed
  simp only [tot, gone]
  generalize b + l * gs a d row = b' at *
  have e : min part (owedV l b') = owedV l b' := by omega
  rw [e]
  by_cases hc : 0 < owedV l b'
  · have e2 : partsV l b' (owedV l b') = (owedV l b' - l, l, 0, 0) := if_pos rfl
    rw [if_pos hc, e2]
    dsimp only
    rw [gone_none]
    show p + owedV l b' + owedV 0 0 = _
    have : owedV 0 0 = 0 := rfl
    omega
  · obtain ⟨h1, h2⟩ := owed_none W'.l0 W'.b0 (by omega)
    subst h1; subst h2
    rw [if_neg hc, gone_none]
/-- who owes less and has paid less in all goes on to pay less in all -/
theorem tot_le (row : List (Int × Int)) (part : Int) (hp : 1 ≤ part) : ∀ (ds : List Int) (l b p l' b' p' a : Int), Well row l b → Well row l' b' → l' ≤ l → l' * 1000000 + b' ≤ l * 1000000 + b → p' * 1000000 + l' * 1000000 + b' ≤ p * 1000000 + l * 1000000 + b → tot row part ds l' b' a p' ≤ tot row part ds l b a p
  | [], l, b, p, l', b', p', a, W, W', h1, h2, h3 => by
    simp only [tot, gone]; unfold owedV; omega
  | d :: ds, l, b, p, l', b', p', a, W, W', h1, h2, h3 => by
    have hg := RowOk.sumLow (s := a) (e := d) W.ok
    have hm := Int.mul_le_mul_of_nonneg_right h1 hg
    have V := W.later a d
    have V' := W'.later a d
    by_cases hB : owedV l' (b' + l' * gs a d row) ≤ part
    · rw [tot_full row part W' hB]
      have h := tot_low1 row part hp (d := d) (ds := ds) (a := a) (p := p) W
      refine Int.le_trans ?_ h
      generalize l * gs a d row = g at *
      generalize l' * gs a d row = g' at *
      unfold owedV; omega
    · simp only [tot, gone]
      have hA : ¬ owedV l (b + l * gs a d row) ≤ part := by
        generalize l * gs a d row = g at *
        generalize l' * gs a d row = g' at *
        unfold owedV at *; omega
      have h2' : l' * 1000000 + (b' + l' * gs a d row) ≤ l * 1000000 + (b + l * gs a d row) := by omega
      have h3' : p' * 1000000 + l' * 1000000 + (b' + l' * gs a d row) ≤ p * 1000000 + l * 1000000 + (b + l * gs a d row) := by omega
      generalize b + l * gs a d row = c at *
      generalize b' + l' * gs a d row = c' at *
      have eB : min part (owedV l' c') = part := by omega
      have eA : min part (owedV l c) = part := by omega
      rw [eA, eB, if_pos (by omega), if_pos (by omega)]
      have U := V.paid (c := part) hp (by omega)
      have U' := V'.paid (c := part) hp (by omega)
      obtain ⟨i, hi, e1, e2⟩ := parts_less (l := l) (b := c) (c := part) (by omega)
      obtain ⟨i', hi', e1', e2'⟩ := parts_less (l := l') (b := c') (c := part) (by omega)
      refine tot_le row part hp ds _ _ _ _ _ _ d U U' ?_ ?_ ?_
      all_goals rw [e1, e1']
      · omega
      · rw [e2, e2']; omega
      · rw [e2, e2']; omega
theorem cost_tot {row : List (Int × Int)} {part : Int} {ds : List Int} {l b a : Int} : costV row part ds l b a = tot row part ds l b a 0 := rfl
theorem cost_later {row : List (Int × Int)} {part d : Int} {ds : List Int} {l b a day : Int} (h1 : a ≤ day) (h2 : day ≤ d) : costV row part (d :: ds) l b a = costV row part (d :: ds) l (b + l * gs a day row) day := by
  have e : b + l * gs a day row + l * gs day d row = b + l * gs a d row := by rw [← gs_add a day d h1 h2 row, Int.mul_add]; omega
  simp only [cost_tot, tot, gone, e]
/-- a payment ahead saves nothing below nought -/
theorem saved_low {row : List (Int × Int)} {part d : Int} {ds : List Int} {l b a day cents : Int} (W : Well row l b) (hp : 1 ≤ part) (h1 : a ≤ day) (h2 : day ≤ d) (h3 : 1 ≤ cents) (h4 : cents ≤ owedV l (b + l * gs a day row)) :
    0 ≤ costV row part (d :: ds) l b a - cents - costV row part (d :: ds) (partsV l (b + l * gs a day row) cents).2.2.1 (partsV l (b + l * gs a day row) cents).2.2.2 day := by
  rw [cost_later h1 h2]
  have V := W.later a day
  generalize b + l * gs a day row = c at *
  have U := V.paid h3 h4
  have key : tot row part (d :: ds) (partsV l c cents).2.2.1 (partsV l c cents).2.2.2 day cents ≤ tot row part (d :: ds) l c day 0 := by
    by_cases hf : cents = owedV l c
    · have e : partsV l c cents = (cents - l, l, 0, 0) := if_pos hf
      rw [e]
      have h := tot_low row part hp (d :: ds) l c day 0 V
      have e2 : tot row part (d :: ds) 0 0 day cents = cents := by
        unfold tot; rw [gone_none]
        show cents + owedV 0 0 = cents
        have : owedV 0 0 = 0 := rfl
        omega
      dsimp only
      omega
    · obtain ⟨i, hi, e1, e2⟩ := parts_less hf
      refine tot_le row part hp (d :: ds) _ _ _ _ _ _ day V U ?_ ?_ ?_
      all_goals rw [e1]
      · omega
      · rw [e2]; omega
      · rw [e2]; omega
  rw [tot_p] at key
  simp only [cost_tot]
  omega
end Mine
set_option maxRecDepth 100000
set_option maxHeartbeats 1000000
set_option linter.unusedVariables false
set_option linter.unusedSimpArgs false
namespace Mine
open PySem

theorem PB : Base Pg := ⟨⟨_, _, _, rfl⟩, ⟨_, _, _, rfl⟩, ⟨_, _, _, rfl⟩, fun _ => ⟨_, _, _, rfl⟩⟩
theorem PW : HasWhole Pg := ⟨_, _, _, rfl⟩
theorem PL : HasLoan Pg := ⟨⟨_, _, _, rfl⟩, ⟨_, _, _, rfl⟩, ⟨_, _, _, rfl⟩, ⟨_, _, _, rfl⟩, ⟨_, _, _, rfl⟩, ⟨_, _, _, rfl⟩, ⟨_, rfl⟩, rfl, by decide⟩
theorem PP : HasPay Pg := ⟨⟨_, _, _, rfl⟩, ⟨_, _, _, rfl⟩, ⟨_, _, _, rfl⟩, by decide, by decide, by decide⟩
theorem PR : HasLaw Pg := ⟨PB, ⟨_, _, _, rfl⟩, ⟨_, _, _, rfl⟩, ⟨_, _, _, rfl⟩⟩
theorem PM : HasMake Pg := ⟨PL, PP, PR, ⟨_, _, _, rfl⟩, ⟨_, _, _, rfl⟩, ⟨_, _, _, rfl⟩⟩
theorem PT : HasTwin Pg := ⟨⟨_, _, _, rfl⟩, by decide⟩
theorem PD : HasDays Pg := ⟨⟨_, _, _, rfl⟩, ⟨_, _, _, rfl⟩⟩
theorem PC : HasCost Pg := ⟨PL, PP, PD, PT, ⟨_, _, _, rfl⟩, ⟨_, _, _, rfl⟩, ⟨_, _, _, rfl⟩, ⟨_, _, _, rfl⟩, ⟨_, _, _, rfl⟩⟩
theorem P12 : Has Pg 12 s_l_days_by 4 b_l_days_by := ⟨_, _, _, rfl⟩
theorem P42 : Has Pg 42 s_l_loan_by 2 b_l_loan_by := ⟨_, _, _, rfl⟩
theorem P43 : Has Pg 43 s_l_row_of 1 b_l_row_of := ⟨_, _, _, rfl⟩
theorem P44 : Has Pg 44 s_l_dues 2 b_l_dues := ⟨_, _, _, rfl⟩
theorem P45 : Has Pg 45 s_l_done_more 4 b_l_done_more := ⟨_, _, _, rfl⟩
theorem P47 : Has Pg 47 s_l_part_of 2 b_l_part_of := ⟨_, _, _, rfl⟩
theorem P50 : Has Pg 50 s_l_behind 4 b_l_behind := ⟨_, _, _, rfl⟩
theorem P51 : Has Pg 51 s_l_cost 4 b_l_cost := ⟨_, _, _, rfl⟩
theorem P52 : Has Pg 52 s_l_saved_again 6 b_l_saved_again := ⟨_, _, _, rfl⟩

theorem F_row_of (c : Int) (σ : Store) : ∃ row, fn Pg 43 [.int c] σ = .ok (.loc σ.length) (σ ++ [.list (rowV row)]) ∧ RowOk (-1) row ∧ 0 < row.length ∧ row.length ≤ 60 ∧ ∀ p ∈ row, p.1 ≤ 59000 := by
  obtain ⟨w, hw, hwi⟩ := item_ints (σ := σ) (is := [9, 9000]) (k := c / 4 % 2) (by omega) (by simp only [List.length_cons, List.length_nil]; omega) (by simp)
  obtain ⟨w', hw', hwi'⟩ := item_ints (σ := σ) (is := [9, 1000]) (k := c / 4 % 2) (by omega) (by simp only [List.length_cons, List.length_nil]; omega) (by simp)
  simp only [List.mem_cons, List.not_mem_nil, or_false] at hw hw'
  have s0 : execS (pre Pg 43) (.assign 1 (.bin .Add (.cint 1) (.bin .Mod (.var 0) (.cint 4)))) [some (.int c), none, none] σ = .ok (.next [some (.int c), some (.int (1 + c % 4)), none]) σ := ex_assign (by (repeat' (first | exact ev_var rfl | exact ev_int | exact ev_gint | exact ev_str | exact ev_bool | exact ev_none | exact evs_nil | apply evs_cons | apply ev_add | apply ev_sub | apply ev_lt | apply ev_le | apply ev_gt | apply ev_ge | apply ev_eq | apply ev_ne | apply ev_max' | apply ev_min' | apply ev_mod | apply ev_div | apply ev_neg | apply not_tt | apply ev_tup | apply ev_lst | apply ev_idx | exact it_t0 | exact it_t1 | exact it_t2 | exact it_t3 | exact it_l0 | exact it_l1 | exact it_l2 | apply ev_bint | decide | omega)))
  have s1 : execS (pre Pg 43) (.assign 2 (.idx (.lst false [.cint 9, .cint 9000]) (.bin .Mod (.bin .FloorDiv (.var 0) (.cint 4)) (.cint 2)))) [some (.int c), some (.int (1 + c % 4)), none] σ = .ok (.next [some (.int c), some (.int (1 + c % 4)), some (.int w)]) σ := ex_assign (ev_idx (by (repeat' (first | exact ev_var rfl | exact ev_int | exact ev_gint | exact ev_str | exact ev_bool | exact ev_none | exact evs_nil | apply evs_cons | apply ev_add | apply ev_sub | apply ev_lt | apply ev_le | apply ev_gt | apply ev_ge | apply ev_eq | apply ev_ne | apply ev_max' | apply ev_min' | apply ev_mod | apply ev_div | apply ev_neg | apply not_tt | apply ev_tup | apply ev_lst | apply ev_idx | exact it_t0 | exact it_t1 | exact it_t2 | exact it_t3 | exact it_l0 | exact it_l1 | exact it_l2 | apply ev_bint | decide | omega))) (by (repeat' (first | exact ev_var rfl | exact ev_int | exact ev_gint | exact ev_str | exact ev_bool | exact ev_none | exact evs_nil | apply evs_cons | apply ev_add | apply ev_sub | apply ev_lt | apply ev_le | apply ev_gt | apply ev_ge | apply ev_eq | apply ev_ne | apply ev_max' | apply ev_min' | apply ev_mod | apply ev_div | apply ev_neg | apply not_tt | apply ev_tup | apply ev_lst | apply ev_idx | exact it_t0 | exact it_t1 | exact it_t2 | exact it_t3 | exact it_l0 | exact it_l1 | exact it_l2 | apply ev_bint | decide | omega))) hwi)
  have hc : evalE (pre Pg 43) [some (.int c), some (.int (1 + c % 4)), some (.int w)] (.cmp .Eq (.bin .Mod (.bin .FloorDiv (.var 0) (.cint 8)) (.cint 8)) (.cint 1)) σ = .ok (.bool (decide (c / 8 % 8 = 1))) σ := by (repeat' (first | exact ev_var rfl | exact ev_int | exact ev_gint | exact ev_str | exact ev_bool | exact ev_none | exact evs_nil | apply evs_cons | apply ev_add | apply ev_sub | apply ev_lt | apply ev_le | apply ev_gt | apply ev_ge | apply ev_eq | apply ev_ne | apply ev_max' | apply ev_min' | apply ev_mod | apply ev_div | apply ev_neg | apply not_tt | apply ev_tup | apply ev_lst | apply ev_idx | exact it_t0 | exact it_t1 | exact it_t2 | exact it_t3 | exact it_l0 | exact it_l1 | exact it_l2 | apply ev_bint | decide | omega))
  by_cases h : c / 8 % 8 = 1
  · rw [decide_eq_true h] at hc
    obtain ⟨row, hr, h1, h2, h3⟩ := F_row2 PB rfl c (1 + c / 64 % 60) w' (by omega) (by omega) (by omega) (by rcases hw' with rfl | rfl <;> omega) σ
    refine ⟨row, ?_, h1, by omega, by omega, h3⟩
    rw [fn_has P43]
    exact callFn_ret rfl (step s0 (step s1 (step (ex_ite hc (step (ex_assign (by (repeat' (first | exact ev_var rfl | exact ev_int | exact ev_gint | exact ev_str | exact ev_bool | exact ev_none | exact evs_nil | apply evs_cons | apply ev_add | apply ev_sub | apply ev_lt | apply ev_le | apply ev_gt | apply ev_ge | apply ev_eq | apply ev_ne | apply ev_max' | apply ev_min' | apply ev_mod | apply ev_div | apply ev_neg | apply not_tt | apply ev_tup | apply ev_lst | apply ev_idx | exact it_t0 | exact it_t1 | exact it_t2 | exact it_t3 | exact it_l0 | exact it_l1 | exact it_l2 | apply ev_bint | decide | omega)))) (step (ex_assign (ev_idx (by (repeat' (first | exact ev_var rfl | exact ev_int | exact ev_gint | exact ev_str | exact ev_bool | exact ev_none | exact evs_nil | apply evs_cons | apply ev_add | apply ev_sub | apply ev_lt | apply ev_le | apply ev_gt | apply ev_ge | apply ev_eq | apply ev_ne | apply ev_max' | apply ev_min' | apply ev_mod | apply ev_div | apply ev_neg | apply not_tt | apply ev_tup | apply ev_lst | apply ev_idx | exact it_t0 | exact it_t1 | exact it_t2 | exact it_t3 | exact it_l0 | exact it_l1 | exact it_l2 | apply ev_bint | decide | omega))) (by (repeat' (first | exact ev_var rfl | exact ev_int | exact ev_gint | exact ev_str | exact ev_bool | exact ev_none | exact evs_nil | apply evs_cons | apply ev_add | apply ev_sub | apply ev_lt | apply ev_le | apply ev_gt | apply ev_ge | apply ev_eq | apply ev_ne | apply ev_max' | apply ev_min' | apply ev_mod | apply ev_div | apply ev_neg | apply not_tt | apply ev_tup | apply ev_lst | apply ev_idx | exact it_t0 | exact it_t1 | exact it_t2 | exact it_t3 | exact it_l0 | exact it_l1 | exact it_l2 | apply ev_bint | decide | omega))) hwi')) ex_nil))) (ex_ret (x_fn (ev3 (ev_var rfl) (ev_var rfl) (ev_var rfl)) (by decide) hr)))))
  · rw [decide_eq_false h] at hc
    obtain ⟨row, hr, h1, h2, h3⟩ := F_row2 PB rfl c (1 + c % 4) w (by omega) (by omega) (by omega) (by rcases hw with rfl | rfl <;> omega) σ
    refine ⟨row, ?_, h1, by omega, by omega, h3⟩
    rw [fn_has P43]
    exact callFn_ret rfl (step s0 (step s1 (step (ex_ite hc ex_nil) (ex_ret (x_fn (ev3 (ev_var rfl) (ev_var rfl) (ev_var rfl)) (by decide) hr)))))
theorem F_dues (ns : List Int) (hl : ns.length ≤ 63) (a : Int) (ha : 0 ≤ a) (ha' : a ≤ 3000) (σ : Store) :
    ∃ d ds ob, fn Pg 44 [.lst (ns.map .int), .int a] σ = .ok (.lst (intsV (d :: ds))) (σ ++ [ob]) ∧ (d :: ds).length ≤ 400 ∧ daysBad (a - 1) (d :: ds) = false := by
  have cell := fun (ρ : Loc) (k : Int) (h0 : 0 ≤ k) (hk : k < 100) (σ : Store) => ev_cell PB hl (N := 44) (by decide) (ρ := ρ) k h0 hk rfl σ
  obtain ⟨hd, hhd⟩ : ∃ hd, hd = cellAt ns 4 := ⟨_, rfl⟩
  have s0 : execS (pre Pg 44) (.assign 2 (.call 0 [.var 0, .cint 4])) [some (.lst (ns.map .int)), some (.int a), none, none, none, none] σ = .ok (.next [some (.lst (ns.map .int)), some (.int a), some (.int hd), none, none, none]) σ := by
    rw [hhd]; exact ex_assign (cell _ 4 (by decide) (by decide) _)
  have s1 : execS (pre Pg 44) (.assign 3 (.bin .Add (.var 1) (.bin .Mod (.var 2) (.cint 91)))) [some (.lst (ns.map .int)), some (.int a), some (.int hd), none, none, none] σ = .ok (.next [some (.lst (ns.map .int)), some (.int a), some (.int hd), some (.int (a + hd % 91)), none, none]) σ := ex_assign (by (repeat' (first | exact ev_var rfl | exact ev_int | exact ev_gint | exact ev_str | exact ev_bool | exact ev_none | exact evs_nil | apply evs_cons | apply ev_add | apply ev_sub | apply ev_lt | apply ev_le | apply ev_gt | apply ev_ge | apply ev_eq | apply ev_ne | apply ev_max' | apply ev_min' | apply ev_mod | apply ev_div | apply ev_neg | apply not_tt | apply ev_tup | apply ev_lst | apply ev_idx | exact it_t0 | exact it_t1 | exact it_t2 | exact it_t3 | exact it_l0 | exact it_l1 | exact it_l2 | apply ev_bint | decide | omega)))
  obtain ⟨f, hf, s2⟩ := if_some (Φ := pre Pg 44) (c := .cmp .Eq (.bin .Mod (.call 0 [.var 0, .cint 9]) (.cint 4)) (.cint 1)) (e := .bin .Add (.var 1) (.call 2 [.call 0 [.var 0, .cint 9], .cint 15000])) (i := 3) (ρ := [some (.lst (ns.map .int)), some (.int a), some (.int hd), some (.int (a + hd % 91)), none, none]) (σ := σ) (fun z => a ≤ z ∧ z ≤ a + 15000) (ev_eq (ev_mod (cell _ 9 (by decide) (by decide) _) ev_int (by decide)) ev_int) (fun _ => by
    have h1 := mixed_nonneg (cellAt ns 9) 15000 (by decide)
    have h2 := mixed_lt (cellAt ns 9) 15000 (by decide)
    exact ⟨a + mixed (cellAt ns 9) 15000, by omega, ev_add (ev_var rfl) (x_fn (ev2 (cell _ 9 (by decide) (by decide) _) ev_int) (by decide) (F_mixed PB _ _ (by decide) _))⟩) rfl (by omega)
  have s3 : execS (pre Pg 44) (.assign 4 (.bin .Add (.cint 1) (.bin .Mod (.bin .FloorDiv (.var 2) (.cint 91)) (.cint 10)))) [some (.lst (ns.map .int)), some (.int a), some (.int hd), some (.int f), none, none] σ = .ok (.next [some (.lst (ns.map .int)), some (.int a), some (.int hd), some (.int f), some (.int (1 + hd / 91 % 10)), none]) σ := ex_assign (by (repeat' (first | exact ev_var rfl | exact ev_int | exact ev_gint | exact ev_str | exact ev_bool | exact ev_none | exact evs_nil | apply evs_cons | apply ev_add | apply ev_sub | apply ev_lt | apply ev_le | apply ev_gt | apply ev_ge | apply ev_eq | apply ev_ne | apply ev_max' | apply ev_min' | apply ev_mod | apply ev_div | apply ev_neg | apply not_tt | apply ev_tup | apply ev_lst | apply ev_idx | exact it_t0 | exact it_t1 | exact it_t2 | exact it_t3 | exact it_l0 | exact it_l1 | exact it_l2 | apply ev_bint | decide | omega)))
  obtain ⟨w, hw, hwi⟩ := item_ints (σ := σ) (is := [30, 900]) (k := hd / 910 % 2) (by omega) (by simp only [List.length_cons, List.length_nil]; omega) (by simp)
  simp only [List.mem_cons, List.not_mem_nil, or_false] at hw
  have s4 : execS (pre Pg 44) (.assign 5 (.idx (.lst false [.cint 30, .cint 900]) (.bin .Mod (.bin .FloorDiv (.var 2) (.cint 910)) (.cint 2)))) [some (.lst (ns.map .int)), some (.int a), some (.int hd), some (.int f), some (.int (1 + hd / 91 % 10)), none] σ = .ok (.next [some (.lst (ns.map .int)), some (.int a), some (.int hd), some (.int f), some (.int (1 + hd / 91 % 10)), some (.int w)]) σ := ex_assign (ev_idx (by (repeat' (first | exact ev_var rfl | exact ev_int | exact ev_gint | exact ev_str | exact ev_bool | exact ev_none | exact evs_nil | apply evs_cons | apply ev_add | apply ev_sub | apply ev_lt | apply ev_le | apply ev_gt | apply ev_ge | apply ev_eq | apply ev_ne | apply ev_max' | apply ev_min' | apply ev_mod | apply ev_div | apply ev_neg | apply not_tt | apply ev_tup | apply ev_lst | apply ev_idx | exact it_t0 | exact it_t1 | exact it_t2 | exact it_t3 | exact it_l0 | exact it_l1 | exact it_l2 | apply ev_bint | decide | omega))) (by (repeat' (first | exact ev_var rfl | exact ev_int | exact ev_gint | exact ev_str | exact ev_bool | exact ev_none | exact evs_nil | apply evs_cons | apply ev_add | apply ev_sub | apply ev_lt | apply ev_le | apply ev_gt | apply ev_ge | apply ev_eq | apply ev_ne | apply ev_max' | apply ev_min' | apply ev_mod | apply ev_div | apply ev_neg | apply not_tt | apply ev_tup | apply ev_lst | apply ev_idx | exact it_t0 | exact it_t1 | exact it_t2 | exact it_t3 | exact it_l0 | exact it_l1 | exact it_l2 | apply ev_bint | decide | omega))) hwi)
  obtain ⟨m, w2, hm, hw2, s5⟩ : ∃ m w2 : Int, (1 ≤ m ∧ m ≤ 400) ∧ (0 < w2 ∧ (m - 1) * w2 ≤ 80000) ∧ execS (pre Pg 44) (.ite (.cmp .Eq (.bin .Mod (.bin .FloorDiv (.var 2) (.cint 1820)) (.cint 8)) (.cint 1)) [.assign 4 (.bin .Add (.cint 1) (.bin .Mod (.bin .FloorDiv (.var 2) (.cint 14560)) (.cint 400))),
    .assign 5 (.cint 200)] []) [some (.lst (ns.map .int)), some (.int a), some (.int hd), some (.int f), some (.int (1 + hd / 91 % 10)), some (.int w)] σ = .ok (.next [some (.lst (ns.map .int)), some (.int a), some (.int hd), some (.int f), some (.int m), some (.int w2)]) σ := by
    have hc : evalE (pre Pg 44) [some (.lst (ns.map .int)), some (.int a), some (.int hd), some (.int f), some (.int (1 + hd / 91 % 10)), some (.int w)] (.cmp .Eq (.bin .Mod (.bin .FloorDiv (.var 2) (.cint 1820)) (.cint 8)) (.cint 1)) σ = .ok (.bool (decide (hd / 1820 % 8 = 1))) σ := by (repeat' (first | exact ev_var rfl | exact ev_int | exact ev_gint | exact ev_str | exact ev_bool | exact ev_none | exact evs_nil | apply evs_cons | apply ev_add | apply ev_sub | apply ev_lt | apply ev_le | apply ev_gt | apply ev_ge | apply ev_eq | apply ev_ne | apply ev_max' | apply ev_min' | apply ev_mod | apply ev_div | apply ev_neg | apply not_tt | apply ev_tup | apply ev_lst | apply ev_idx | exact it_t0 | exact it_t1 | exact it_t2 | exact it_t3 | exact it_l0 | exact it_l1 | exact it_l2 | apply ev_bint | decide | omega))
    by_cases h : hd / 1820 % 8 = 1
    · rw [decide_eq_true h] at hc
      exact ⟨1 + hd / 14560 % 400, 200, by omega, by omega, ex_ite hc (step (ex_assign (by (repeat' (first | exact ev_var rfl | exact ev_int | exact ev_gint | exact ev_str | exact ev_bool | exact ev_none | exact evs_nil | apply evs_cons | apply ev_add | apply ev_sub | apply ev_lt | apply ev_le | apply ev_gt | apply ev_ge | apply ev_eq | apply ev_ne | apply ev_max' | apply ev_min' | apply ev_mod | apply ev_div | apply ev_neg | apply not_tt | apply ev_tup | apply ev_lst | apply ev_idx | exact it_t0 | exact it_t1 | exact it_t2 | exact it_t3 | exact it_l0 | exact it_l1 | exact it_l2 | apply ev_bint | decide | omega)))) (step (ex_assign ev_int) ex_nil))⟩
    · rw [decide_eq_false h] at hc
      exact ⟨1 + hd / 91 % 10, w, by omega, by rcases hw with rfl | rfl <;> omega, ex_ite hc ex_nil⟩
  obtain ⟨ds, ob, hds, hlen, hbad⟩ := F_days PB P12 (4 * cellAt ns 5) f m w2 hw2.1 (by omega) (by omega) (by omega) (.inr (by omega)) σ
  cases ds with
  | nil => simp at hlen; omega
  | cons d ds =>
    refine ⟨d, ds, ob, ?_, by omega, daysBad_mono (by omega) hbad⟩
    rw [fn_has P44]
    exact callFn_ret rfl (step s0 (step s1 (step s2 (step s3 (step s4 (step s5 (ex_ret (x_fn (ev4 (ev_mull ev_int (cell _ 5 (by decide) (by decide) _) (by unfold Sml; omega)) (ev_var rfl) (ev_var rfl) (ev_var rfl)) (by decide) hds))))))))
theorem pow18 {σ : Store} : binV σ .Pow (.int 10) (.int 18) = some (.int (10 ^ 18)) := by
  show powF 10 18 = _
  unfold powF
  rw [if_pos (by decide)]
  rfl
theorem F_part_of (c s : Int) (hc : Builtin.Int.intBits c ≤ 2 ^ 20) (hs : 0 ≤ s) (σ : Store) : ∃ p, fn Pg 47 [.int c, .int s] σ = .ok (.int p) σ ∧ 1 ≤ p := by
  have s0 : execS (pre Pg 47) (.assign 2 (.lst false [.cint 1, .var 1, .bin .Add (.bin .Add (.var 1) (.bin .FloorDiv (.var 1) (.cint 4))) (.cint 1), .bin .Add (.bin .Pow (.cint 10) (.cint 18)) (.bin .Mod (.bin .Mult (.var 0) (.var 0)) (.bin .Pow (.cint 10) (.cint 40))), .bin .FloorDiv (.var 1) (.cint 2)])) [some (.int c), some (.int s), none] σ = .ok (.next [some (.int c), some (.int s), some (.lst ([1, s, s + s / 4 + 1, 10 ^ 18 + c * c % 10 ^ 40, s / 2].map .int))]) σ :=
    ex_assign (ev_lst (evs_cons ev_int (evs_cons (ev_var rfl) (evs_cons (by (repeat' (first | exact ev_var rfl | exact ev_int | exact ev_gint | exact ev_str | exact ev_bool | exact ev_none | exact evs_nil | apply evs_cons | apply ev_add | apply ev_sub | apply ev_lt | apply ev_le | apply ev_gt | apply ev_ge | apply ev_eq | apply ev_ne | apply ev_max' | apply ev_min' | apply ev_mod | apply ev_div | apply ev_neg | apply not_tt | apply ev_tup | apply ev_lst | apply ev_idx | exact it_t0 | exact it_t1 | exact it_t2 | exact it_t3 | exact it_l0 | exact it_l1 | exact it_l2 | apply ev_bint | decide | omega))) (evs_cons (ev_add (ev_bin ev_int ev_int pow18) (ev_mod (ev_bin (ev_var rfl) (ev_var rfl) (mul_sq hc)) (ev_bin ev_int ev_int pow40) (by decide))) (evs_cons (by (repeat' (first | exact ev_var rfl | exact ev_int | exact ev_gint | exact ev_str | exact ev_bool | exact ev_none | exact evs_nil | apply evs_cons | apply ev_add | apply ev_sub | apply ev_lt | apply ev_le | apply ev_gt | apply ev_ge | apply ev_eq | apply ev_ne | apply ev_max' | apply ev_min' | apply ev_mod | apply ev_div | apply ev_neg | apply not_tt | apply ev_tup | apply ev_lst | apply ev_idx | exact it_t0 | exact it_t1 | exact it_t2 | exact it_t3 | exact it_l0 | exact it_l1 | exact it_l2 | apply ev_bint | decide | omega))) evs_nil))))))
  have hcc : evalE (pre Pg 47) [some (.int c), some (.int s), some (.lst ([1, s, s + s / 4 + 1, 10 ^ 18 + c * c % 10 ^ 40, s / 2].map .int))] (.cmp .Eq (.bin .Mod (.bin .FloorDiv (.var 0) (.cint 5)) (.cint 3)) (.cint 1)) σ = .ok (.bool (decide (c / 5 % 3 = 1))) σ := by (repeat' (first | exact ev_var rfl | exact ev_int | exact ev_gint | exact ev_str | exact ev_bool | exact ev_none | exact evs_nil | apply evs_cons | apply ev_add | apply ev_sub | apply ev_lt | apply ev_le | apply ev_gt | apply ev_ge | apply ev_eq | apply ev_ne | apply ev_max' | apply ev_min' | apply ev_mod | apply ev_div | apply ev_neg | apply not_tt | apply ev_tup | apply ev_lst | apply ev_idx | exact it_t0 | exact it_t1 | exact it_t2 | exact it_t3 | exact it_l0 | exact it_l1 | exact it_l2 | apply ev_bint | decide | omega))
  rw [fn_has P47]
  by_cases h : c / 5 % 3 = 1
  · rw [decide_eq_true h] at hcc
    have h1 := Int.emod_nonneg (mixed c 2147483647 * 467) (show 2 * s + 2 ≠ 0 by omega)
    exact ⟨1 + mixed c 2147483647 * 467 % (2 * s + 2), callFn_ret rfl (step s0 (ret_step (ex_ite hcc (ex_ret (ev_add ev_int (ev_mod (ev_mulr (x_fn (ev2 (ev_var rfl) ev_int) (by decide) (F_mixed PB _ _ (by decide) _)) ev_int (by unfold Sml; omega)) (ev_add (ev_mull ev_int (ev_var rfl) (by unfold Sml; omega)) ev_int) (by omega))))))), by omega⟩
  · rw [decide_eq_false h] at hcc
    obtain ⟨z, _, hz⟩ := item_ints (σ := σ) (is := [1, s, s + s / 4 + 1, 10 ^ 18 + c * c % 10 ^ 40, s / 2]) (k := c % 5) (by omega) (by simp only [List.length_cons, List.length_nil]; omega) (by simp)
    exact ⟨max 1 z, callFn_ret rfl (step s0 (step (ex_ite hcc ex_nil) (ex_ret (ev_max' ev_int (ev_idx (ev_var rfl) (by (repeat' (first | exact ev_var rfl | exact ev_int | exact ev_gint | exact ev_str | exact ev_bool | exact ev_none | exact evs_nil | apply evs_cons | apply ev_add | apply ev_sub | apply ev_lt | apply ev_le | apply ev_gt | apply ev_ge | apply ev_eq | apply ev_ne | apply ev_max' | apply ev_min' | apply ev_mod | apply ev_div | apply ev_neg | apply not_tt | apply ev_tup | apply ev_lst | apply ev_idx | exact it_t0 | exact it_t1 | exact it_t2 | exact it_t3 | exact it_l0 | exact it_l1 | exact it_l2 | apply ev_bint | decide | omega))) hz))))), by omega⟩
theorem F_again {D : Int} {σ : Store} {src : V} {row : List (Int × Int)} {l b a : Int} (S : Sit D σ src row l b a) (d : Int) (ds : List Int) (hd : daysBad (a - 1) (d :: ds) = false) (hl : (d :: ds).length ≤ 400) (part : Int) (hp : 1 ≤ part) :
    ∃ τ, fn Pg 52 [.loc 1, .tup [.int l, .int b, .int a], src, .lst (intsV (d :: ds)), .int part, .int (costV row part (d :: ds) l b a)] σ = .ok (.bool true) (σ ++ τ) := by
  rw [fn_has P52]
  obtain ⟨due, hdue⟩ : ∃ due, due = costV row part (d :: ds) l b a := ⟨_, rfl⟩
  rw [← hdue]
  have hd0 := hd
  simp only [daysBad, Bool.or_eq_false_iff, decide_eq_false_iff_not] at hd0
  have hw := S.well.owed
  obtain ⟨ow, how⟩ : ∃ ow, ow = owedV l b := ⟨_, rfl⟩
  have s0 : execS (pre Pg 52) (.assign 6 (.call 8 [.idx (.var 1) (.cint 0), .idx (.var 1) (.cint 1)])) [some (.loc 1), some (.tup [.int l, .int b, .int a]), some src, some (.lst (intsV (d :: ds))), some (.int part), some (.int due), none, none, none, none] σ = .ok (.next [some (.loc 1), some (.tup [.int l, .int b, .int a]), some src, some (.lst (intsV (d :: ds))), some (.int part), some (.int due), some (.int ow), none, none, none]) σ := by
    rw [how]; exact ex_assign (x_fn (ev2 (ev_idx (ev_var rfl) ev_int it_t0) (ev_idx (ev_var rfl) ev_int it_t1)) (by decide) (F_lowed PR.owed _ _ _))
  have hc : evalE (pre Pg 52) [some (.loc 1), some (.tup [.int l, .int b, .int a]), some src, some (.lst (intsV (d :: ds))), some (.int part), some (.int due), some (.int ow), none, none, none] (.cmp .Eq (.var 6) (.cint 0)) σ = .ok (.bool (decide (ow = 0))) σ := by (repeat' (first | exact ev_var rfl | exact ev_int | exact ev_gint | exact ev_str | exact ev_bool | exact ev_none | exact evs_nil | apply evs_cons | apply ev_add | apply ev_sub | apply ev_lt | apply ev_le | apply ev_gt | apply ev_ge | apply ev_eq | apply ev_ne | apply ev_max' | apply ev_min' | apply ev_mod | apply ev_div | apply ev_neg | apply not_tt | apply ev_tup | apply ev_lst | apply ev_idx | exact it_t0 | exact it_t1 | exact it_t2 | exact it_t3 | exact it_l0 | exact it_l1 | exact it_l2 | apply ev_bint | decide | omega))
  by_cases h0 : ow = 0
  · rw [decide_eq_true h0] at hc
    exact ⟨[], by rw [List.append_nil]; exact callFn_ret rfl (step s0 (ret_step (ex_ite hc (ex_ret ev_bool))))⟩
  · rw [decide_eq_false h0] at hc
    obtain ⟨c, hcc⟩ : ∃ c, c = (ow + 1) / 2 := ⟨_, rfl⟩
    have hc1 : 1 ≤ c ∧ c ≤ ow := by omega
    have hg0 : b + l * gs a a row = b := by rw [gs_same]; simp
    obtain ⟨τ, hsv⟩ := F_saved PC S.lo S.well (by have := S.a1; omega) d ds hd hl part hp a c (Int.le_refl _) (by omega) hc1.1 (by rw [hg0, ← how]; exact hc1.2)
    rw [hg0, ← hdue] at hsv
    have W2 := S.well.paid hc1.1 (how ▸ hc1.2)
    have hpt := fun σ => F_lparts PR.parts l b c σ
    generalize partsV l b c = pv at *
    obtain ⟨p1, p2, p3, p4⟩ := pv
    dsimp only at hsv hpt W2
    have hoth := F_lcost PR P50 P51 S.own S.notup (d :: ds) W2 S.a0 hd part
    obtain ⟨other, ho⟩ : ∃ other, other = costV row part (d :: ds) p3 p4 a := ⟨_, rfl⟩
    rw [← ho] at hoth hsv
    have s2 : execS (pre Pg 52) (.assign 7 (.bin .FloorDiv (.bin .Add (.var 6) (.cint 1)) (.cint 2))) [some (.loc 1), some (.tup [.int l, .int b, .int a]), some src, some (.lst (intsV (d :: ds))), some (.int part), some (.int due), some (.int ow), none, none, none] σ = .ok (.next [some (.loc 1), some (.tup [.int l, .int b, .int a]), some src, some (.lst (intsV (d :: ds))), some (.int part), some (.int due), some (.int ow), some (.int c), none, none]) σ := by
      rw [hcc]; exact ex_assign (by (repeat' (first | exact ev_var rfl | exact ev_int | exact ev_gint | exact ev_str | exact ev_bool | exact ev_none | exact evs_nil | apply evs_cons | apply ev_add | apply ev_sub | apply ev_lt | apply ev_le | apply ev_gt | apply ev_ge | apply ev_eq | apply ev_ne | apply ev_max' | apply ev_min' | apply ev_mod | apply ev_div | apply ev_neg | apply not_tt | apply ev_tup | apply ev_lst | apply ev_idx | exact it_t0 | exact it_t1 | exact it_t2 | exact it_t3 | exact it_l0 | exact it_l1 | exact it_l2 | apply ev_bint | decide | omega)))
    refine ⟨τ, callFn_ret rfl (step s0 (step (ex_ite hc ex_nil) (step s2 (step (ex_assign (x_fn (ev3 (ev_idx (ev_var rfl) ev_int it_t0) (ev_idx (ev_var rfl) ev_int it_t1) (ev_var rfl)) (by decide) (hpt _))) (step (ex_assign (x_fn (ev4 (ev_tup (ev3 (ev_idx (ev_var rfl) ev_int it_t2) (ev_idx (ev_var rfl) ev_int it_t3) (ev_idx (ev_var rfl) ev_int it_t2))) (ev_var rfl) (ev_var rfl) (ev_var rfl)) (by decide) hoth)) (ex_ret ?_))))))⟩
    refine (ev_eq (x_fn (evs_cons (ev_var rfl) (ev4 (ev_var rfl) (ev_var rfl) (ev_idx (ev_var rfl) ev_int it_t2) (ev_var rfl))) (by decide) hsv) (ev_sub (ev_sub (ev_var rfl) (ev_var rfl)) (ev_var rfl))).trans ?_
    rw [decide_eq_true rfl]
theorem or_ff {Φ : Fns} {ρ : Loc} {a b : ME} {σ σ' : Store} (h1 : evalE Φ ρ a σ = .ok (.bool false) σ') (h2 : evalE Φ ρ b σ' = .ok (.bool false) σ') : evalE Φ ρ (.or [a, b]) σ = .ok (.bool false) σ' := by
  simp only [ee_var, ee_cint, ee_cstr, ee_cnone, ee_cbool, ee_gint, ee_gstr, ee_bin, ee_neg, ee_not, ee_and, ee_or, ee_cmp, ee_cmp2, ee_call, ee_bi, ee_copy, ee_isi, ee_make, ee_meth, ee_attr, ee_idx, ee_sliceTo, ee_sliceFrom, ee_tup, ee_lst, ee_sumAt, ee_rev, ee_strMul, eo_0, eo_1, h1, h2, R.bind, truth, ofOpt, Bool.false_eq_true, if_false]
theorem not_ts {Φ : Fns} {ρ : Loc} {a : ME} {σ σ' : Store} {p : Bool} (h1 : evalE Φ ρ a σ = .ok (.bool p) σ') : evalE Φ ρ (.not a) σ = .ok (.bool (!p)) σ' := by
  simp only [ee_var, ee_cint, ee_cstr, ee_cnone, ee_cbool, ee_gint, ee_gstr, ee_bin, ee_neg, ee_not, ee_and, ee_or, ee_cmp, ee_cmp2, ee_call, ee_bi, ee_copy, ee_isi, ee_make, ee_meth, ee_attr, ee_idx, ee_sliceTo, ee_sliceFrom, ee_tup, ee_lst, ee_sumAt, ee_rev, ee_strMul, h1, R.bind, truth, Option.map_some, ofOpt]
theorem law11 (ns : List Int) (hl : ns.length ≤ 63) (hb : ∀ n ∈ ns, Builtin.Int.intBits n ≤ 2 ^ 20) : ∃ σ', execB (pre Pg 84) b_law (some (.lst (ns.map .int)) :: List.replicate (s_law.length - 1) Option.none) [] = .ok (.ret (.bool true)) σ' := by
  show Ends (pre Pg 84) b_law [some (.lst (ns.map .int)), none, none, none, none, none, none, none, none, none, none, none, none, none, none, none, none, none, none, none, none] []
  have cell := fun (ρ : Loc) (k : Int) (h0 : 0 ≤ k) (hk : k < 100) (σ : Store) => ev_cell PB hl (N := 84) (by decide) (ρ := ρ) k h0 hk rfl σ
  obtain ⟨row0, hrow, hok, hn, hf, hdd⟩ := F_row_of (cellAt ns 1) []
  obtain ⟨l, b, a, row, src, hloan, S⟩ := F_loan_by PM P42 hl hok hn hf hdd
  refine .asg (x_fn (ev1 (cell _ 1 (by decide) (by decide) _)) (by decide) hrow) ?_
  refine .step (ex_unpack (x_fn (ev2 (ev_var rfl) (ev_var rfl)) (by decide) hloan) rfl) ?_
  refine .step (ex_unpack (ev_var rfl) rfl) ?_
  obtain ⟨σ₀, hσ₀⟩ : ∃ σ₀, σ₀ = st3 row0 row l b a := ⟨_, rfl⟩
  rw [← hσ₀] at S ⊢
  have hw := S.well.owed
  have ha1 := S.a1
  have ha0 := S.a0
  have hc : evalE (pre Pg 84) [some (.lst (ns.map .int)), some (src), some (.loc 1), some (.tup [.int l, .int b, .int a]), some (.int l), some (.int b), some (.int a), none, none, none, none, none, none, none, none, none, none, none, none, none, none] (.cmp .Eq (.call 8 [.var 4, .var 5]) (.cint 0)) σ₀ = .ok (.bool (decide (owedV l b = 0))) σ₀ := ev_eq (x_fn (ev2 (ev_var rfl) (ev_var rfl)) (by decide) (F_lowed PR.owed _ _ _)) ev_int
  by_cases h0 : owedV l b = 0
  · rw [decide_eq_true h0] at hc
    have hbad : daysBad (a - 1) [a] = false := by
      simp only [daysBad, Bool.or_eq_false_iff, decide_eq_false_iff_not]
      exact ⟨⟨by omega, by omega⟩, trivial⟩
    obtain ⟨τ, hcost⟩ := F_cost PC S.lo S.well (by omega) a [] hbad (by simp) 5 (by decide)
    have hz : costV row 5 [a] l b a = 0 := by
      obtain ⟨h1, h2⟩ := owed_none S.well.l0 S.well.b0 h0
      rw [h1, h2, costV, endV, gone_none]; rfl
    rw [hz] at hcost
    refine .yesRet hc (.ret (σ' := σ₀ ++ τ) ((ev_eq (x_fn (ev3 (ev_var rfl) (ev_lst (ev1 (ev_var rfl))) ev_int) (by decide) hcost) ev_int).trans ?_))
    rw [decide_eq_true rfl]
  · rw [decide_eq_false h0] at hc
    refine .no hc ?_
    obtain ⟨d, ds, ob, hdues, hlen, hbad⟩ := F_dues ns hl a S.a0 S.a1 σ₀
    refine .asg (x_fn (ev2 (ev_var rfl) (ev_var rfl)) (by decide) hdues) ?_
    have S1 := S.app [ob]
    obtain ⟨σ₁, hσ₁⟩ : ∃ σ₁, σ₁ = σ₀ ++ [ob] := ⟨_, rfl⟩
    rw [← hσ₁] at S1 ⊢
    have hd0 := hbad
    simp only [daysBad, Bool.or_eq_false_iff, decide_eq_false_iff_not] at hd0
    have hlenD : ∀ σ, biV σ .len [.lst (intsV (d :: ds))] = some (.int ((d :: ds).length : Int)) := fun σ => len_l (by rw [List.length_map]; exact Nat.le_trans hlen (by decide)) (by rw [List.length_map])
    have hlp : 0 < ((d :: ds).length : Int) := by simp only [List.length_cons]; omega
    have hshare : 0 ≤ l / ((d :: ds).length : Int) := Int.ediv_nonneg S.well.l0 (by omega)
    obtain ⟨part, hpart, hp1⟩ := F_part_of (cellAt ns 6) (l / ((d :: ds).length : Int)) (bits_cell hb 6) hshare σ₁
    refine .asg (x_fn (ev2 (cell _ 6 (by decide) (by decide) _) (ev_div (ev_var rfl) (ev_len (ev_var rfl) (hlenD _)) hlp)) (by decide) hpart) ?_
    obtain ⟨day, hday⟩ : ∃ day, day = a + cellAt ns 7 % (d - a + 1) := ⟨_, rfl⟩
    have hdp : 0 < d - a + 1 := by omega
    have hdy : a ≤ day ∧ day ≤ d := by
      have h1 := Int.emod_nonneg (cellAt ns 7) (show d - a + 1 ≠ 0 by omega)
      have h2 := Int.emod_lt_of_pos (cellAt ns 7) hdp
      omega
    refine .asg (v := .int day) (by rw [hday]; exact ev_add (ev_var rfl) (ev_mod (cell _ 7 (by decide) (by decide) _) (ev_add (ev_sub (ev_idx (ev_var rfl) ev_int it_l0) (ev_var rfl)) ev_int) hdp)) ?_
    have hsum := F_sumW PR.sum S1.well S1.own S1.notup S1.a0 hdy.1
    have VW := S1.well.later a day
    have hgg := Int.mul_nonneg S1.well.l0 (RowOk.sumLow (s := a) (e := day) S1.well.ok)
    obtain ⟨th, hth⟩ : ∃ th, th = b + l * gs a day row := ⟨_, rfl⟩
    rw [← hth] at VW
    refine .asg (v := .int th) (by rw [hth]; exact ev_add (ev_var rfl) (ev_mull (ev_var rfl) (x_fn (ev3 (ev_var rfl) (ev_var rfl) (ev_var rfl)) (by decide) hsum) S1.well.sml)) ?_
    obtain ⟨ow, how⟩ : ∃ ow, ow = owedV l th := ⟨_, rfl⟩
    have how1 : 1 ≤ ow := by
      generalize l * gs a day row = g at *
      rw [how]; unfold owedV at h0 hw ⊢; omega
    refine .asg (v := .int ow) (by rw [how]; exact x_fn (ev2 (ev_var rfl) (ev_var rfl)) (by decide) (F_lowed PR.owed _ _ _)) ?_
    obtain ⟨ways, hways⟩ : ∃ ways, ways = cellAt ns 8 := ⟨_, rfl⟩
    refine .asg (v := .int ways) (by rw [hways]; exact cell _ 8 (by decide) (by decide) _) ?_
    have hmo : 0 ≤ mixed ways 2147483647 * 467 % ow ∧ mixed ways 2147483647 * 467 % ow < ow := ⟨Int.emod_nonneg _ (by omega), Int.emod_lt_of_pos _ (by omega)⟩
    obtain ⟨z, hz, hzi⟩ := item_ints (σ := σ₁) (is := [1, ow / 100, ow, 1 + mixed ways 2147483647 * 467 % ow]) (k := ways % 4) (by omega) (by simp only [List.length_cons, List.length_nil]; omega) (by simp)
    simp only [List.mem_cons, List.not_mem_nil, or_false] at hz
    obtain ⟨cents, hcents⟩ : ∃ c, c = max 1 z := ⟨_, rfl⟩
    have hc1 : 1 ≤ cents ∧ cents ≤ ow := by
      generalize mixed ways 2147483647 * 467 % ow = mm at *
      omega
    refine .asg (v := .int cents) (by
      rw [hcents]
      exact ev_max' ev_int (ev_idx (ev_lst (evs_cons ev_int (evs_cons (by (repeat' (first | exact ev_var rfl | exact ev_int | exact ev_gint | exact ev_str | exact ev_bool | exact ev_none | exact evs_nil | apply evs_cons | apply ev_add | apply ev_sub | apply ev_lt | apply ev_le | apply ev_gt | apply ev_ge | apply ev_eq | apply ev_ne | apply ev_max' | apply ev_min' | apply ev_mod | apply ev_div | apply ev_neg | apply not_tt | apply ev_tup | apply ev_lst | apply ev_idx | exact it_t0 | exact it_t1 | exact it_t2 | exact it_t3 | exact it_l0 | exact it_l1 | exact it_l2 | apply ev_bint | decide | omega))) (evs_cons (ev_var rfl) (evs_cons (ev_add ev_int (ev_mod (ev_mulr (x_fn (ev2 (ev_var rfl) ev_int) (by decide) (F_mixed PB _ _ (by decide) _)) ev_int (by unfold Sml; omega)) (ev_var rfl) (by omega))) evs_nil))))) (by (repeat' (first | exact ev_var rfl | exact ev_int | exact ev_gint | exact ev_str | exact ev_bool | exact ev_none | exact evs_nil | apply evs_cons | apply ev_add | apply ev_sub | apply ev_lt | apply ev_le | apply ev_gt | apply ev_ge | apply ev_eq | apply ev_ne | apply ev_max' | apply ev_min' | apply ev_mod | apply ev_div | apply ev_neg | apply not_tt | apply ev_tup | apply ev_lst | apply ev_idx | exact it_t0 | exact it_t1 | exact it_t2 | exact it_t3 | exact it_l0 | exact it_l1 | exact it_l2 | apply ev_bint | decide | omega))) hzi)) ?_
    refine .asg (x_copyF (ev_var rfl) (by rw [List.length_map]; omega)) ?_
    refine .asg ev_none ?_
    obtain ⟨due, hdue⟩ : ∃ due, due = costV row part (d :: ds) l b a := ⟨_, rfl⟩
    have hc4 : cents ≤ owedV l (b + l * gs a day row) := by rw [← hth, ← how]; exact hc1.2
    have hsl := saved_low (ds := ds) S1.well hp1 hdy.1 hdy.2 hc1.1 hc4
    have W2 := VW.paid hc1.1 (how ▸ hc1.2)
    have hsv := fun τ => F_saved PC (S1.app τ).lo S1.well (by omega) d ds hbad hlen part hp1 day cents hdy.1 hdy.2 hc1.1 hc4
    have hcs := fun τ => F_cost PC (S1.app τ).lo S1.well (by omega) d ds hbad hlen part hp1
    have hpt := fun σ => F_lparts PR.parts l th cents σ
    rw [← hth] at hsl hsv
    generalize partsV l th cents = pv at *
    obtain ⟨q1, q2, q3, q4⟩ := pv
    dsimp only at hsl hsv hpt W2
    obtain ⟨other, hother⟩ : ∃ other, other = costV row part (d :: ds) q3 q4 day := ⟨_, rfl⟩
    rw [← hdue] at hsl hsv hcs
    rw [← hother] at hsl hsv
    obtain ⟨found, hfound⟩ : ∃ found, found = due - cents - other := ⟨_, rfl⟩
    rw [← hfound] at hsl hsv
    have hwc : ∀ σ (z : Int) (x15 x16 : Option V), (z = 0 ∨ z = 1) → evalE (pre Pg 84) [some (.lst (ns.map .int)), some (src), some (.loc 1), some (.tup [.int l, .int b, .int a]), some (.int l), some (.int b), some (.int a), some (.lst (intsV (d :: ds))), some (.int part), some (.int day), some (.int th), some (.int ow), some (.int ways), some (.int cents), some (.lst (intsV (d :: ds))), x15, x16, none, none, none, none] (.cmp .Eq (.bin .Mod (.bin .FloorDiv (.var 12) (.cint 4)) (.cint 2)) (.cint z)) σ = .ok (.bool (decide (ways / 4 % 2 = z))) σ := fun σ z x15 x16 _ => by (repeat' (first | exact ev_var rfl | exact ev_int | exact ev_gint | exact ev_str | exact ev_bool | exact ev_none | exact evs_nil | apply evs_cons | apply ev_add | apply ev_sub | apply ev_lt | apply ev_le | apply ev_gt | apply ev_ge | apply ev_eq | apply ev_ne | apply ev_max' | apply ev_min' | apply ev_mod | apply ev_div | apply ev_neg | apply not_tt | apply ev_tup | apply ev_lst | apply ev_idx | exact it_t0 | exact it_t1 | exact it_t2 | exact it_t3 | exact it_l0 | exact it_l1 | exact it_l2 | apply ev_bint | decide | omega))
    obtain ⟨τ, hmid⟩ : ∃ τ, ∀ r, Ends (pre Pg 84) r [some (.lst (ns.map .int)), some (src), some (.loc 1), some (.tup [.int l, .int b, .int a]), some (.int l), some (.int b), some (.int a), some (.lst (intsV (d :: ds))), some (.int part), some (.int day), some (.int th), some (.int ow), some (.int ways), some (.int cents), some (.lst (intsV (d :: ds))), some (.int due), some (.int found), none, none, none, none] (σ₁ ++ τ) → Ends (pre Pg 84) (.ite (.cmp .Eq (.bin .Mod (.bin .FloorDiv (.var 12) (.cint 4)) (.cint 2)) (.cint 1)) [.assign 15 (.call 36 [.var 2, .var 14, .var 8])] [] ::
        .assign 16 (.call 37 [.var 2, .var 14, .var 8, .var 9, .var 13]) ::
        .ite (.cmp .Eq (.bin .Mod (.bin .FloorDiv (.var 12) (.cint 4)) (.cint 2)) (.cint 0)) [.assign 15 (.call 36 [.var 2, .var 14, .var 8])] [] :: r) [some (.lst (ns.map .int)), some (src), some (.loc 1), some (.tup [.int l, .int b, .int a]), some (.int l), some (.int b), some (.int a), some (.lst (intsV (d :: ds))), some (.int part), some (.int day), some (.int th), some (.int ow), some (.int ways), some (.int cents), some (.lst (intsV (d :: ds))), some (.none), none, none, none, none, none] σ₁ := by
      by_cases hp : ways / 4 % 2 = 1
      · obtain ⟨τ, h1⟩ := hcs []
        rw [List.append_nil] at h1
        obtain ⟨τ', h2⟩ := hsv τ
        refine ⟨τ ++ τ', fun r k => ?_⟩
        rw [← List.append_assoc] at k
        refine .yes ((hwc _ _ _ _ (.inr rfl)).trans (by rw [decide_eq_true hp])) (step (ex_assign (x_fn (ev3 (ev_var rfl) (ev_var rfl) (ev_var rfl)) (by decide) h1)) ex_nil) ?_
        refine .asg (x_fn (evs_cons (ev_var rfl) (ev4 (ev_var rfl) (ev_var rfl) (ev_var rfl) (ev_var rfl))) (by decide) h2) ?_
        exact .no ((hwc _ _ _ _ (.inl rfl)).trans (by rw [decide_eq_false (by omega)])) k
      · obtain ⟨τ, h1⟩ := hsv []
        rw [List.append_nil] at h1
        obtain ⟨τ', h2⟩ := hcs τ
        refine ⟨τ ++ τ', fun r k => ?_⟩
        rw [← List.append_assoc] at k
        refine .no ((hwc _ _ _ _ (.inr rfl)).trans (by rw [decide_eq_false hp])) ?_
        refine .asg (x_fn (evs_cons (ev_var rfl) (ev4 (ev_var rfl) (ev_var rfl) (ev_var rfl) (ev_var rfl))) (by decide) h1) ?_
        exact .yes ((hwc _ _ _ _ (.inl rfl)).trans (by rw [decide_eq_true (by omega)])) (step (ex_assign (x_fn (ev3 (ev_var rfl) (ev_var rfl) (ev_var rfl)) (by decide) h2)) ex_nil) k
    refine hmid _ ?_
    have S2 := S1.app τ
    obtain ⟨σ₂, hσ₂⟩ : ∃ σ₂, σ₂ = σ₁ ++ τ := ⟨_, rfl⟩
    rw [← hσ₂] at S2 ⊢
    have hlc := F_lcost PR P50 P51 S2.own S2.notup (d :: ds) S2.well S2.a0 hbad part
    rw [← hdue] at hlc
    have hbad' : daysBad (day - 1) (d :: ds) = false := by
      simp only [daysBad, Bool.or_eq_false_iff, decide_eq_false_iff_not]
      exact ⟨⟨by omega, by omega⟩, hd0.2⟩
    have hlo := F_lcost PR P50 P51 S2.own S2.notup (d :: ds) W2 (show 0 ≤ day by omega) hbad' part
    rw [← hother] at hlo
    refine .asg (x_fn (ev4 (ev_var rfl) (ev_var rfl) (ev_var rfl) (ev_var rfl)) (by decide) hlc) ?_
    refine .asg (x_fn (ev3 (ev_var rfl) (ev_var rfl) (ev_var rfl)) (by decide) (hpt _)) ?_
    refine .asg (x_fn (ev4 (ev_tup (ev3 (ev_idx (ev_var rfl) ev_int it_t2) (ev_idx (ev_var rfl) ev_int it_t3) (ev_var rfl))) (ev_var rfl) (ev_var rfl) (ev_var rfl)) (by decide) hlo) ?_
    refine .no (or4 (not_tt (p := true) (x_fn (ev1 (ev_var rfl)) (by decide) (F_whole PW _ _))) ((ev_ne (ev_var rfl) (ev_var rfl)).trans (by rw [decide_eq_false (fun h => h rfl)])) (not_tt (p := true) (x_fn (ev1 (ev_var rfl)) (by decide) (F_whole PW _ _))) ((ev_lt (ev_var rfl) ev_int).trans (by rw [decide_eq_false (by omega)]))) ?_
    have hq := S2.cNe PL (N := 84) (ρ := [some (.lst (ns.map .int)), some (src), some (.loc 1), some (.tup [.int l, .int b, .int a]), some (.int l), some (.int b), some (.int a), some (.lst (intsV (d :: ds))), some (.int part), some (.int day), some (.int th), some (.int ow), some (.int ways), some (.int cents), some (.lst (intsV (d :: ds))), some (.int due), some (.int found), some (.int due), some (.tup [.int q1, .int q2, .int q3, .int q4]), some (.int other), none]) (il := 2) (ir := 1) (is := 3) rfl rfl rfl
    refine .no (or3 (p := false) (q := false) (r := false) (ints_ne rfl rfl).1 hq.1 hq.2.1) ?_
    obtain ⟨σ₃, l', b', row', src', hmore, S3, _⟩ := F_done_more PM P45 S2 (cellAt ns 12)
    refine .step (ex_unpack (x_fn (ev4 (ev_var rfl) (ev_var rfl) (ev_var rfl) (cell _ 12 (by decide) (by decide) _)) (by decide) hmore) rfl) ?_
    have hlc' := F_lcost PR P50 P51 S3.own S3.notup (d :: ds) S3.well S3.a0 hbad part
    obtain ⟨τ₃, hcs'⟩ := F_cost PC S3.lo S3.well (by omega) d ds hbad hlen part hp1
    have S4 := S3.app τ₃
    obtain ⟨τ₄, hag⟩ := F_again S4 d ds hbad hlen part hp1
    have S5 := S4.app τ₄
    obtain ⟨again, hagain⟩ : ∃ again, again = costV row' part (d :: ds) l' b' a := ⟨_, rfl⟩
    rw [← hagain] at hlc' hcs' hag
    obtain ⟨σ₄, hσ₄⟩ : ∃ σ₄, σ₄ = σ₃ ++ τ₃ := ⟨_, rfl⟩
    rw [← hσ₄] at hcs' S4 hag S5
    obtain ⟨σ₅, hσ₅⟩ : ∃ σ₅, σ₅ = σ₄ ++ τ₄ := ⟨_, rfl⟩
    rw [← hσ₅] at hag S5
    refine .asg (x_fn (ev4 (ev_var rfl) (ev_var rfl) (ev_var rfl) (ev_var rfl)) (by decide) hlc') ?_
    refine .no (σ' := σ₄) (or_ff ((ev_ne (x_fn (ev3 (ev_var rfl) (ev_var rfl) (ev_var rfl)) (by decide) hcs') (ev_var rfl)).trans (by rw [decide_eq_false (fun h => h rfl)])) ((ev_ne (ev_var rfl) (ev_sub (ev_sub (ev_var rfl) (ev_var rfl)) (ev_var rfl))).trans (by rw [decide_eq_false (fun h => h hfound)]))) ?_
    refine .no (σ' := σ₅) (not_ts (p := true) (x_fn (evs_cons (ev_var rfl) (evs_cons (ev_var rfl) (ev4 (ev_var rfl) (ev_var rfl) (ev_var rfl) (ev_var rfl)))) (by decide) hag)) ?_
    show Ends (pre Pg 84) [_] [some (.lst (ns.map .int)), some (src'), some (.loc 1), some (.tup [.int l', .int b', .int a]), some (.int l), some (.int b), some (.int a), some (.lst (intsV (d :: ds))), some (.int part), some (.int day), some (.int th), some (.int ow), some (.int ways), some (.int cents), some (.lst (intsV (d :: ds))), some (.int due), some (.int found), some (.int due), some (.tup [.int q1, .int q2, .int q3, .int q4]), some (.int other), some (.int again)] σ₅
    have hq' := S5.cNe PL (N := 84) (ρ := [some (.lst (ns.map .int)), some (src'), some (.loc 1), some (.tup [.int l', .int b', .int a]), some (.int l), some (.int b), some (.int a), some (.lst (intsV (d :: ds))), some (.int part), some (.int day), some (.int th), some (.int ow), some (.int ways), some (.int cents), some (.lst (intsV (d :: ds))), some (.int due), some (.int found), some (.int due), some (.tup [.int q1, .int q2, .int q3, .int q4]), some (.int other), some (.int again)]) (il := 2) (ir := 1) (is := 3) rfl rfl rfl
    exact .ret (and3 (ints_ne rfl rfl).2 hq'.2.2.1 hq'.2.2.2)
end Mine


open PySem PySem.W PyProof.Rows
set_option Elab.async false
set_option maxRecDepth 100000
set_option maxHeartbeats 8000000
set_option linter.unusedVariables false
namespace Mine
noncomputable def Zt : Nms := { classes := Pg.classes, attrs := ["rates", "left", "begun", "day"], nd := by decide }
noncomputable def cx (prog : Program) (w : World) (K : Frag) (p : Program) (loose : List Str) (mean : ExcName → Option Value) (mg mb : Str → Option Value) (B : Heap) : Cx := ⟨prog, w, K, p, loose, mean, mg, mb, ⟨B, Tt.xs.map (·.2)⟩, Tt, Mt, Zt⟩
theorem weight_le {l : List PyData} {d : PyData} (h : d ∈ l) : PyData.weight d ≤ PyData.weightAll l := by
  induction l with
  | nil => cases h
  | cons x l ih =>
    rw [PyData.weightAll]
    rcases List.mem_cons.mp h with rfl | h
    · omega
    · have := ih h; omega
theorem bits_ns {ns : List Int} (h : (PyData.list (ns.map PyData.int)).layable0 = true) : ∀ n ∈ ns, Builtin.Int.intBits n ≤ 2 ^ 20 := by
  intro n hn
  simp only [PyData.layable0, Bool.and_eq_true, decide_eq_true_eq] at h
  have hw := h.2
  rw [PyData.weight] at hw
  have := weight_le (List.mem_map_of_mem (f := PyData.int) hn)
  exact Nat.le_trans (show Builtin.Int.intBits n ≤ _ from this) hw
noncomputable def numsOf {vs : List Value} {ns : List Int} (_ : IntsAre vs ns) : List Int := ns
theorem both {α β γ : Type} {o : Option α} {f : α → β} {g : α → γ} {b : β} {c : γ} (h1 : o.map f = some b) (h2 : o.map g = some c) : o.map (fun s => (f s, g s)) = some (b, c) := by
  cases o with
  | none => cases h1
  | some a => cases h1; cases h2; rfl
theorem hl : LeftO PySem.Challenge.rw_uf050010_11.row.prog qv ["MOST_AMOUNT"] xt hk.obs hk.val 5272 := fun w => both (hl1 w) (hl2 w)
end Mine
theorem PySem.Challenge.cw_uf050010_11_holds : PySem.Challenge.rw_uf050010_11.Holds := by
  w_on
  refine holds_law (by decide +kernel) fun said => ?_
  refine holds_open (q := Mine.qv) (loose := ["MOST_AMOUNT"]) (Xt := Mine.xt) (XP := XL Mine.qv Mine.lvs) (YP := Mine.hk.says) (N := 5272) Mine.hl Mine.hk.of Mine.hk.keeps (fun s e => xl_of s (Bool.and_eq_true_iff.mp e).1) XL.keeps (by rfl) (by rfl) (by rfl) (fun s e => recFacts_of (Bool.and_eq_true_iff.mp e).2) (by rfl) (by first | assumption | decide +kernel) (by decide +kernel) ⟨rfl, rfl, rfl, rfl, rfl, by decide +kernel⟩ ?hw ?hc
  case hw => w_witness2
  intro w s₀ s₁ mg mb G Y fa o pm cd doc dV kV ho hd hcd hD hmg hg args vals as hpre hlay hrd hwl hlo
  obtain ⟨K, KX, CK⟩ := Y
  refine Ground.open G ?_
  intro T B D TE TW
  try (refine guard_noD D (by decide +kernel) ?_; clear D)
  obtain ⟨_, _, M⟩ := bmod_of_top T
  have TA := at_of_top T
  try (obtain ⟨_, _, he, B0⟩ := based_of_top T rfl hmg ho hd; have he' : cd = _ := he; subst he'; clear he)
  clear hmg
  wrow_args hpre hlay hrd hwl hlo
  all_goals (
    first | refine callC_kw (enter_call ?_) | refine enter_call ?_ | refine callC_kw (enter_callW ?_) | refine enter_callW ?_ | w_how
    w_top on
    try refine codeAny_mono ?_ (fun _ _ g => GoodW.toG g)
    have K0 := below_caller (Top.heap T)
    w_call any ho hd hcd hD T F
    clear hd TA
    k_drop
    skip)
  rename Top _ _ _ _ _ _ => T
  rename Below _ _ _ _ => K0
  rename Fr _ _ _ _ => F
  rename IntsAre _ _ => hI
  rename Heap.IsList _ _ _ => hL
  rename PyData.layable0 _ = true => hW
  obtain ⟨σ', res⟩ := Mine.law11 (Mine.numsOf hI) (by unfold Mine.numsOf; omega) (Mine.bits_ns hW)
  refine Mine.run_chk (n := 84) (c := Mine.cx _ _ K Mine.qv _ _ _ _ _) rfl rfl rfl CK rfl T KX K0 F rfl hL hI (S := Mine.s_law) rfl rfl (by decide) (by decide) rfl rfl rfl (show importsNone Mine.qv = true by decide +kernel) (by rfl) (by rfl) (by decide) res ?_
  intro h' tk m' F'
  wrow_close
