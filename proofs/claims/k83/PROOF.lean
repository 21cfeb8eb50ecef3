import PyProof.Rows.All
import Wide.All
import OpenK.AllK
import Wide.FinOn
import KE.DataEq
import HandS.ForMost
import HandS.ForExc
import HandS.Wide
import HandS.TupAny
import HandS.TupMul
import HandS.Style
import HandS.CallSlots
import HandS.Conv
import KE.KTupSum
import HandS.Defaults
import HandS.Small
import HandS.TupLen
import HandS.WordsDict
import HandS.IsInst
import HandS.RaiseMore
import HandS.More
import HandS.SortKw
import HandS.TupSets
import KE.DataMinMax
import KE.GoesEnum
import HandS.Exc
import HandS.ExcOwn
import HandS.ExcInit
import KE.KExcSuper
import HandS.TryMany
import HandS.ExcField
import KE.KStateDown
import HandS.Ends
import HandS.Head0
import HandS.Head1
import HandS.Head2
import HandS.HeadEnd
import HandS.HeadHook1
import HandS.HeadHook2
import HandS.HeadWalk
import KE.KDictList
import HandS.Sort
import PyProof.Rows.GenSrcRange
import KE.KEqDeep
import PySem.Challenge.RW_touchtowers_k83_whole_products_of_factor
section
set_option Elab.async false
set_option linter.all false
set_option maxRecDepth 100000
/-! M1: the machine: values, stores, results, and what each construct does with them. Plain Lean, no program. -/
namespace Mc
open PySem

/-- a value: what never changes is written out, what may change stands in the store -/
inductive AV where
  | non | bl (b : Bool) | int (i : Int) | str (s : Str) | tup (xs : List AV) | ref (a : Nat) | glo (x : Str) | ty (n : String)
/-- what stands in the store -/
inductive AO where
  | lst (lk : Bool) (xs : List AV)
  | dct (lk : Bool) (kvs : List (AV × AV))
abbrev Sto := List AO
abbrev Env := List (Option AV)
inductive Res (α : Type) where
  | ok (v : α) (S : Sto)
  | ex (c : Str) (p : Option (Str × AV)) (S : Sto)
  | bad
def Res.bind {α β : Type} (r : Res α) (g : α → Sto → Res β) : Res β := match r with
  | .ok v S => g v S
  | .ex c p S => .ex c p S
  | .bad => .bad
@[simp] theorem Res.bind_ok {α β : Type} (v : α) (S : Sto) (g : α → Sto → Res β) : (Res.ok v S).bind g = g v S := rfl
@[simp] theorem Res.bind_ex {α β : Type} (c : Str) (p : Option (Str × AV)) (S : Sto) (g : α → Sto → Res β) : (Res.ex c p S : Res α).bind g = .ex c p S := rfl
@[simp] theorem Res.bind_bad {α β : Type} (g : α → Sto → Res β) : (Res.bad : Res α).bind g = .bad := rfl
/-- how a statement ends -/
inductive SR where
  | nx (r : Env) (S : Sto)
  | ret (v : AV) (S : Sto)
  | brk (r : Env) (S : Sto)
  | cnt (r : Env) (S : Sto)
  | ex (c : Str) (p : Option (Str × AV)) (r : Env) (S : Sto)
  | bad
abbrev DE := Env → Sto → Res AV
abbrev DT := Env → Sto → Res Bool
abbrev DA := Env → Sto → Res (List AV)
abbrev DS := Env → Sto → SR
abbrev DF := List AV → Sto → Res AV
/-- an expression's result, then a statement's end -/
def Res.thn {α : Type} (r : Res α) (e : Env) (g : α → Sto → SR) : SR := match r with
  | .ok v S => g v S
  | .ex c p S => .ex c p e S
  | .bad => .bad
@[simp] theorem Res.thn_ok {α : Type} (v : α) (S : Sto) (e : Env) (g : α → Sto → SR) : (Res.ok v S).thn e g = g v S := rfl
@[simp] theorem Res.thn_ex {α : Type} (c : Str) (p : Option (Str × AV)) (S : Sto) (e : Env) (g : α → Sto → SR) : (Res.ex c p S : Res α).thn e g = .ex c p e S := rfl
@[simp] theorem Res.thn_bad {α : Type} (e : Env) (g : α → Sto → SR) : (Res.bad : Res α).thn e g = .bad := rfl

/-! ### data, equality, truth -/
def optAll {α : Type} : List (Option α) → Option (List α)
  | [] => some []
  | none :: _ => none
  | some x :: r => match optAll r with
    | some xs => some (x :: xs)
    | none => none
/-- the value as data (no dict within), lists read from the store -/
def AV.dat : Nat → Sto → AV → Option PyData
  | 0, _, _ => none
  | n + 1, S, v => match v with
    | .non => some .none
    | .bl b => some (.bool b)
    | .int i => some (.int i)
    | .str s => some (.str s)
    | .tup xs => (optAll (xs.map (AV.dat n S))).map .tuple
    | .ref a => (match S[a]? with
      | some (.lst _ xs) => (optAll (xs.map (AV.dat n S))).map .list
      | _ => none)
    | _ => none
def DEPTH : Nat := 12
def eqA (S : Sto) (x y : AV) : Option Bool := match x.dat DEPTH S, y.dat DEPTH S with
  | some d, some e => some (PyData.eqv d e)
  | _, _ => none
def truA (S : Sto) (v : AV) : Option Bool := match v with
  | .non => some false
  | .bl b => some b
  | .int i => some (i != 0)
  | .str s => if s.length ≤ sizeLine then some ((s.length : Int) != 0) else none
  | .tup xs => some (!xs.isEmpty)
  | .ref a => (match S[a]? with
    | some (.lst _ xs) => some (!xs.isEmpty)
    | _ => none)
  | _ => none
def ofO {α : Type} (S : Sto) (o : Option α) : Res α := match o with
  | some v => .ok v S
  | none => .bad
@[simp] theorem ofO_some {α : Type} (S : Sto) (v : α) : ofO S (some v) = .ok v S := rfl
/-- a new object -/
def new (S : Sto) (o : AO) : Res AV := .ok (.ref S.length) (S ++ [o])

/-! ### expressions -/
def eLoc (i : Nat) : DE := fun r S => match r[i]? with
  | some (some v) => .ok v S
  | _ => .bad
def eK (v : AV) : DE := fun _ S => .ok v S
def e1 (f : AV → Sto → Res AV) (a : DE) : DE := fun r S => (a r S).bind f
def e2 (f : AV → AV → Sto → Res AV) (a b : DE) : DE := fun r S => (a r S).bind fun x S1 => (b r S1).bind fun y S2 => f x y S2
def eT (t : DT) : DE := fun r S => (t r S).bind fun b S1 => .ok (.bl b) S1
/-- argument lists -/
def aNil : DA := fun _ S => .ok [] S
def aCons (a : DE) (t : DA) : DA := fun r S => (a r S).bind fun x S1 => (t r S1).bind fun xs S2 => .ok (x :: xs) S2
/-- a call by its values -/
def eCall (f : List AV → Sto → Res AV) (t : DA) : DE := fun r S => (t r S).bind f
def eTup (t : DA) : DE := fun r S => (t r S).bind fun xs S1 => if xs.length ≤ sizeLine then .ok (.tup xs) S1 else .bad
def eLst (t : DA) : DE := fun r S => (t r S).bind fun xs S1 => if xs.length ≤ sizeLine then new S1 (.lst false xs) else .bad
def eIf (c : DT) (a b : DE) : DE := fun r S => (c r S).bind fun k S1 => if k = true then a r S1 else b r S1
/-- x and y, x or y as values that are True or False -/
def eAndB (a b : DE) : DE := fun r S => (a r S).bind fun x S1 => match x with
  | .bl k => if k = true then b r S1 else .ok (.bl false) S1
  | _ => .bad
def eOrB (a b : DE) : DE := fun r S => (a r S).bind fun x S1 => match x with
  | .bl k => if k = true then .ok (.bl true) S1 else b r S1
  | _ => .bad
def eNotB (a : DE) : DE := fun r S => (a r S).bind fun x S1 => match x with
  | .bl k => .ok (.bl (!k)) S1
  | _ => .bad

/-! ### tests -/
/-- any value by its truth -/
def tV (a : DE) : DT := fun r S => (a r S).bind fun x S1 => ofO S1 (truA S1 x)
/-- a value that is True or False -/
def tB (a : DE) : DT := fun r S => (a r S).bind fun x S1 => match x with
  | .bl k => .ok k S1
  | _ => .bad
def tAnd (a b : DT) : DT := fun r S => (a r S).bind fun k S1 => if k = true then b r S1 else .ok false S1
def tOr (a b : DT) : DT := fun r S => (a r S).bind fun k S1 => if k = true then .ok true S1 else b r S1
def tNot (a : DT) : DT := fun r S => (a r S).bind fun k S1 => .ok (!k) S1

/-! ### statements -/
def sNil : DS := fun r S => .nx r S
def sSeq (a b : DS) : DS := fun r S => match a r S with
  | .nx r1 S1 => b r1 S1
  | x => x
def sIf (c : DT) (a b : DS) : DS := fun r S => (c r S).thn r fun k S1 => if k = true then a r S1 else b r S1
def sRet (a : DE) : DS := fun r S => (a r S).thn r fun v S1 => .ret v S1
def sExpr (a : DE) : DS := fun r S => (a r S).thn r fun _ S1 => .nx r S1
def sBrk : DS := fun r S => .brk r S
def sCnt : DS := fun r S => .cnt r S
/-- a target -/
abbrev DG := AV → Env → Sto → SR
def gNm (i : Nat) : DG := fun v r S => .nx (r.set i (some v)) S
def sAsg (a : DE) (g : DG) : DS := fun r S => (a r S).thn r fun v S1 => g v r S1
/-- a, b = x, y of plain local names -/
def sPar (i j : Nat) (t : DA) : DS := fun r S => (t r S).thn r fun vs S1 => match vs with
  | [v, w] => .nx ((r.set i (some v)).set j (some w)) S1
  | _ => .bad
/-- x op= e -/
def sAug (i : Nat) (f : AV → AV → Sto → Res AV) (a : DE) : DS := fun r S => match r[i]? with
  | some (some x) => (a r S).thn r fun y S1 => (f x y S1).thn r fun z S2 => .nx (r.set i (some z)) S2
  | _ => .bad
def LIM : Nat := 20000
def whG (c : DT) (b : DS) : Nat → DS
  | 0 => fun _ _ => .bad
  | n + 1 => fun r S => (c r S).thn r fun k S1 => if k = true then (match b r S1 with
    | .nx r2 S2 => whG c b n r2 S2
    | .cnt r2 S2 => whG c b n r2 S2
    | .brk r2 S2 => .nx r2 S2
    | x => x) else .nx r S1
def sWhile (c : DT) (b : DS) : DS := whG c b LIM
/-- what a loop walks: the item at a turn (none: it can't be told; some none: it ends) -/
abbrev Src := Sto → Nat → Option (Option AV)
def forG (u : Src) (g : DG) (b : DS) : Nat → Nat → DS
  | 0, _ => fun _ _ => .bad
  | n + 1, i => fun r S => match u S i with
    | none => .bad
    | some none => .nx r S
    | some (some v) => (match g v r S with
      | .nx r1 S1 => (match b r1 S1 with
        | .nx r2 S2 => forG u g b n (i + 1) r2 S2
        | .cnt r2 S2 => forG u g b n (i + 1) r2 S2
        | .brk r2 S2 => .nx r2 S2
        | x => x)
      | x => x)
abbrev DI := Env → Sto → Res Src
def sFor (u : DI) (g : DG) (b : DS) : DS := fun r S => (u r S).thn r fun s S1 => forG s g b LIM 0 r S1
/-- the slots of a block's own names are forgotten -/
def wip : Env → List Nat → Env
  | r, [] => r
  | r, v :: vs => (wip r vs).set v none
def lcG (u : Src) (g : DG) (t : DT) (a : DE) (r : Env) : Nat → Nat → List AV → Sto → Res (List AV)
  | 0, _, _ => fun _ => .bad
  | n + 1, i, acc => fun S => match u S i with
    | none => .bad
    | some none => .ok acc S
    | some (some v) => (match g v r S with
      | .nx r1 S1 => (match t r1 S1 with
        | .ok k S2 => if k = true then (match a r1 S2 with
          | .ok y S3 => lcG u g t a r n (i + 1) (acc ++ [y]) S3
          | _ => .bad) else lcG u g t a r n (i + 1) acc S2
        | _ => .bad)
      | _ => .bad)
def tYes : DT := fun _ S => .ok true S
/-- [a for g in u if t], the block's own slots vs -/
def eLc (vs : List Nat) (u : DI) (g : DG) (t : DT) (a : DE) : DE := fun r S => (u r S).bind fun s S1 => (lcG s g t a (wip r vs) LIM 0 [] S1).bind fun xs S2 => new S2 (.lst false xs)
/-- a def by its body: n slots -/
def mkF (n : Nat) (b : DS) : DF := fun vs S => match b (vs.map some ++ List.replicate (n - vs.length) none) S with
  | .nx _ S1 => .ok .non S1
  | .ret v S1 => .ok v S1
  | .ex c p _ S1 => .ex c p S1
  | _ => .bad

/-! ### what is walked -/
def uFix (xs : List AV) : Src := fun _ i => some xs[i]?
def uLive (a : Nat) : Src := fun S i => match S[a]? with
  | some (.lst _ xs) => some xs[i]?
  | _ => none
/-- a list or a tuple -/
def iSeq (a : DE) : DI := fun r S => (a r S).bind fun v S1 => match v with
  | .tup xs => .ok (uFix xs) S1
  | .ref p => (match S1[p]? with
    | some (.lst _ _) => .ok (uLive p) S1
    | _ => .bad)
  | _ => .bad
def rngL (lo : Int) (n : Nat) : List AV := (List.range n).map fun (i : Nat) => AV.int (lo + (i : Int))
def RB : Int := 2 ^ 62
def iRng1 (t : DA) : DI := fun r S => (t r S).bind fun vs S1 => match vs with
  | [.int j] => if decide (-RB ≤ j) && decide (j < RB) then .ok (uFix (rngL 0 j.toNat)) S1 else .bad
  | _ => .bad
def iRng2 (t : DA) : DI := fun r S => (t r S).bind fun vs S1 => match vs with
  | [.int i, .int j] => if decide (-RB ≤ i) && decide (i < RB) && decide (-RB ≤ j) && decide (j < RB) then .ok (uFix (rngL i (j - i).toNat)) S1 else .bad
  | _ => .bad

/-! ### operators by values -/
def oAdd (x y : AV) (S : Sto) : Res AV := match x, y with
  | .int i, .int j => .ok (.int (i + j)) S
  | .str a, .str b => if a.length + b.length ≤ sizeLine then .ok (.str (a ++ b)) S else .bad
  | .tup xs, .tup ys => if xs.length + ys.length ≤ sizeLine then .ok (.tup (xs ++ ys)) S else .bad
  | .ref a, .ref b => (match S[a]?, S[b]? with
    | some (.lst false xs), some (.lst false ys) => if xs.length + ys.length ≤ sizeLine then new S (.lst false (xs ++ ys)) else .bad
    | _, _ => .bad)
  | _, _ => .bad
def oSub (x y : AV) (S : Sto) : Res AV := match x, y with
  | .int i, .int j => .ok (.int (i - j)) S
  | _, _ => .bad
/-- a factor that is not too great -/
def smA (i : Int) : Bool := decide (-(2 ^ 64) < i) && decide (i < 2 ^ 64)
def oMul (x y : AV) (S : Sto) : Res AV := match x, y with
  | .int i, .int j => if smA i || smA j || decide (i.natAbs.log2 + j.natAbs.log2 < 1000000) then .ok (.int (i * j)) S else .bad
  | .ref a, .int k => (match S[a]? with
    | some (.lst false xs) => if decide (-(2 ^ 63) ≤ k) && decide (k < 2 ^ 63) && decide (xs.length * k.toNat ≤ sizeLine) then new S (.lst false (List.replicate k.toNat xs).flatten) else .bad
    | _ => .bad)
  | _, _ => .bad
def oDiv (x y : AV) (S : Sto) : Res AV := match x, y with
  | .int i, .int j => if decide (0 < j) && decide (j.natAbs.log2 < 9000) then .ok (.int (i / j)) S else .bad
  | _, _ => .bad
def oMod (x y : AV) (S : Sto) : Res AV := match x, y with
  | .int i, .int j => if decide (0 < j) then .ok (.int (i % j)) S else .bad
  | _, _ => .bad
def oPow (x y : AV) (S : Sto) : Res AV := match x, y with
  | .int i, .int j => if decide (0 ≤ j) && decide (j ≤ 1000000) && decide (i.natAbs < 2 ^ 64) then .ok (.int (i ^ j.toNat)) S else .bad
  | _, _ => .bad
def oNeg (x : AV) (S : Sto) : Res AV := match x with
  | .int i => .ok (.int (-i)) S
  | _ => .bad
def cInt (f : Int → Int → Bool) (x y : AV) (S : Sto) : Res AV := match x, y with
  | .int i, .int j => .ok (.bl (f i j)) S
  | _, _ => .bad
def cLt := cInt fun i j => decide (i < j)
def cLe := cInt fun i j => decide (i ≤ j)
def cGt := cInt fun i j => decide (j < i)
def cGe := cInt fun i j => decide (j ≤ i)
def cEq (x y : AV) (S : Sto) : Res AV := match eqA S x y with
  | some b => .ok (.bl b) S
  | none => .bad
def cNe (x y : AV) (S : Sto) : Res AV := match eqA S x y with
  | some b => .ok (.bl (!b)) S
  | none => .bad
/-- a comparison as a test -/
def tC (f : AV → AV → Sto → Res AV) (a b : DE) : DT := fun r S => (a r S).bind fun x S1 => (b r S1).bind fun y S2 => (f x y S2).bind fun z S3 => match z with
  | .bl k => .ok k S3
  | _ => .bad
/-- a < b < c -/
def eCh (f g : AV → AV → Sto → Res AV) (a b c : DE) : DE := fun r S => (a r S).bind fun x S1 => (b r S1).bind fun y S2 => (f x y S2).bind fun z S3 => match z with
  | .bl k => if k = true then (c r S3).bind fun w S4 => g y w S4 else .ok (.bl false) S3
  | _ => .bad
/-! ### keys, tables -/
def kA : AV → Option L2.Key
  | .int i => some (.inl i)
  | .str s => some (.inr s)
  | _ => none
def kT : AV → Option (List L2.Key)
  | .tup xs => optAll (xs.map kA)
  | _ => none
def k1 : AV → AV → Bool
  | .int i, .int j => decide (i = j)
  | .str x, .str y => decide (x = y)
  | _, _ => false
def kAll : List AV → List AV → Bool
  | [], [] => true
  | x :: xs, y :: ys => k1 x y && kAll xs ys
  | _, _ => false
/-- keys alike -/
def kEq : AV → AV → Bool
  | .tup xs, .tup ys => kAll xs ys
  | x, y => k1 x y
def isK (v : AV) : Bool := (kA v).isSome || (kT v).isSome
def isTK : AV → Bool
  | .tup _ => true
  | _ => false
def valA (kvs : List (AV × AV)) (k : AV) : Option AV := (kvs.find? fun p => kEq p.1 k).map (·.2)
def putA (kvs : List (AV × AV)) (k v : AV) : List (AV × AV) :=
  if (kvs.any fun p => kEq p.1 k) = true then kvs.map (fun p => if kEq p.1 k = true then (p.1, v) else p) else kvs ++ [(k, v)]
/-- the key is of the table's kind -/
def okK (kvs : List (AV × AV)) (k : AV) : Bool := isK k && kvs.all fun p => isTK p.1 == isTK k

/-! ### items, slices -/
def oIx (x y : AV) (S : Sto) : Res AV := match x with
  | .tup xs => (match y with
    | .int i => ofO S (L2.atI xs i)
    | _ => .bad)
  | .ref a => (match S[a]? with
    | some (.lst _ xs) => (match y with
      | .int i => ofO S (L2.atI xs i)
      | _ => .bad)
    | some (.dct _ kvs) => if okK kvs y then ofO S (valA kvs y) else .bad
    | none => .bad)
  | .str z => (match y with
    | .int i => if z.length ≤ sizeLine then ofO S ((L2.atI z.cps.toList i).map fun c => .str ⟨#[c]⟩) else .bad
    | _ => .bad)
  | _ => .bad
def cutA (xs : List AV) (lo hi : Option Int) : List AV := (xs.drop (HT.sIx xs.length 0 lo)).take (HT.sIx xs.length xs.length hi - HT.sIx xs.length 0 lo)
def oSl (x : AV) (lo hi : Option Int) (S : Sto) : Res AV := match x with
  | .tup xs => .ok (.tup (cutA xs lo hi)) S
  | .ref a => (match S[a]? with
    | some (.lst _ xs) => new S (.lst false (cutA xs lo hi))
    | _ => .bad)
  | _ => .bad
abbrev DO := Env → Sto → Res (Option Int)
def oNo : DO := fun _ S => .ok none S
def oYes (a : DE) : DO := fun r S => (a r S).bind fun v S1 => match v with
  | .int i => .ok (some i) S1
  | _ => .bad
def eSl (a : DE) (lo hi : DO) : DE := fun r S => (a r S).bind fun x S1 => (lo r S1).bind fun l S2 => (hi r S2).bind fun h S3 => oSl x l h S3
/-- xs[::-1], xs[:k - 1:-1] of a tuple -/
def oRev (k : Nat) (x : AV) (S : Sto) : Res AV := match x with
  | .tup xs => .ok (.tup (xs.drop k).reverse) S
  | .ref a => (match S[a]? with
    | some (.lst _ xs) => if k = 0 then new S (.lst false xs.reverse) else .bad
    | _ => .bad)
  | _ => .bad
/-- x[i] = v -/
def oSet (x i v : AV) (S : Sto) : Res Unit := match x with
  | .ref a => (match S[a]? with
    | some (.lst false xs) => (match i with
      | .int k => (match L2.ixN xs.length k with
        | some j => .ok () (S.set a (.lst false (xs.set j v)))
        | none => .bad)
      | _ => .bad)
    | some (.dct false kvs) => if okK kvs i && decide (kvs.length < sizeLine) then .ok () (S.set a (.dct false (putA kvs i v))) else .bad
    | _ => .bad)
  | _ => .bad
def gSub (o i : DE) : DG := fun v r S => (o r S).thn r fun x S1 => (i r S1).thn r fun y S2 => (oSet x y v S2).thn r fun _ S3 => .nx r S3
/-- targets one after the other -/
def gsNil : List AV → Env → Sto → SR := fun vs r S => match vs with
  | [] => .nx r S
  | _ => .bad
def gsCons (g : DG) (t : List AV → Env → Sto → SR) : List AV → Env → Sto → SR := fun vs r S => match vs with
  | [] => .bad
  | v :: vs => (match g v r S with
    | .nx r1 S1 => t vs r1 S1
    | x => x)
def gTup (n : Nat) (t : List AV → Env → Sto → SR) : DG := fun v r S => match v with
  | .tup xs => if xs.length = n then t xs r S else .bad
  | _ => .bad

/-! ### built-in functions by values -/
def intsOf : List AV → Option (List Int)
  | [] => some []
  | .int i :: r => (intsOf r).map (i :: ·)
  | _ => none
def blsOf : List AV → Option (List Bool)
  | [] => some []
  | .bl i :: r => (blsOf r).map (i :: ·)
  | _ => none
def lstOf (S : Sto) : AV → Option (List AV)
  | .ref a => (match S[a]? with
    | some (.lst _ xs) => some xs
    | _ => none)
  | _ => none
def pLen (vs : List AV) (S : Sto) : Res AV := match vs with
  | [.str s] => if s.length ≤ sizeLine then .ok (.int s.length) S else .bad
  | [.tup xs] => .ok (.int xs.length) S
  | [.ref a] => (match S[a]? with
    | some (.lst _ xs) => .ok (.int xs.length) S
    | some (.dct false kvs) => .ok (.int kvs.length) S
    | _ => .bad)
  | _ => .bad
def pAbs (vs : List AV) (S : Sto) : Res AV := match vs with
  | [.int i] => .ok (.int (if i < 0 then -i else i)) S
  | _ => .bad
def pInt (vs : List AV) (S : Sto) : Res AV := match vs with
  | [.int i] => .ok (.int i) S
  | [.bl b] => .ok (.int (if b then 1 else 0)) S
  | _ => .bad
def pSum (vs : List AV) (S : Sto) : Res AV := match vs with
  | [.tup xs] => (match intsOf xs with
    | some ns => .ok (.int ns.sum) S
    | none => .bad)
  | [v] => (match (lstOf S v).bind intsOf with
    | some ns => .ok (.int ns.sum) S
    | none => .bad)
  | _ => .bad
def mxI : Int → List Int → Int
  | a, [] => a
  | a, b :: r => mxI (if b > a then b else a) r
def mnI : Int → List Int → Int
  | a, [] => a
  | a, b :: r => mnI (if b < a then b else a) r
def pMax (vs : List AV) (S : Sto) : Res AV := match vs with
  | [.int i, .int j] => .ok (.int (if j > i then j else i)) S
  | [v] => (match (lstOf S v).bind intsOf with
    | some (a :: r) => .ok (.int (mxI a r)) S
    | _ => .bad)
  | _ => .bad
def pMin (vs : List AV) (S : Sto) : Res AV := match vs with
  | [.int i, .int j] => .ok (.int (if j < i then j else i)) S
  | [v] => (match (lstOf S v).bind intsOf with
    | some (a :: r) => .ok (.int (mnI a r)) S
    | _ => .bad)
  | _ => .bad
def pAll (vs : List AV) (S : Sto) : Res AV := match vs with
  | [v] => (match (lstOf S v).bind blsOf with
    | some bs => .ok (.bl (bs.all id)) S
    | none => .bad)
  | _ => .bad
def pAny (vs : List AV) (S : Sto) : Res AV := match vs with
  | [v] => (match (lstOf S v).bind blsOf with
    | some bs => .ok (.bl (bs.any id)) S
    | none => .bad)
  | _ => .bad
def pList (vs : List AV) (S : Sto) : Res AV := match vs with
  | [.tup xs] => new S (.lst false xs)
  | [.ref a] => (match S[a]? with
    | some (.lst _ xs) => new S (.lst false xs)
    | _ => .bad)
  | _ => .bad
def pTuple (vs : List AV) (S : Sto) : Res AV := match vs with
  | [.tup xs] => .ok (.tup xs) S
  | [.ref a] => (match S[a]? with
    | some (.lst _ xs) => .ok (.tup xs) S
    | _ => .bad)
  | _ => .bad
def pStr (vs : List AV) (S : Sto) : Res AV := match vs with
  | [.int i] => if i.natAbs.log2 < 1920 then .ok (.str (toString i)) S else .bad
  | _ => .bad
/-- the name of a value's type -/
def tyN (S : Sto) : AV → Option String
  | .non => some "NoneType"
  | .bl _ => some "bool"
  | .int _ => some "int"
  | .str _ => some "str"
  | .tup _ => some "tuple"
  | .ref a => (match S[a]? with
    | some (.lst _ _) => some "list"
    | some (.dct false _) => some "dict"
    | _ => none)
  | _ => none
/-- isinstance(x, T), T a built-in type -/
def subT (a b : String) : Option Bool := if a = b then some true else if (["int", "bool", "str", "tuple", "list", "dict"] : List String).contains b then some (a = "bool" && b = "int") else none
def pIsi (vs : List AV) (S : Sto) : Res AV := match vs with
  | [v, .ty n] => (match (tyN S v).bind fun a => subT a n with
    | some b => .ok (.bl b) S
    | none => .bad)
  | _ => .bad
/-! ### methods of lists -/
def mAppend (x : AV) (vs : List AV) (S : Sto) : Res AV := match x, vs with
  | .ref a, [v] => (match S[a]? with
    | some (.lst false xs) => if xs.length < sizeLine then .ok .non (S.set a (.lst false (xs ++ [v]))) else .bad
    | _ => .bad)
  | _, _ => .bad
/-- the receiver is of that built-in type -/
def tyA (T : String) (S : Sto) (x : AV) : Bool := match x with
  | .str _ => T == "str"
  | .ref a => (match S[a]? with
    | some (.lst _ _) => T == "list"
    | some (.dct false _) => T == "dict"
    | _ => false)
  | _ => false
def eMt (T : String) (f : AV → List AV → Sto → Res AV) (o : DE) (t : DA) : DE := fun r S => (o r S).bind fun x S1 => if tyA T S1 x = true then (t r S1).bind fun vs S2 => f x vs S2 else .bad
/-- what dict a value is -/
def dctAt (S : Sto) : AV → Option (Bool × List (AV × AV))
  | .ref a => (match S[a]? with
    | some (.dct lk kvs) => some (lk, kvs)
    | _ => none)
  | _ => none
/-- d.get(k, x) -/
def eGet2 (o k x : DE) : DE := fun r S => (o r S).bind fun d S1 => if (dctAt S1 d).isSome then (k r S1).bind fun y S2 => (x r S2).bind fun z S3 => match dctAt S3 d with
  | some (lk, kvs) => if okK kvs y && (!lk || !kvs.isEmpty) then .ok ((valA kvs y).getD z) S3 else .bad
  | none => .bad
  else .bad
/-! ### more that is walked -/
def rngC (lo c : Int) (n : Nat) : List AV := (List.range n).map fun (i : Nat) => AV.int (lo + (i : Int) * c)
def iRng3 (t : DA) : DI := fun r S => (t r S).bind fun vs S1 => match vs with
  | [.int i, .int j, .int c] => if decide (c = -1) && decide (-RB ≤ i) && decide (i < RB) && decide (-RB ≤ j) && decide (j < RB) then .ok (uFix (rngC i (-1) (i - j).toNat)) S1 else .bad
  | _ => .bad
def uDct (f : AV × AV → AV) (a : Nat) : Src := fun S i => match S[a]? with
  | some (.dct true kvs) => some (kvs[i]?.map f)
  | _ => none
def uKeys : Nat → Src := uDct fun p => p.1
def uVals : Nat → Src := uDct fun p => p.2
def uItems : Nat → Src := uDct fun p => .tup [p.1, p.2]
def iDct (any : Bool) (f : Nat → Src) (o : DE) : DI := fun r S => (o r S).bind fun v S1 => match v with
  | .ref a => (match S1[a]? with
    | some (.dct true kvs) => if (any || kvs.all fun p => !isTK p.1) = true then .ok (f a) S1 else .bad
    | _ => .bad)
  | _ => .bad
def unlk (a : Nat) (S : Sto) : Option Sto := match S[a]? with
  | some (.dct true kvs) => some (S.set a (.dct false kvs))
  | _ => none
/-- what dict an expression gives, if it is free -/
def lkAt (o : DE) (r : Env) (S : Sto) : Option (Nat × Bool × List (AV × AV)) := match o r S with
  | .ok (.ref a) _ => (match S[a]? with
    | some (.dct k kvs) => some (a, k, kvs)
    | _ => none)
  | _ => none
/-- a statement that walks the dict of o: it stays as it is meanwhile -/
def lkS (o : DE) (b : DS) : DS := fun r S => match lkAt o r S with
  | some (a, false, kvs) => (match b r (S.set a (.dct true kvs)) with
    | .nx r1 S1 => (match unlk a S1 with
      | some S2 => .nx r1 S2
      | none => .bad)
    | .ret v S1 => (match unlk a S1 with
      | some S2 => .ret v S2
      | none => .bad)
    | .brk r1 S1 => (match unlk a S1 with
      | some S2 => .brk r1 S2
      | none => .bad)
    | .cnt r1 S1 => (match unlk a S1 with
      | some S2 => .cnt r1 S2
      | none => .bad)
    | _ => .bad)
  | some (_, true, _) => b r S
  | none => .bad
def lkE (o : DE) (b : DE) : DE := fun r S => match lkAt o r S with
  | some (a, false, kvs) => (match b r (S.set a (.dct true kvs)) with
    | .ok v S1 => (match unlk a S1 with
      | some S2 => .ok v S2
      | none => .bad)
    | _ => .bad)
  | some (_, true, _) => b r S
  | none => .bad
/-- max(d, default=x) over the keys of a dict -/
def pMaxD (o x : DE) : DE := fun r S => (o r S).bind fun v S1 => (x r S1).bind fun y S2 => match v with
  | .ref a => (match S2[a]? with
    | some (.dct false kvs) => (match intsOf (kvs.map (·.1)) with
      | some [] => .ok y S2
      | some (i :: ns) => .ok (.int (mxI i ns)) S2
      | none => .bad)
    | _ => .bad)
  | _ => .bad
/-- list(d) -/
def pListD (vs : List AV) (S : Sto) : Res AV := match vs with
  | [.ref a] => (match S[a]? with
    | some (.dct _ kvs) => new S (.lst false (kvs.map (·.1)))
    | _ => pList vs S)
  | _ => pList vs S
/-- list(d.values()) -/
def eListV (o : DE) : DE := fun r S => (o r S).bind fun v S1 => match v with
  | .ref a => (match S1[a]? with
    | some (.dct false kvs) => if (kvs.all fun p => !isTK p.1) = true then new S1 (.lst false (kvs.map (·.2))) else .bad
    | _ => .bad)
  | _ => .bad
/-- x op= y of ints -/
def oInt (f : Int → Int → Int) (x y : AV) (S : Sto) : Res AV := match x, y with
  | .int i, .int j => .ok (.int (f i j)) S
  | _, _ => .bad
/-- the ends of a range(..) of one or two numbers -/
def rngOf : List AV → Option (Int × Int)
  | [.int j] => some (0, j)
  | [.int i, .int j] => some (i, j)
  | _ => none
def rngOk (p : Int × Int) : Bool := decide (-RB ≤ p.1) && decide (p.1 < RB) && decide (-RB ≤ p.2) && decide (p.2 < RB) && decide ((p.2 - p.1).toNat ≤ sizeLine)
/-- list(range(..)), tuple(range(..)) -/
def pRngL (vs : List AV) (S : Sto) : Res AV := match rngOf vs with
  | some p => if rngOk p = true then new S (.lst false (rngL p.1 (p.2 - p.1).toNat)) else .bad
  | none => .bad
def pRngT (vs : List AV) (S : Sto) : Res AV := match rngOf vs with
  | some p => if rngOk p = true then .ok (.tup (rngL p.1 (p.2 - p.1).toNat)) S else .bad
  | none => .bad
/-- dict(pairs) -/
def prsOf : List AV → Option (List (AV × AV))
  | [] => some []
  | .tup [k, v] :: r => (prsOf r).map ((k, v) :: ·)
  | _ => none
def mrgA (kvs more : List (AV × AV)) : List (AV × AV) := more.foldl (fun acc p => putA acc p.1 p.2) kvs
def pDict (vs : List AV) (S : Sto) : Res AV := match vs with
  | [v] => (match (lstOf S v).bind prsOf with
    | some ps => if (ps.all fun p => (kA p.1).isSome) && decide (ps.length ≤ 1000000) then new S (.dct false (mrgA [] ps)) else .bad
    | none => .bad)
  | _ => .bad
/-- {} -/
def eDct0 : DE := fun _ S => new S (.dct false [])
/-- {k: v, ..} -/
def dNil : Env → Sto → Res (List (AV × AV)) := fun _ S => .ok [] S
def dCons (k v : DE) (t : Env → Sto → Res (List (AV × AV))) : Env → Sto → Res (List (AV × AV)) := fun r S => (k r S).bind fun x S1 => (v r S1).bind fun y S2 => (t r S2).bind fun ps S3 => .ok ((x, y) :: ps) S3
def eDct (t : Env → Sto → Res (List (AV × AV))) : DE := fun r S => (t r S).bind fun ps S1 => if (ps.all fun p => (kA p.1).isSome) && decide (ps.length ≤ 15) then new S1 (.dct false (mrgA [] ps)) else .bad

/-- enumerate from k -/
def uEnF (k : Int) (xs : List AV) : Src := fun _ i => some (xs[i]?.map fun v => .tup [.int (k + (i : Int)), v])
def uEnL (k : Int) (a : Nat) : Src := fun S i => match S[a]? with
  | some (.lst _ xs) => some (xs[i]?.map fun v => .tup [.int (k + (i : Int)), v])
  | _ => none
def enOf (k : Int) (v : AV) (S1 : Sto) : Res Src := match v with
  | .tup xs => .ok (uEnF k xs) S1
  | .ref p => (match S1[p]? with
    | some (.lst _ _) => .ok (uEnL k p) S1
    | _ => .bad)
  | _ => .bad
def iEnum1 (t : DA) : DI := fun r S => (t r S).bind fun vs S1 => match vs with
  | [v] => enOf 0 v S1
  | _ => .bad
def iEnum2 (t : DA) : DI := fun r S => (t r S).bind fun vs S1 => match vs with
  | [v, .int k] => if decide (-(2 ^ 63) ≤ k) && decide (k < 2 ^ 63) then enOf k v S1 else .bad
  | _ => .bad
/-! ### exceptions -/
/-- raise c('..'), an own class without an own __init__ -/
def sRaise (c : Str) (t : DA) : DS := fun r S => (t r S).thn r fun vs S1 => if vs.length ≤ sizeLine then .ex c none r S1 else .bad
/-- raise c(a), an own class whose __init__ keeps its argument as f -/
def sRaiseV (c f : Str) (a : DE) : DS := fun r S => (a r S).thn r fun v S1 => .ex c (some (f, v)) r S1
/-- an except suite: what is given back, told by the exception's field -/
abbrev DX := Option (Str × AV) → Env → Sto → Res AV
/-- except classes: its class, the slot of its name, the suite's return -/
structure Hd where
  c : Str
  i : Option Nat
  x : DX
/-- whether an exception of the first class is caught by the second -/
abbrev CT := Str → Str → Option Bool
def hdG (T : CT) (c : Str) (p : Option (Str × AV)) (r : Env) (S : Sto) : List Hd → SR
  | [] => .ex c p r S
  | h :: hs => (match T c h.c with
    | some true => if ((match h.i with
      | none => true
      | some i => decide (c = h.c) && decide (i < r.length)) : Bool) = true then (match h.x p r S with
      | .ok v S1 => .ret v S1
      | _ => .bad) else .bad
    | some false => hdG T c p r S hs
    | none => .bad)
def sTry (T : CT) (b : DS) (hs : List Hd) : DS := fun r S => match b r S with
  | .ex c p r1 S1 => hdG T c p r1 S1 hs
  | x => x
/-- a suite that returns a value told without the exception -/
def xK (a : DE) : DX := fun _ r S => a r S
/-- e.f of the exception -/
def xF (f : Str) (k : AV → Sto → Res AV) : DX := fun p _ S => match p with
  | some (g, v) => if g = f then k v S else .bad
  | none => .bad
/-- 'z' + str(e.f) -/
def kStr (z : Str) (v : AV) (S : Sto) : Res AV := (pStr [v] S).bind fun w S1 => oAdd (.str z) w S1
end Mc
end
section
set_option Elab.async false
set_option linter.all false
set_option maxRecDepth 100000
set_option maxHeartbeats 1000000
/-! M2: how the machine's states stand for the layer's: values, objects, stores; what a rule of the layer asks, told by the machine's result. -/
namespace Mc
open PySem PySem.Spec PyProof.Rows L2

/-- for each object of the store: its address, and that of its own dict (or the same again) -/
abbrev Mp := List (Addr × Addr)
mutual
inductive RV (K : PySem.W.Frag) (G : Str → Addr) (m : Mp) (H : Hp) : AV → V → Prop
  | non : RV K G m H .non .non
  | bl (b : Bool) : RV K G m H (.bl b) (.bl b)
  | int (i : Int) : RV K G m H (.int i) (.int i)
  | str (s : Str) : RV K G m H (.str s) (.str s)
  | ty (n : String) : RV K G m H (.ty n) (.ty n)
  | tup {a : Addr} {xs : List AV} {vs : List V} : H a = some (.tup vs) → RVs K G m H xs vs → RV K G m H (.tup xs) (.ref a)
  | ref {i : Nat} {a d : Addr} : m[i]? = some (a, d) → RV K G m H (.ref i) (.ref a)
  | glo (x : Str) : RV K G m H (.glo x) (.ref (G x))
inductive RVs (K : PySem.W.Frag) (G : Str → Addr) (m : Mp) (H : Hp) : List AV → List V → Prop
  | nil : RVs K G m H [] []
  | cons {v : AV} {x : V} {vs : List AV} {xs : List V} : RV K G m H v x → RVs K G m H vs xs → RVs K G m H (v :: vs) (x :: xs)
end
/-- an object of the store, as it stands at a -/
inductive RO (K : PySem.W.Frag) (G : Str → Addr) (m : Mp) (H : Hp) (a d : Addr) : AO → Prop
  | lst {xs : List AV} {vs : List V} : d = a → H a = some (.lst vs) → RVs K G m H xs vs → RO K G m H a d (.lst false xs)
  | lstR {xs : List AV} {vs : List V} : d = a → Rd H a (.lst vs) → RVs K G m H xs vs → RO K G m H a d (.lst true xs)
  | dk {kvs : List (AV × AV)} {us : List (Key × V)} : d = a → H a = some (.dK us) → Paired (fun (p : AV × AV) (q : Key × V) => kA p.1 = some q.1 ∧ RV K G m H p.2 q.2) kvs us → RO K G m H a d (.dct false kvs)
  | dt {kvs : List (AV × AV)} {us : List (List Key × V)} : d = a → H a = some (.dT us) → Paired (fun (p : AV × AV) (q : List Key × V) => kT p.1 = some q.1 ∧ RV K G m H p.2 q.2) kvs us → RO K G m H a d (.dct false kvs)
  | dkR {o : Obj} {kvs : List (AV × AV)} {us : List (Key × V)} : d = a → H a = some (.frz o (.dK us)) → Paired (fun (p : AV × AV) (q : Key × V) => kA p.1 = some q.1 ∧ RV K G m H p.2 q.2) kvs us → RO K G m H a d (.dct true kvs)
  | dtR {o : Obj} {kvs : List (AV × AV)} {us : List (List Key × V)} : d = a → H a = some (.frz o (.dT us)) → Paired (fun (p : AV × AV) (q : List Key × V) => kT p.1 = some q.1 ∧ RV K G m H p.2 q.2) kvs us → kvs ≠ [] → RO K G m H a d (.dct true kvs)
def Fp (m : Mp) (b : Addr) : Prop := ∃ p, p ∈ m ∧ (b = p.1 ∨ b = p.2)
structure SM (K : PySem.W.Frag) (G : Str → Addr) (m : Mp) (S : Sto) (H : Hp) : Prop where
  len : m.length = S.length
  obj : ∀ (i : Nat) (a d : Addr) (o : AO), m[i]? = some (a, d) → S[i]? = some o → RO K G m H a d o
  ap : ∀ (i j : Nat) (p q : Addr × Addr), m[i]? = some p → m[j]? = some q → i ≠ j → p.1 ≠ q.1 ∧ p.1 ≠ q.2 ∧ p.2 ≠ q.1 ∧ p.2 ≠ q.2
/-- what comes behind: more objects; what is not the store's stays -/
structure Ex (m m' : Mp) (H H' : Hp) : Prop where
  pre : m <+: m'
  keep : ∀ (b : Addr) (o : HO), H b = some o → ¬ Fp m b → H' b = some o
  fresh : ∀ b, Fp m' b → Fp m b ∨ H b = none
  frz : ∀ (b : Addr) (o : Obj) (u : HO), H b = some (.frz o u) → H' b = some (.frz o u)

section
variable {K : PySem.W.Frag} {G : Str → Addr} {m m' m1 m2 : Mp} {S S' : Sto} {H H' H1 H2 : Hp}
theorem Ex.refl : Ex m m H H := ⟨List.prefix_refl _, fun _ _ h _ => h, fun _ h => .inl h, fun _ _ _ h => h⟩
theorem Ex.trans (a : Ex m m1 H H1) (b : Ex m1 m2 H1 H2) : Ex m m2 H H2 where
  pre := a.pre.trans b.pre
  keep := fun c o h n => b.keep c o (a.keep c o h n) fun f => by
    rcases a.fresh c f with f | f
    · exact n f
    · rw [f] at h; cases h
  fresh := fun c f => by
    rcases b.fresh c f with f | f
    · exact a.fresh c f
    · by_cases n : Fp m c
      · exact .inl n
      · cases q : H c with
        | none => exact .inr rfl
        | some o => rw [a.keep c o q n] at f; cases f
  frz := fun c o u h => b.frz c o u (a.frz c o u h)
theorem pre_get {α : Type} {l l' : List α} (h : l <+: l') {i : Nat} {x : α} (e : l[i]? = some x) : l'[i]? = some x := by
  obtain ⟨t, rfl⟩ := h
  rw [List.getElem?_append_left (List.getElem?_eq_some_iff.mp e).1]
  exact e
theorem Fp.mono (h : m <+: m') {b : Addr} (f : Fp m b) : Fp m' b := by
  obtain ⟨p, hp, e⟩ := f
  exact ⟨p, h.subset hp, e⟩
theorem RO.there {a d : Addr} {o : AO} (r : RO K G m H a d o) {b : Addr} (hb : b = a ∨ b = d) : ∃ u, H b = some u ∧ ∀ xs, ¬ Rd H b (.tup xs) := by
  have key : ∀ {u : HO}, d = a → H a = some u → (∀ xs, u ≠ .tup xs) → (∀ o xs, u ≠ .frz o (.tup xs)) → ∃ u, H b = some u ∧ ∀ xs, ¬ Rd H b (.tup xs) := fun {u} e h n1 n2 => by
    have e2 : b = a := by rcases hb with z | z; exact z; exact z.trans e
    subst e2
    refine ⟨u, h, fun xs r => ?_⟩
    rcases r with r | ⟨o, r⟩
    · rw [h] at r; exact n1 _ (Option.some.inj r)
    · rw [h] at r; exact n2 _ _ (Option.some.inj r)
  cases r with
  | lst e h _ => exact key e h (fun _ z => by cases z) fun _ _ z => by cases z
  | lstR e h _ =>
    rcases h with h | ⟨o, h⟩
    · exact key e h (fun _ z => by cases z) fun _ _ z => by cases z
    · exact key e h (fun _ z => by cases z) fun _ _ z => by cases z
  | dk e h _ => exact key e h (fun _ z => by cases z) fun _ _ z => by cases z
  | dt e h _ => exact key e h (fun _ z => by cases z) fun _ _ z => by cases z
  | dkR e h _ => exact key e h (fun _ z => by cases z) fun _ _ z => by cases z
  | dtR e h _ _ => exact key e h (fun _ z => by cases z) fun _ _ z => by cases z
theorem SM.at_ (s : SM K G m S H) {i : Nat} {o : AO} (h : S[i]? = some o) : ∃ a d, m[i]? = some (a, d) ∧ RO K G m H a d o := by
  have hi : i < m.length := by rw [s.len]; exact (List.getElem?_eq_some_iff.mp h).1
  obtain ⟨a, d⟩ : Addr × Addr := m[i]
  have e : m[i]? = some (m[i].1, m[i].2) := List.getElem?_eq_getElem hi
  exact ⟨_, _, e, s.obj i _ _ o e h⟩
theorem SM.there (s : SM K G m S H) {b : Addr} (f : Fp m b) : ∃ u, H b = some u ∧ ∀ xs, ¬ Rd H b (.tup xs) := by
  obtain ⟨p, hp, e⟩ := f
  obtain ⟨i, hi, e2⟩ := List.mem_iff_getElem.mp hp
  have q : m[i]? = some (p.1, p.2) := by rw [List.getElem?_eq_getElem hi, e2]
  have hs : i < S.length := by rw [← s.len]; exact hi
  exact (s.obj i _ _ _ q (List.getElem?_eq_getElem hs)).there e
theorem SM.none_not (s : SM K G m S H) {b : Addr} (h : H b = none) : ¬ Fp m b := fun f => by
  obtain ⟨u, e, _⟩ := s.there f
  rw [h] at e; cases e
theorem SM.tup_not (s : SM K G m S H) {b : Addr} {xs : List V} (h : Rd H b (.tup xs)) : ¬ Fp m b := fun f => (s.there f).choose_spec.2 _ h
theorem sqT_mono {a : Addr} {vs : List V} (s : SM K G m S H) (e : Ex m m' H H') (h : SqT K H a vs) : SqT K H' a vs := by
  rcases h with h | h
  · have n := s.tup_not h
    rcases h with h | ⟨o, h⟩
    · exact .inl (.inl (e.keep _ _ h n))
    · exact .inl (.inr ⟨o, e.keep _ _ h n⟩)
  · exact .inr h
mutual
theorem RV.mono (s : SM K G m S H) (e : Ex m m' H H') : ∀ {v : AV} {x : V}, RV K G m H v x → RV K G m' H' v x
  | _, _, .non => .non
  | _, _, .bl b => .bl b
  | _, _, .int i => .int i
  | _, _, .str z => .str z
  | _, _, .ty n => .ty n
  | _, _, .tup h r => .tup (e.keep _ _ h (s.tup_not (.inl h))) (RVs.mono s e r)
  | _, _, .ref h => .ref (pre_get e.pre h)
  | _, _, .glo x => .glo x
theorem RVs.mono (s : SM K G m S H) (e : Ex m m' H H') : ∀ {vs : List AV} {xs : List V}, RVs K G m H vs xs → RVs K G m' H' vs xs
  | _, _, .nil => .nil
  | _, _, .cons r t => .cons (RV.mono s e r) (RVs.mono s e t)
end
mutual
theorem RV.keepT (k : ∀ (a : Addr) (vs : List V), H a = some (.tup vs) → H' a = some (.tup vs)) : ∀ {v : AV} {x : V}, RV K G m H v x → RV K G m H' v x
  | _, _, .non => .non
  | _, _, .bl b => .bl b
  | _, _, .int i => .int i
  | _, _, .str z => .str z
  | _, _, .ty n => .ty n
  | _, _, .tup h r => .tup (k _ _ h) (RVs.keepT k r)
  | _, _, .ref h => .ref h
  | _, _, .glo x => .glo x
theorem RVs.keepT (k : ∀ (a : Addr) (vs : List V), H a = some (.tup vs) → H' a = some (.tup vs)) : ∀ {vs : List AV} {xs : List V}, RVs K G m H vs xs → RVs K G m H' vs xs
  | _, _, .nil => .nil
  | _, _, .cons r t => .cons (RV.keepT k r) (RVs.keepT k t)
end
theorem RVs.length : ∀ {vs : List AV} {xs : List V}, RVs K G m H vs xs → vs.length = xs.length
  | _, _, .nil => rfl
  | _, _, .cons _ t => by rw [List.length_cons, List.length_cons, RVs.length t]
theorem RVs.get : ∀ {vs : List AV} {xs : List V} {i : Nat} {v : AV}, RVs K G m H vs xs → vs[i]? = some v → ∃ x, xs[i]? = some x ∧ RV K G m H v x
  | _, _, _, _, .nil, h => by simp at h
  | _, _, 0, _, .cons r _, h => by simp at h; subst h; exact ⟨_, rfl, r⟩
  | _, _, i + 1, _, .cons _ t, h => by
    obtain ⟨x, e, r⟩ := RVs.get (i := i) t (by simpa using h)
    exact ⟨x, by simpa using e, r⟩
theorem RVs.append : ∀ {vs ws : List AV} {xs ys : List V}, RVs K G m H vs xs → RVs K G m H ws ys → RVs K G m H (vs ++ ws) (xs ++ ys)
  | _, _, _, _, .nil, h => h
  | _, _, _, _, .cons r t, h => .cons r (RVs.append t h)
theorem RVs.set {v : AV} {x : V} (r : RV K G m H v x) : ∀ {vs : List AV} {xs : List V} (i : Nat), RVs K G m H vs xs → RVs K G m H (vs.set i v) (xs.set i x)
  | _, _, _, .nil => .nil
  | _, _, 0, .cons _ t => .cons r t
  | _, _, i + 1, .cons q t => .cons q (RVs.set r i t)
theorem RVs.take : ∀ {vs : List AV} {xs : List V} (n : Nat), RVs K G m H vs xs → RVs K G m H (vs.take n) (xs.take n)
  | _, _, 0, _ => .nil
  | _, _, _ + 1, .nil => .nil
  | _, _, n + 1, .cons r t => .cons r (RVs.take n t)
theorem RVs.drop : ∀ {vs : List AV} {xs : List V} (n : Nat), RVs K G m H vs xs → RVs K G m H (vs.drop n) (xs.drop n)
  | _, _, 0, h => h
  | _, _, _ + 1, .nil => .nil
  | _, _, n + 1, .cons _ t => RVs.drop n t
theorem RVs.reverse {vs : List AV} {xs : List V} (h : RVs K G m H vs xs) : RVs K G m H vs.reverse xs.reverse := by
  induction vs generalizing xs with
  | nil => cases h; exact .nil
  | cons v vs ih =>
    cases h with
    | cons r t =>
      rw [List.reverse_cons, List.reverse_cons]
      exact (ih t).append (.cons r .nil)
theorem RVs.nil_iff {vs : List AV} {xs : List V} (h : RVs K G m H vs xs) : vs.isEmpty = xs.isEmpty := by
  cases h <;> rfl
theorem RVs.rep {vs : List AV} {xs : List V} (h : RVs K G m H vs xs) : ∀ k : Nat, RVs K G m H (List.replicate k vs).flatten (List.replicate k xs).flatten
  | 0 => .nil
  | k + 1 => by
    rw [List.replicate_succ, List.replicate_succ, List.flatten_cons, List.flatten_cons]
    exact h.append (RVs.rep h k)
theorem paired_mono {κ κ' : Type} {F : κ → κ' → Prop} (s : SM K G m S H) (e : Ex m m' H H') {l : List (κ × AV)} {l' : List (κ' × V)} (h : Paired (fun (p : κ × AV) (q : κ' × V) => F p.1 q.1 ∧ RV K G m H p.2 q.2) l l') :
    Paired (fun (p : κ × AV) (q : κ' × V) => F p.1 q.1 ∧ RV K G m' H' p.2 q.2) l l' := L2.Paired.mapP h fun _ _ z => ⟨z.1, z.2.mono s e⟩

/-- the object still stands so -/
theorem RO.keep {a d : Addr} {o : AO} (s : SM K G m S H) (e : Ex m m' H H') (hh : H' a = H a) (r : RO K G m H a d o) : RO K G m' H' a d o := by
  cases r with
  | lst e1 h r => exact .lst e1 (hh.trans h) (r.mono s e)
  | lstR e1 h r =>
    refine .lstR e1 ?_ (r.mono s e)
    rcases h with h | ⟨q, h⟩
    · exact .inl (hh.trans h)
    · exact .inr ⟨q, hh.trans h⟩
  | dk e1 h r => exact .dk e1 (hh.trans h) (paired_mono (F := fun a b => kA a = some b) s e r)
  | dt e1 h r => exact .dt e1 (hh.trans h) (paired_mono (F := fun a b => kT a = some b) s e r)
  | dkR e1 h r => exact .dkR e1 (hh.trans h) (paired_mono (F := fun a b => kA a = some b) s e r)
  | dtR e1 h r nn => exact .dtR e1 (hh.trans h) (paired_mono (F := fun a b => kT a = some b) s e r) nn

/-! ### the environment -/
def RS (K : PySem.W.Frag) (G : Str → Addr) (m : Mp) (H : Hp) (o : Option AV) (u : Option V) : Prop := ∀ v, o = some v → ∃ x, u = some x ∧ RV K G m H v x
abbrev RE (K : PySem.W.Frag) (G : Str → Addr) (m : Mp) (H : Hp) (r : Env) (σ : L2.St) : Prop := Paired (RS K G m H) r σ
theorem RE.mono {r : Env} {σ : L2.St} (s : SM K G m S H) (e : Ex m m' H H') (h : RE K G m H r σ) : RE K G m' H' r σ := L2.Paired.mapP h fun _ _ z v hv => by
  obtain ⟨x, e1, r⟩ := z v hv
  exact ⟨x, e1, r.mono s e⟩
theorem RE.get {r : Env} {σ : L2.St} (h : RE K G m H r σ) {i : Nat} {v : AV} (e : r[i]? = some (some v)) : ∃ x, σ[i]? = some (some x) ∧ RV K G m H v x := by
  obtain ⟨u, e1, z⟩ := paired_get h e
  obtain ⟨x, rfl, q⟩ := z v rfl
  exact ⟨x, e1, q⟩
theorem paired_set {α β : Type} {F : α → β → Prop} {a : α} {b : β} (r : F a b) : ∀ {l : List α} {l' : List β} (i : Nat), Paired F l l' → Paired F (l.set i a) (l'.set i b)
  | _, _, _, .nil => .nil
  | _, _, 0, .cons _ t => .cons r t
  | _, _, i + 1, .cons q t => .cons q (paired_set r i t)
theorem RE.set {r : Env} {σ : L2.St} (h : RE K G m H r σ) (i : Nat) {v : AV} {x : V} (q : RV K G m H v x) : RE K G m H (r.set i (some v)) (σ.set i (some x)) :=
  paired_set (fun w e => by cases e; exact ⟨x, rfl, q⟩) i h
theorem RE.wip {r : Env} {σ : L2.St} (h : RE K G m H r σ) : ∀ vs : List Nat, RE K G m H (wip r vs) (wipe σ vs)
  | [] => h
  | v :: vs => paired_set (fun w e => by cases e) v (RE.wip h vs)
theorem RE.start {vs : List AV} {xs : List V} (h : RVs K G m H vs xs) (N : List Str) : RE K G m H (vs.map some ++ List.replicate (N.length - vs.length) none) (L2.start N xs) := by
  unfold L2.start
  rw [h.length]
  have h2 : ∀ n : Nat, Paired (RS K G m H) (List.replicate n none) (List.replicate n none) := fun n => by
    induction n with
    | zero => exact .nil
    | succ n ih => exact .cons (show RS K G m H none none from fun _ e => by cases e) ih
  have h1 : ∀ {vs : List AV} {xs : List V}, RVs K G m H vs xs → ∀ {l : Env} {l' : L2.St}, RE K G m H l l' → RE K G m H (vs.map some ++ l) (xs.map some ++ l') := by
    intro vs
    induction vs with
    | nil => intro xs h l l' q; cases h; exact q
    | cons v vs ih =>
      intro xs h l l' q
      cases h with
      | cons r t => exact .cons (fun w e => by cases e; exact ⟨_, rfl, r⟩) (ih t q)
  exact h1 h (h2 _)

/-! ### an exception -/
/-- of an own class c, perhaps with a field -/
def RX (K : PySem.W.Frag) (G : Str → Addr) (m : Mp) (H : Hp) (c : Str) (p : Option (Str × AV)) (cls : Value) (d : Option Addr) : Prop :=
  cls = .ref (G c) ∧ ∀ f v, p = some (f, v) → ∃ b x, d = some b ∧ H b = some (.xd [(f, x)]) ∧ RV K G m H v x

/-! ### what is wanted, told by the machine's result -/
def Post {α β : Type} (K : PySem.W.Frag) (G : Str → Addr) (R : Mp → Hp → α → β → Prop) (W : WX) (σ : L2.St) (m : Mp) (H : Hp) (r : Res α) (Q : β → Hp → Prop) : Prop := match r with
  | .ok v S => ∀ m' H' x, Ex m m' H H' → SM K G m' S H' → R m' H' v x → Q x H'
  | .ex c p S => ∀ m' H' cls d, Ex m m' H H' → SM K G m' S H' → RX K G m' H' c p cls d → W cls d σ H'
  | .bad => False
section
variable {α β α' β' : Type} {R : Mp → Hp → α → β → Prop} {R' : Mp → Hp → α' → β' → Prop} {W : WX} {σ : L2.St}
theorem Post.ext {r : Res α} {Q : β → Hp → Prop} (e : Ex m m' H H') (h : Post K G R W σ m H r Q) : Post K G R W σ m' H' r Q := by
  cases r with
  | ok v S => exact fun m2 H2 x e2 s q => h m2 H2 x (e.trans e2) s q
  | ex c p S => exact fun m2 H2 cls d e2 s q => h m2 H2 cls d (e.trans e2) s q
  | bad => exact h
theorem Post.imp {r : Res α} {Q Q' : β → Hp → Prop} (h : Post K G R W σ m H r Q) (k : ∀ x H1, Q x H1 → Q' x H1) : Post K G R W σ m H r Q' := by
  cases r with
  | ok v S => exact fun m2 H2 x e2 s q => k _ _ (h m2 H2 x e2 s q)
  | ex c p S => exact h
  | bad => exact h
/-- the first part of a row of two, what comes behind it said by the second -/
theorem Post.bind {r : Res α} {g : α → Sto → Res α'} {Q : β' → Hp → Prop} {Q' : β → Hp → Prop} (h : Post K G R' W σ m H (r.bind g) Q)
    (k : ∀ m1 H1 v S1 x, Ex m m1 H H1 → SM K G m1 S1 H1 → R m1 H1 v x → Post K G R' W σ m1 H1 (g v S1) Q → Q' x H1) : Post K G R W σ m H r Q' := by
  cases r with
  | ok v S => exact fun m1 H1 x e s q => k m1 H1 v S x e s q (Post.ext e h)
  | ex c p S => exact h
  | bad => exact h
end
theorem Post.ok {α β : Type} {R : Mp → Hp → α → β → Prop} {W : WX} {σ : L2.St} {v : α} {x : β} {Q : β → Hp → Prop} (h : Post K G R W σ m H (.ok v S) Q) (s : SM K G m S H) (r : R m H v x) : Q x H := h m H x .refl s r
/-- an object more -/
theorem SM.push {p : Addr} {o : AO} {u : HO} (s : SM K G m S H) (hp : H p = none) (hr : ∀ m' H', Ex m m' H H' → m' = m ++ [(p, p)] → H' = upd H p u → RO K G m' H' p p o) :
    SM K G (m ++ [(p, p)]) (S ++ [o]) (upd H p u) ∧ Ex m (m ++ [(p, p)]) H (upd H p u) := by
  have np : ¬ Fp m p := s.none_not hp
  have ex : Ex m (m ++ [(p, p)]) H (upd H p u) := by
    refine ⟨List.prefix_append _ _, fun b o h n => ?_, fun b f => ?_, fun b o u h => by rw [upd_ne (ne_of_none h hp)]; exact h⟩
    · rw [upd_ne (ne_of_none h hp)]; exact h
    · obtain ⟨q, hq, e⟩ := f
      rcases List.mem_append.mp hq with hq | hq
      · exact .inl ⟨q, hq, e⟩
      · have e2 : q = (p, p) := by simpa using hq
        subst e2
        have e3 : b = p := by rcases e with e | e <;> exact e
        subst e3
        exact .inr hp
  refine ⟨⟨?_, fun i a d o' h1 h2 => ?_, fun i j q q' h1 h2 hij => ?_⟩, ex⟩
  · rw [List.length_append, List.length_append, s.len]; rfl
  · by_cases hi : i < m.length
    · rw [List.getElem?_append_left hi] at h1
      rw [List.getElem?_append_left (by rw [← s.len]; exact hi)] at h2
      have fa : Fp m a := ⟨_, List.mem_of_getElem? h1, .inl rfl⟩
      have na : a ≠ p := fun z => np (z ▸ fa)
      exact (s.obj i a d o' h1 h2).keep s ex (upd_ne na)
    · have hl : i = m.length := by
        have := (List.getElem?_eq_some_iff.mp h1).1
        rw [List.length_append, List.length_singleton] at this
        omega
      subst hl
      rw [List.getElem?_append_right (Nat.le_refl _), Nat.sub_self] at h1
      rw [s.len, List.getElem?_append_right (Nat.le_refl _), Nat.sub_self] at h2
      cases h1; cases h2
      exact hr _ _ ex rfl rfl
  · have key : ∀ (i j : Nat) (q q' : Addr × Addr), (m ++ [(p, p)])[i]? = some q → (m ++ [(p, p)])[j]? = some q' → i < j → q.1 ≠ q'.1 ∧ q.1 ≠ q'.2 ∧ q.2 ≠ q'.1 ∧ q.2 ≠ q'.2 := by
      intro i j q q' h1 h2 hlt
      have hj : j < m.length + 1 := by
        have := (List.getElem?_eq_some_iff.mp h2).1
        rw [List.length_append, List.length_singleton] at this
        exact this
      have hi : i < m.length := by omega
      rw [List.getElem?_append_left hi] at h1
      by_cases hj2 : j < m.length
      · rw [List.getElem?_append_left hj2] at h2
        exact s.ap i j q q' h1 h2 (Nat.ne_of_lt hlt)
      · have e : j = m.length := by omega
        subst e
        rw [List.getElem?_append_right (Nat.le_refl _), Nat.sub_self] at h2
        cases h2
        have n1 : q.1 ≠ p := fun z => np ⟨q, List.mem_of_getElem? h1, .inl z.symm⟩
        have n2 : q.2 ≠ p := fun z => np ⟨q, List.mem_of_getElem? h1, .inr z.symm⟩
        exact ⟨n1, n1, n2, n2⟩
    rcases Nat.lt_or_gt_of_ne hij with z | z
    · exact key i j q q' h1 h2 z
    · obtain ⟨a, b, c, d⟩ := key j i q' q h2 h1 z
      exact ⟨a.symm, c.symm, b.symm, d.symm⟩
/-- the object at i is another one now -/
theorem SM.write {i : Nat} {p d : Addr} {o : AO} {u : HO} (s : SM K G m S H) (hi : m[i]? = some (p, d)) (hd : d = p) (nf : ∀ q w, H p ≠ some (.frz q w)) (hr : ∀ H', H' = upd H p u → Ex m m H H' → RO K G m H' p d o) :
    SM K G m (S.set i o) (upd H p u) ∧ Ex m m H (upd H p u) := by
  have fp : Fp m p := ⟨_, List.mem_of_getElem? hi, .inl rfl⟩
  have ex : Ex m m H (upd H p u) := ⟨List.prefix_refl _, fun b o h n => by
    have : b ≠ p := fun z => n (z ▸ fp)
    rw [upd_ne this]; exact h, fun b f => .inl f, fun b q w h => by
    have : b ≠ p := fun z => nf q w (z ▸ h)
    rw [upd_ne this]; exact h⟩
  refine ⟨⟨?_, fun j a e o' h1 h2 => ?_, s.ap⟩, ex⟩
  · rw [List.length_set]; exact s.len
  · by_cases hj : j = i
    · subst hj
      rw [hi] at h1; cases h1
      have hl : j < S.length := by rw [← s.len]; exact (List.getElem?_eq_some_iff.mp hi).1
      rw [List.getElem?_set_self hl] at h2
      cases h2
      exact hr _ rfl ex
    · rw [List.getElem?_set_ne (Ne.symm hj)] at h2
      have na : a ≠ p := (s.ap j i _ _ h1 hi hj).1
      exact (s.obj j a e o' h1 h2).keep s ex (upd_ne na)
/-- a new tuple: the store stays -/
theorem SM.newTup {p : Addr} {vs : List V} (s : SM K G m S H) (hp : H p = none) : SM K G m S (upd H p (.tup vs)) ∧ Ex m m H (upd H p (.tup vs)) := by
  have np : ¬ Fp m p := s.none_not hp
  have ex : Ex m m H (upd H p (.tup vs)) := ⟨List.prefix_refl _, fun b o h n => by rw [upd_ne (ne_of_none h hp)]; exact h, fun b f => .inl f, fun b o u h => by rw [upd_ne (ne_of_none h hp)]; exact h⟩
  refine ⟨⟨s.len, fun j a e o' h1 h2 => ?_, s.ap⟩, ex⟩
  have na : a ≠ p := fun z => np (z ▸ ⟨_, List.mem_of_getElem? h1, .inl rfl⟩)
  exact (s.obj j a e o' h1 h2).keep s ex (upd_ne na)
/-- the object at i is told anew (as locked, as free), it alone -/
theorem SM.swap {i : Nat} {p d : Addr} {o : AO} {u : HO} (s : SM K G m S H) (hi : m[i]? = some (p, d)) (hu : ∀ xs, ¬ (u = .tup xs)) (hr : ∀ H', H' = upd H p u → (∀ v x, RV K G m H v x → RV K G m H' v x) → RO K G m H' p d o) :
    SM K G m (S.set i o) (upd H p u) ∧ ∀ v x, RV K G m H v x → RV K G m (upd H p u) v x := by
  have fp : Fp m p := ⟨_, List.mem_of_getElem? hi, .inl rfl⟩
  have np : ∀ {a : Addr} {vs : List V}, H a = some (.tup vs) → a ≠ p := fun {a vs} h z => s.tup_not (.inl h) (z ▸ fp)
  have keepT : ∀ (a : Addr) (vs : List V), H a = some (.tup vs) → upd H p u a = some (.tup vs) := fun a vs h => by rw [upd_ne (np h)]; exact h
  have mono : (∀ v x, RV K G m H v x → RV K G m (upd H p u) v x) ∧ ∀ vs xs, RVs K G m H vs xs → RVs K G m (upd H p u) vs xs := ⟨fun _ _ r => r.keepT keepT, fun _ _ r => r.keepT keepT⟩
  have pm : ∀ {κ κ' : Type} {F : κ → κ' → Prop} {l : List (κ × AV)} {l' : List (κ' × V)}, Paired (fun (p : κ × AV) (q : κ' × V) => F p.1 q.1 ∧ RV K G m H p.2 q.2) l l' → Paired (fun (a : κ × AV) (q : κ' × V) => F a.1 q.1 ∧ RV K G m (upd H p u) a.2 q.2) l l' :=
    fun h => L2.Paired.mapP h fun _ _ z => ⟨z.1, mono.1 _ _ z.2⟩
  refine ⟨⟨?_, fun j a e o' h1 h2 => ?_, s.ap⟩, mono.1⟩
  · rw [List.length_set]; exact s.len
  · by_cases hj : j = i
    · subst hj
      rw [hi] at h1; cases h1
      have hl : j < S.length := by rw [← s.len]; exact (List.getElem?_eq_some_iff.mp hi).1
      rw [List.getElem?_set_self hl] at h2
      cases h2
      exact hr _ rfl mono.1
    · rw [List.getElem?_set_ne (Ne.symm hj)] at h2
      have na : a ≠ p := (s.ap j i _ _ h1 hi hj).1
      cases s.obj j a e o' h1 h2 with
      | lst e1 h r => exact .lst e1 (by rw [upd_ne na]; exact h) (mono.2 _ _ r)
      | lstR e1 h r =>
        refine .lstR e1 ?_ (mono.2 _ _ r)
        rcases h with h | ⟨q, h⟩
        · exact .inl (by rw [upd_ne na]; exact h)
        · exact .inr ⟨q, by rw [upd_ne na]; exact h⟩
      | dk e1 h r => exact .dk e1 (by rw [upd_ne na]; exact h) (pm (F := fun a b => kA a = some b) r)
      | dt e1 h r => exact .dt e1 (by rw [upd_ne na]; exact h) (pm (F := fun a b => kT a = some b) r)
      | dkR e1 h r => exact .dkR e1 (by rw [upd_ne na]; exact h) (pm (F := fun a b => kA a = some b) r)
      | dtR e1 h r nn => exact .dtR e1 (by rw [upd_ne na]; exact h) (pm (F := fun a b => kT a = some b) r) nn
/-- a list that is not the store's is written -/
theorem SM.beside {q : Addr} {ys zs : List V} (s : SM K G m S H) (nf : ¬ Fp m q) (h : H q = some (.lst ys)) : SM K G m S (upd H q (.lst zs)) := by
  have ke : ∀ (a : Addr) (vs : List V), H a = some (.tup vs) → upd H q (.lst zs) a = some (.tup vs) := fun a vs e => by
    have : a ≠ q := fun z => by subst z; rw [h] at e; cases e
    rw [upd_ne this]; exact e
  have pm : ∀ {κ κ' : Type} {F : κ → κ' → Prop} {l : List (κ × AV)} {l' : List (κ' × V)}, Paired (fun (p : κ × AV) (q : κ' × V) => F p.1 q.1 ∧ RV K G m H p.2 q.2) l l' → Paired (fun (a : κ × AV) (b : κ' × V) => F a.1 b.1 ∧ RV K G m (upd H q (.lst zs)) a.2 b.2) l l' :=
    fun h => L2.Paired.mapP h fun _ _ z => ⟨z.1, z.2.keepT ke⟩
  refine ⟨s.len, fun j a e o' h1 h2 => ?_, s.ap⟩
  have na : a ≠ q := fun z => nf (z ▸ ⟨_, List.mem_of_getElem? h1, .inl rfl⟩)
  cases s.obj j a e o' h1 h2 with
  | lst e1 h r => exact .lst e1 (by rw [upd_ne na]; exact h) (r.keepT ke)
  | lstR e1 h r =>
    refine .lstR e1 ?_ (r.keepT ke)
    rcases h with h | ⟨q, h⟩
    · exact .inl (by rw [upd_ne na]; exact h)
    · exact .inr ⟨q, by rw [upd_ne na]; exact h⟩
  | dk e1 h r => exact .dk e1 (by rw [upd_ne na]; exact h) (pm (F := fun a b => kA a = some b) r)
  | dt e1 h r => exact .dt e1 (by rw [upd_ne na]; exact h) (pm (F := fun a b => kT a = some b) r)
  | dkR e1 h r => exact .dkR e1 (by rw [upd_ne na]; exact h) (pm (F := fun a b => kA a = some b) r)
  | dtR e1 h r nn => exact .dtR e1 (by rw [upd_ne na]; exact h) (pm (F := fun a b => kT a = some b) r) nn
theorem RE.keepT {r : Env} {σ : L2.St} (k : ∀ (a : Addr) (vs : List V), H a = some (.tup vs) → H' a = some (.tup vs)) (h : RE K G m H r σ) : RE K G m H' r σ := L2.Paired.mapP h fun _ _ z v hv => by
  obtain ⟨x, e1, r⟩ := z v hv
  exact ⟨x, e1, r.keepT k⟩
mutual
/-- more objects behind -/
theorem RV.more (h : m <+: m') : ∀ {v : AV} {x : V}, RV K G m H v x → RV K G m' H v x
  | _, _, .non => .non
  | _, _, .bl b => .bl b
  | _, _, .int i => .int i
  | _, _, .str z => .str z
  | _, _, .ty n => .ty n
  | _, _, .tup q r => .tup q (RVs.more h r)
  | _, _, .ref q => .ref (pre_get h q)
  | _, _, .glo x => .glo x
theorem RVs.more (h : m <+: m') : ∀ {vs : List AV} {xs : List V}, RVs K G m H vs xs → RVs K G m' H vs xs
  | _, _, .nil => .nil
  | _, _, .cons r t => .cons (RV.more h r) (RVs.more h t)
end
theorem paired_more {κ κ' : Type} {F : κ → κ' → Prop} (h : m <+: m') {l : List (κ × AV)} {l' : List (κ' × V)} (q : Paired (fun (p : κ × AV) (q : κ' × V) => F p.1 q.1 ∧ RV K G m H p.2 q.2) l l') :
    Paired (fun (p : κ × AV) (q : κ' × V) => F p.1 q.1 ∧ RV K G m' H p.2 q.2) l l' := L2.Paired.mapP q fun _ _ z => ⟨z.1, z.2.more h⟩
theorem RO.more (h : m <+: m') {a d : Addr} {o : AO} (r : RO K G m H a d o) : RO K G m' H a d o := by
  cases r with
  | lst e1 g r => exact .lst e1 g (r.more h)
  | lstR e1 g r => exact .lstR e1 g (r.more h)
  | dk e1 g r => exact .dk e1 g (paired_more (F := fun a b => kA a = some b) h r)
  | dt e1 g r => exact .dt e1 g (paired_more (F := fun a b => kT a = some b) h r)
  | dkR e1 g r => exact .dkR e1 g (paired_more (F := fun a b => kA a = some b) h r)
  | dtR e1 g r nn => exact .dtR e1 g (paired_more (F := fun a b => kT a = some b) h r) nn
theorem ap_push {q : Addr} (ap : ∀ (i j : Nat) (p q : Addr × Addr), m[i]? = some p → m[j]? = some q → i ≠ j → p.1 ≠ q.1 ∧ p.1 ≠ q.2 ∧ p.2 ≠ q.1 ∧ p.2 ≠ q.2) (np : ¬ Fp m q) {i j : Nat} {w w' : Addr × Addr}
    (h1 : (m ++ [(q, q)])[i]? = some w) (h2 : (m ++ [(q, q)])[j]? = some w') (hij : i ≠ j) : w.1 ≠ w'.1 ∧ w.1 ≠ w'.2 ∧ w.2 ≠ w'.1 ∧ w.2 ≠ w'.2 := by
  have key : ∀ (i j : Nat) (w w' : Addr × Addr), (m ++ [(q, q)])[i]? = some w → (m ++ [(q, q)])[j]? = some w' → i < j → w.1 ≠ w'.1 ∧ w.1 ≠ w'.2 ∧ w.2 ≠ w'.1 ∧ w.2 ≠ w'.2 := by
    intro i j w w' h1 h2 hlt
    have hj : j < m.length + 1 := by
      have := (List.getElem?_eq_some_iff.mp h2).1
      rw [List.length_append, List.length_singleton] at this
      exact this
    have hi : i < m.length := by omega
    rw [List.getElem?_append_left hi] at h1
    by_cases hj2 : j < m.length
    · rw [List.getElem?_append_left hj2] at h2
      exact ap i j w w' h1 h2 (Nat.ne_of_lt hlt)
    · have e : j = m.length := by omega
      subst e
      rw [List.getElem?_append_right (Nat.le_refl _), Nat.sub_self] at h2
      cases h2
      have n1 : w.1 ≠ q := fun z => np ⟨w, List.mem_of_getElem? h1, .inl z.symm⟩
      have n2 : w.2 ≠ q := fun z => np ⟨w, List.mem_of_getElem? h1, .inr z.symm⟩
      exact ⟨n1, n1, n2, n2⟩
  rcases Nat.lt_or_gt_of_ne hij with z | z
  · exact key i j w w' h1 h2 z
  · obtain ⟨a, b, c, d⟩ := key j i w' w h2 h1 z
    exact ⟨a.symm, c.symm, b.symm, d.symm⟩
end
end Mc
end
section
set_option Elab.async false
set_option linter.all false
set_option maxRecDepth 100000
set_option maxHeartbeats 1000000
/-! M3: each construct: what the machine does is what the program does. -/
namespace Mc
open PySem PySem.Spec PyProof.Rows L2

theorem pe_imp {X : Cx} {e : Expr} {t t' : TE} (h : PE X e t) (k : ∀ σ H Q, t' σ H Q → t σ H Q) : PE X e t' := ⟨fun pins s σ H Q I q => h.run pins s σ H Q I (k _ _ _ q)⟩
theorem pt_imp {X : Cx} {e : Expr} {t t' : TT} (h : PT X e t) (k : ∀ σ H Q, t' σ H Q → t σ H Q) : PT X e t' := ⟨fun pins s σ H Q I q => h.run pins s σ H Q I (k _ _ _ q)⟩
theorem pw_imp {X : Cx} {e : Expr} {t t' : TT} (h : PW X e t) (k : ∀ σ H Q, t' σ H Q → t σ H Q) : PW X e t' := ⟨fun wh pins s σ H Q I q => h.run wh pins s σ H Q I (k _ _ _ q)⟩
theorem pa_imp {X : Cx} {e : List Expr} {t t' : TA} (h : PA X e t) (k : ∀ σ H Q, t' σ H Q → t σ H Q) : PA X e t' := ⟨fun pos pins s σ H Q I q => h.run pos pins s σ H Q I (k _ _ _ q)⟩
theorem ps_imp {X : Cx} {e : Stmt} {t t' : TS} (h : PS X e t) (k : ∀ D σ H, t' D σ H → t D σ H) : PS X e t' := ⟨fun pins s σ H D I q => h.run pins s σ H D I (k _ _ _ q)⟩
theorem pss_imp {X : Cx} {e : List Stmt} {t t' : TS} (h : PSs X e t) (k : ∀ D σ H, t' D σ H → t D σ H) : PSs X e t' := ⟨fun pins s σ H D I q => h.run pins s σ H D I (k _ _ _ q)⟩
theorem pe_orM {X : Cx} {e : Expr} {t t' : TE} (h : PE X e t) (h' : PE X e t') : PE X e (fun σ H Q => t σ H Q ∨ t' σ H Q) := ⟨fun pins s σ H Q I q => q.elim (h.run pins s σ H Q I) (h'.run pins s σ H Q I)⟩
theorem ps_orM {X : Cx} {e : Stmt} {t t' : TS} (h : PS X e t) (h' : PS X e t') : PS X e (fun D σ H => t D σ H ∨ t' D σ H) := ⟨fun pins s σ H D I q => q.elim (h.run pins s σ H D I) (h'.run pins s σ H D I)⟩

abbrev RQ {α : Type} : Mp → Hp → α → α → Prop := fun _ _ a b => a = b
/-! ### the judgements: a construct, and the machine's function for it -/
section
variable (K : PySem.W.Frag) (G : Str → Addr) (W : WX)
def mE (f : DE) : TE := fun σ H Q => ∃ m r S, SM K G m S H ∧ RE K G m H r σ ∧ Post K G (RV K G) W σ m H (f r S) Q
def mT (f : DT) : TT := fun σ H Q => ∃ m r S, SM K G m S H ∧ RE K G m H r σ ∧ Post K G RQ W σ m H (f r S) Q
def mA (f : DA) : TA := fun σ H Q => ∃ m r S, SM K G m S H ∧ RE K G m H r σ ∧ Post K G (RVs K G) W σ m H (f r S) Q
/-- a statement's end -/
def PostS (D : Ends) (m : Mp) (H : Hp) : SR → Prop
  | .nx r S => ∀ m' σ' H', Ex m m' H H' → SM K G m' S H' → RE K G m' H' r σ' → D.nx σ' H'
  | .ret v S => ∀ m' H' x, Ex m m' H H' → SM K G m' S H' → RV K G m' H' v x → D.rt x H'
  | .brk r S => ∀ m' σ' H', Ex m m' H H' → SM K G m' S H' → RE K G m' H' r σ' → D.bk σ' H'
  | .cnt r S => ∀ m' σ' H', Ex m m' H H' → SM K G m' S H' → RE K G m' H' r σ' → D.ct σ' H'
  | .ex c p r S => ∀ m' σ' H' cls d, Ex m m' H H' → SM K G m' S H' → RE K G m' H' r σ' → RX K G m' H' c p cls d → W cls d σ' H'
  | .bad => False
def mS (f : DS) : TS := fun D σ H => ∃ m r S, SM K G m S H ∧ RE K G m H r σ ∧ PostS K G W D m H (f r S)
end
abbrev SE (X : Cx) (G : Str → Addr) (W : WX) (e : Expr) (f : DE) : Prop := PE X e (mE X.K G W f)
abbrev ST (X : Cx) (G : Str → Addr) (W : WX) (e : Expr) (f : DT) : Prop := PT X e (mT X.K G W f)
abbrev SW (X : Cx) (G : Str → Addr) (W : WX) (e : Expr) (f : DT) : Prop := PW X e (mT X.K G W f)
abbrev SA (X : Cx) (G : Str → Addr) (W : WX) (e : List Expr) (f : DA) : Prop := PA X e (mA X.K G W f)
abbrev SS (X : Cx) (G : Str → Addr) (W : WX) (e : Stmt) (f : DS) : Prop := PS X e (mS X.K G W f)
abbrev SSs (X : Cx) (G : Str → Addr) (W : WX) (e : List Stmt) (f : DS) : Prop := PSs X e (mS X.K G W f)

section
variable {K : PySem.W.Frag} {G : Str → Addr} {W : WX} {m m' : Mp} {H H' : Hp} {D D' : Ends} {r : Env} {S : Sto} {σ : L2.St}
theorem PostS.ext {x : SR} (e : Ex m m' H H') (h : PostS K G W D m H x) : PostS K G W D m' H' x := by
  cases x with
  | nx r S => exact fun m2 σ2 H2 e2 => h m2 σ2 H2 (e.trans e2)
  | ret v S => exact fun m2 H2 x e2 => h m2 H2 x (e.trans e2)
  | brk r S => exact fun m2 σ2 H2 e2 => h m2 σ2 H2 (e.trans e2)
  | cnt r S => exact fun m2 σ2 H2 e2 => h m2 σ2 H2 (e.trans e2)
  | ex c p r S => exact fun m2 σ2 H2 cls d e2 => h m2 σ2 H2 cls d (e.trans e2)
  | bad => exact h
/-- an expression, then a statement's end by it -/
theorem PostS.thn {α β : Type} {R : Mp → Hp → α → β → Prop} {x : Res α} {g : α → Sto → SR} {Q : β → Hp → Prop} (s : SM K G m S H) (re : RE K G m H r σ) (h : PostS K G W D m H (x.thn r g))
    (k : ∀ m1 H1 v S1 y, Ex m m1 H H1 → SM K G m1 S1 H1 → R m1 H1 v y → PostS K G W D m1 H1 (g v S1) → Q y H1) : Post K G R W σ m H x Q := by
  cases x with
  | ok v S => exact fun m1 H1 y e s1 q => k m1 H1 v S y e s1 q (PostS.ext e h)
  | ex c p S => exact fun m1 H1 cls d e s1 q => h m1 σ H1 cls d e s1 (re.mono s e) q
  | bad => exact h
end

theorem at_new {K : PySem.W.Frag} {G : Str → Addr} {m : Mp} {S : Sto} {H : Hp} (s : SM K G m S H) {p : Addr × Addr} : (m ++ [p])[S.length]? = some p := by rw [← s.len]; simp

/-- a new list -/
theorem post_lst {K : PySem.W.Frag} {G : Str → Addr} {W : WX} {σ : L2.St} {m : Mp} {S : Sto} {H : Hp} {Q : VK} {xs : List AV} {vs : List V} {q : Addr} (s : SM K G m S H) (r : RVs K G m H xs vs) (hq : H q = none)
    (p : Post K G (RV K G) W σ m H (new S (.lst false xs)) Q) : Q (.ref q) (upd H q (.lst vs)) := by
  obtain ⟨s', e'⟩ := s.push (o := .lst false xs) (u := .lst vs) hq (fun m' H' e hm hH => by subst hH; exact .lst rfl upd_same (r.mono s e))
  exact p _ _ _ e' s' (.ref (at_new s))
/-- a new tuple -/
theorem post_tup {K : PySem.W.Frag} {G : Str → Addr} {W : WX} {σ : L2.St} {m : Mp} {S : Sto} {H : Hp} {Q : VK} {xs : List AV} {vs : List V} {q : Addr} (s : SM K G m S H) (r : RVs K G m H xs vs) (hq : H q = none)
    (p : Post K G (RV K G) W σ m H (.ok (.tup xs) S) Q) : Q (.ref q) (upd H q (.tup vs)) := by
  obtain ⟨s', e'⟩ := s.newTup (vs := vs) hq
  exact p _ _ _ e' s' (.tup upd_same (r.mono s e'))

section
variable {X : Cx} {G : Str → Addr} {W : WX} {pos : Pos}
/-! ### names and constants -/
theorem se_loc (i : Nat) {x : Str} (hN : X.N[i]? = some x := by rfl) (hv : Vis X.env.scope x := by first | exact Or.inl rfl | exact Or.inr (Or.inl rfl) | exact Or.inr (Or.inr rfl)) (hd : (x == ("__debug__" : Str)) = false := by decide)
    (hcd : (x == ("__classdict__" : Str)) = false := by decide) : SE X G W (.Name x pos) (eLoc i) := by
  refine pe_imp (pe_var hN hv hd hcd) fun σ H Q ⟨m, r, S, s, re, p⟩ => ?_
  unfold eLoc at p
  split at p
  · next v e =>
    obtain ⟨x, e1, q⟩ := re.get e
    exact ⟨x, e1, p.ok s q⟩
  · exact p.elim
theorem se_k {e : Expr} {v : AV} {x : V} (h : PE X e (L2.tC x)) (hr : ∀ m H, RV X.K G m H v x) : SE X G W e (eK v) :=
  pe_imp h fun σ H Q ⟨m, r, S, s, re, p⟩ => Post.ok p s (hr m H)
theorem se_int {i j} : SE X G W (.Constant (.int i) j pos) (eK (.int i)) := se_k pe_int fun _ _ => .int i
theorem se_bl {b j} : SE X G W (.Constant (.bool b) j pos) (eK (.bl b)) := se_k pe_bl fun _ _ => .bl b
theorem se_non {j} : SE X G W (.Constant .none j pos) (eK .non) := se_k pe_non fun _ _ => .non
theorem se_str {x j} : SE X G W (.Constant (.str x) j pos) (eK (.str x)) := se_k pe_str fun _ _ => .str x
/-- a module's constant, a number -/
theorem se_gint {x : Str} {i : Int} {u : Value} (hg : Gl X x) (hm : X.mg x = some u) (r : RelV (.int i) u) (hd : (x == ("__debug__" : Str)) = false := by decide) : SE X G W (.Name x pos) (eK (.int i)) := se_k (pe_glob hg hm r hd) fun _ _ => .int i
theorem se_gstr {x z : Str} {u : Value} (hg : Gl X x) (hm : X.mg x = some u) (r : RelV (.str z) u) (hd : (x == ("__debug__" : Str)) = false := by decide) : SE X G W (.Name x pos) (eK (.str z)) := se_k (pe_glob hg hm r hd) fun _ _ => .str z

/-! ### operators -/
/-- a rule of the layer for two values, and the machine's function -/
def O2 (K : PySem.W.Frag) (G : Str → Addr) (f : AV → AV → Sto → Res AV) (R : R2) : Prop :=
  ∀ (m : Mp) (S : Sto) (H : Hp) (v w : AV) (x y : V) (W : WX) (σ : L2.St) (Q : VK), SM K G m S H → RV K G m H v x → RV K G m H w y → Post K G (RV K G) W σ m H (f v w S) Q → R x y H Q
def O1 (K : PySem.W.Frag) (G : Str → Addr) (f : AV → Sto → Res AV) (R : V → Hp → VK → Prop) : Prop :=
  ∀ (m : Mp) (S : Sto) (H : Hp) (v : AV) (x : V) (W : WX) (σ : L2.St) (Q : VK), SM K G m S H → RV K G m H v x → Post K G (RV K G) W σ m H (f v S) Q → R x H Q
/-- .. of an argument list -/
def OA (K : PySem.W.Frag) (G : Str → Addr) (f : List AV → Sto → Res AV) (R : List V → Hp → VK → Prop) : Prop :=
  ∀ (m : Mp) (S : Sto) (H : Hp) (v : List AV) (x : List V) (W : WX) (σ : L2.St) (Q : VK), SM K G m S H → RVs K G m H v x → Post K G (RV K G) W σ m H (f v S) Q → R x H Q
variable {a b c : Expr} {fa fb fc : DE}
theorem e2_tOp {R : R2} {f : AV → AV → Sto → Res AV} (ho : O2 X.K G f R) {σ : L2.St} {H : Hp} {Q : VK} (q : mE X.K G W (e2 f fa fb) σ H Q) : tOp R (mE X.K G W fa) (mE X.K G W fb) σ H Q := by
  obtain ⟨m, r, S, s, re, p⟩ := q
  refine ⟨m, r, S, s, re, Post.bind p fun m1 H1 v S1 x e1 s1 rv p1 => ?_⟩
  refine ⟨m1, r, S1, s1, re.mono s e1, Post.bind p1 fun m2 H2 w S2 y e2 s2 rw p2 => ?_⟩
  exact ho m2 S2 H2 v w x y W σ Q s2 (rv.mono s1 e2) rw p2
theorem se_bin {op : Operator} {R : R2} {f : AV → AV → Sto → Res AV} (hr : OpR X (binaryOp op) R) (ho : O2 X.K G f R) (ha : SE X G W a fa) (hb : SE X G W b fb) : SE X G W (.BinOp a op b pos) (e2 f fa fb) :=
  pe_imp (pe_op hr ha hb) fun _ _ _ q => e2_tOp ho q
theorem se_un {op : UnaryOp} {R : V → Hp → VK → Prop} {f : AV → Sto → Res AV} (hr : UnR X (unaryOp op) R) (ho : O1 X.K G f R) (ha : SE X G W a fa) : SE X G W (.UnaryOp op a pos) (e1 f fa) :=
  pe_imp (pe_un hr ha) fun σ H Q ⟨m, r, S, s, re, p⟩ => ⟨m, r, S, s, re, Post.bind p fun m1 H1 v S1 x e1 s1 rv p1 => ho m1 S1 H1 v x W σ Q s1 rv p1⟩
theorem se_cmp {op : CmpOp} {R : R2} {f : AV → AV → Sto → Res AV} (hr : OpR X (compareOp op) R) (ho : O2 X.K G f R) (ha : SE X G W a fa) (hb : SE X G W b fb) (hm : behindInMarks op b = false := by first | exact nomark _ | rfl) : SE X G W (.Compare a [op] [b] pos) (e2 f fa fb) :=
  pe_imp (pe_cmpR hr ha hb hm) fun _ _ _ q => e2_tOp ho q
theorem st_cmp {op : CmpOp} {R : R2} {f : AV → AV → Sto → Res AV} (hr : OpR X (compareOp op) R) (ho : O2 X.K G f R) (ha : SE X G W a fa) (hb : SE X G W b fb) (hm : behindInMarks op b = false := by first | exact nomark _ | rfl) : ST X G W (.Compare a [op] [b] pos) (tC f fa fb) :=
  pt_imp (pt_cmpR hr ha hb hm) fun σ H Q ⟨m, r, S, s, re, p⟩ => by
    refine ⟨m, r, S, s, re, Post.bind p fun m1 H1 v S1 x e1 s1 rv p1 => ?_⟩
    refine ⟨m1, r, S1, s1, re.mono s e1, Post.bind p1 fun m2 H2 w S2 y e2 s2 rw p2 => ?_⟩
    refine ho m2 S2 H2 v w x y W σ _ s2 (rv.mono s1 e2) rw (Post.bind p2 fun m3 H3 z S3 u e3 s3 rz p3 => ?_)
    split at p3
    · cases rz
      exact ⟨_, rfl, Post.ok p3 s3 rfl⟩
    · exact p3.elim

theorem oAdd_ok : O2 X.K G oAdd (fun x y H Q => (rI0 (fun i j => .int (i + j))) x y H Q ∨ ((∃ i j, x = .str i ∧ y = .str j ∧ i.length + j.length ≤ sizeLine ∧ Q (.str (i ++ j)) H) ∨ (rCatA X.K x y H Q ∨ rCat x y H Q))) := by
  intro m S H v w x y W σ Q s rv rw p
  unfold oAdd at p
  split at p
  · cases rv; cases rw
    exact .inl ⟨_, _, rfl, rfl, p.ok s (.int _)⟩
  · cases rv; cases rw
    split at p
    · next h => exact .inr (.inl ⟨_, _, rfl, rfl, h, p.ok s (.str _)⟩)
    · exact p.elim
  · cases rv with
    | tup ha ra => cases rw with
      | tup hb rb =>
        split at p
        · next h =>
          refine .inr (.inr (.inl ⟨_, _, _, _, rfl, rfl, .of ha, .of hb, by rw [← ra.length, ← rb.length]; exact h, fun e => ?_, fun _ e => ?_, fun n1 n2 q hq => post_tup s (ra.append rb) hq p⟩))
          · subst e; cases ra
            exact p.ok s (.tup hb rb)
          · subst e; cases rb
            rw [List.append_nil] at p
            exact p.ok s (.tup ha ra)
        · exact p.elim
  · cases rv with
    | ref ha => cases rw with
      | ref hb =>
        split at p
        · next xs ys h1 h2 =>
          split at p
          · next h =>
            have r1 := s.obj _ _ _ _ ha h1
            have r2 := s.obj _ _ _ _ hb h2
            cases r1 with
            | lst e1 g1 q1 => cases r2 with
              | lst e2 g2 q2 =>
                refine .inr (.inr (.inr ⟨_, _, _, _, rfl, rfl, g1, g2, by rw [← q1.length, ← q2.length]; exact h, fun q hq => post_lst s (q1.append q2) hq p⟩))
          · exact p.elim
        · exact p.elim
  · exact p.elim
theorem op_addM : OpR X (binaryOp .Add) (fun x y H Q => (rI0 (fun i j => .int (i + j))) x y H Q ∨ ((∃ i j, x = .str i ∧ y = .str j ∧ i.length + j.length ≤ sizeLine ∧ Q (.str (i ++ j)) H) ∨ (rCatA X.K x y H Q ∨ rCat x y H Q))) :=
  op_add.or (op_add_str.or (op_catA.or op_cat))
theorem se_add (ha : SE X G W a fa) (hb : SE X G W b fb) : SE X G W (.BinOp a .Add b pos) (e2 oAdd fa fb) := se_bin op_addM oAdd_ok ha hb
end
end Mc
end
section
set_option Elab.async false
set_option linter.all false
set_option maxRecDepth 100000
set_option maxHeartbeats 1000000
/-! M4: operators, comparisons, tests, argument lists, displays. -/
namespace Mc
open PySem PySem.Spec PyProof.Rows L2
section
variable {X : Cx} {G : Str → Addr} {W : WX} {pos : Pos} {a b c d : Expr} {fa fb fc fd : DE}

theorem oSub_ok {K : PySem.W.Frag} : O2 K G oSub (rI0 fun i j => .int (i - j)) := by
  intro m S H v w x y W σ Q s rv rw p
  unfold oSub at p
  split at p
  · cases rv; cases rw
    exact ⟨_, _, rfl, rfl, p.ok s (.int _)⟩
  · exact p.elim
theorem se_sub (ha : SE X G W a fa) (hb : SE X G W b fb) : SE X G W (.BinOp a .Sub b pos) (e2 oSub fa fb) := se_bin op_sub oSub_ok ha hb
theorem oMul_ok : O2 X.K G oMul (fun x y H Q => (rI CMul (fun i j => .int (i * j))) x y H Q ∨ ((rI CMulW (fun i j => .int (i * j))) x y H Q ∨ rRep x y H Q)) := by
  intro m S H v w x y W σ Q s rv rw p
  unfold oMul at p
  split at p
  · cases rv; cases rw
    split at p
    · next h =>
      simp only [Bool.or_eq_true, decide_eq_true_eq] at h
      rcases h with (h | h) | h
      · unfold smA at h
        simp only [Bool.and_eq_true, decide_eq_true_eq] at h
        exact .inl ⟨_, _, rfl, rfl, .inl h, p.ok s (.int _)⟩
      · unfold smA at h
        simp only [Bool.and_eq_true, decide_eq_true_eq] at h
        exact .inl ⟨_, _, rfl, rfl, .inr h, p.ok s (.int _)⟩
      · exact .inr (.inl ⟨_, _, rfl, rfl, h, p.ok s (.int _)⟩)
    · exact p.elim
  · cases rv with
    | ref ha =>
      cases rw
      split at p
      · next xs h1 =>
        split at p
        · next h =>
          simp only [Bool.and_eq_true, decide_eq_true_eq] at h
          obtain ⟨⟨h2, h3⟩, h4⟩ := h
          cases s.obj _ _ _ _ ha h1 with
          | lst e1 g1 q1 =>
            refine .inr (.inr ⟨_, _, _, rfl, rfl, g1, h2, h3, by rw [← q1.length]; exact h4, fun q hq => post_lst s (q1.rep _) hq p⟩)
        · exact p.elim
      · exact p.elim
  · exact p.elim
theorem se_mul (ha : SE X G W a fa) (hb : SE X G W b fb) : SE X G W (.BinOp a .Mult b pos) (e2 oMul fa fb) := se_bin (op_mul.or (op_mulW.or op_rep)) oMul_ok ha hb
theorem oDiv_ok {K : PySem.W.Frag} : O2 K G oDiv (rI CDivW fun i j => .int (i / j)) := by
  intro m S H v w x y W σ Q s rv rw p
  unfold oDiv at p
  split at p
  · cases rv; cases rw
    split at p
    · next h =>
      simp only [Bool.and_eq_true, decide_eq_true_eq] at h
      exact ⟨_, _, rfl, rfl, h, p.ok s (.int _)⟩
    · exact p.elim
  · exact p.elim
theorem se_div (ha : SE X G W a fa) (hb : SE X G W b fb) : SE X G W (.BinOp a .FloorDiv b pos) (e2 oDiv fa fb) := se_bin op_fdivW oDiv_ok ha hb
theorem oMod_ok {K : PySem.W.Frag} : O2 K G oMod (rI (fun _ j => 0 < j) fun i j => .int (i % j)) := by
  intro m S H v w x y W σ Q s rv rw p
  unfold oMod at p
  split at p
  · cases rv; cases rw
    split at p
    · next h => exact ⟨_, _, rfl, rfl, of_decide_eq_true h, p.ok s (.int _)⟩
    · exact p.elim
  · exact p.elim
theorem se_mod (ha : SE X G W a fa) (hb : SE X G W b fb) : SE X G W (.BinOp a .Mod b pos) (e2 oMod fa fb) := se_bin op_mod oMod_ok ha hb
theorem oPow_ok {K : PySem.W.Frag} : O2 K G oPow (rI CPow fun i j => .int (i ^ j.toNat)) := by
  intro m S H v w x y W σ Q s rv rw p
  unfold oPow at p
  split at p
  · cases rv; cases rw
    split at p
    · next h =>
      simp only [Bool.and_eq_true, decide_eq_true_eq] at h
      exact ⟨_, _, rfl, rfl, ⟨h.1.1, h.1.2, h.2⟩, p.ok s (.int _)⟩
    · exact p.elim
  · exact p.elim
theorem se_pow (ha : SE X G W a fa) (hb : SE X G W b fb) : SE X G W (.BinOp a .Pow b pos) (e2 oPow fa fb) := se_bin op_pow oPow_ok ha hb
theorem oNeg_ok {K : PySem.W.Frag} : O1 K G oNeg (rU fun i => .int (-i)) := by
  intro m S H v x W σ Q s rv p
  unfold oNeg at p
  split at p
  · cases rv
    exact ⟨_, rfl, p.ok s (.int _)⟩
  · exact p.elim
theorem se_neg (ha : SE X G W a fa) : SE X G W (.UnaryOp .USub a pos) (e1 oNeg fa) := se_un un_neg oNeg_ok ha

/-! ### comparisons -/
theorem cInt_ok {K : PySem.W.Frag} (f : Int → Int → Bool) : O2 K G (cInt f) (rI0 fun i j => .bl (f i j)) := by
  intro m S H v w x y W σ Q s rv rw p
  unfold cInt at p
  split at p
  · cases rv; cases rw
    exact ⟨_, _, rfl, rfl, p.ok s (.bl _)⟩
  · exact p.elim
theorem optAll_map {α β : Type} {f : α → Option β} : ∀ {xs : List α} {ys : List β}, optAll (xs.map f) = some ys → Paired (fun x y => f x = some y) xs ys
  | [], ys, h => by cases h; exact .nil
  | x :: xs, ys, h => by
    rw [List.map_cons] at h
    cases e : f x with
    | none => rw [e] at h; cases h
    | some y =>
      rw [e] at h
      cases e2 : optAll (xs.map f) with
      | none => simp only [optAll, e2] at h; cases h
      | some zs =>
        simp only [optAll, e2] at h
        cases h
        exact .cons e (optAll_map e2)
/-- the data of a value is what the layer reads -/
theorem dat_ok {K : PySem.W.Frag} {m : Mp} {S : Sto} {H : Hp} (s : SM K G m S H) : ∀ (n : Nat) {v : AV} {x : V} {d : PyData}, RV K G m H v x → v.dat n S = some d → Dp K H x d
  | 0, _, _, _, _, h => by cases h
  | n + 1, v, x, d, r, h => by
    have all : ∀ {vs : List AV} {xs : List V} {ds : List PyData}, RVs K G m H vs xs → Paired (fun v d => v.dat n S = some d) vs ds → DpAll K H xs ds := by
      intro vs
      induction vs with
      | nil => intro xs ds r p; cases r; cases p; exact .nil
      | cons v vs ih =>
        intro xs ds r p
        cases r with
        | cons r t => cases p with
          | cons q u => exact .cons (dat_ok s n r q) (ih t u)
    cases r with
    | non => cases h; exact .non
    | bl b => cases h; exact .bl b
    | int i => cases h; exact .int i
    | str z => cases h; exact .str z
    | ty n => cases h
    | glo x => cases h
    | tup ha ra =>
      unfold AV.dat at h
      simp only [Option.map_eq_some_iff] at h
      obtain ⟨ds, e, rfl⟩ := h
      exact .tup (.of ha) (all ra (optAll_map e))
    | ref hi =>
      unfold AV.dat at h
      simp only at h
      split at h
      · next lk xs e1 =>
        simp only [Option.map_eq_some_iff] at h
        obtain ⟨ds, e, rfl⟩ := h
        cases s.obj _ _ _ _ hi e1 with
        | lst _ g q => exact .lst (.of g) (all q (optAll_map e))
        | lstR _ g q => exact .lst (.inl g) (all q (optAll_map e))
      · cases h
mutual
theorem dat_plain : ∀ {K : PySem.W.Frag} {H : Hp} (d : PyData) {x : V}, Dp K H x d → d.plain = true
  | _, _, _, _, .non => rfl
  | _, _, _, _, .bl _ => rfl
  | _, _, _, _, .int _ => rfl
  | _, _, _, _, .str _ => rfl
  | _, _, .list ds, _, .lst _ h => by simp only [PyData.plain]; exact dat_plainAll ds h
  | _, _, .tuple ds, _, .tup _ h => by simp only [PyData.plain]; exact dat_plainAll ds h
theorem dat_plainAll : ∀ {K : PySem.W.Frag} {H : Hp} (ds : List PyData) {xs : List V}, DpAll K H xs ds → PyData.plainAll ds = true
  | _, _, [], _, .nil => rfl
  | _, _, d :: ds, _, .cons h t => by simp only [PyData.plainAll, dat_plain d h, dat_plainAll ds t, Bool.and_self]
end
theorem dep_all {S : Sto} {n : Nat} (ih : ∀ {v : AV} {d : PyData}, v.dat n S = some d → d.depth ≤ n) : ∀ {vs : List AV} {ds : List PyData}, Paired (fun v d => v.dat n S = some d) vs ds → PyData.depthAll ds ≤ n
  | _, _, .nil => by simp [PyData.depthAll]
  | _, _, .cons q u => by
    have h1 := ih q
    have h2 := dep_all ih u
    simp only [PyData.depthAll]
    omega
theorem dat_depth {S : Sto} : ∀ (n : Nat) {v : AV} {d : PyData}, v.dat n S = some d → d.depth ≤ n
  | 0, _, _, h => by cases h
  | n + 1, v, d, h => by
    unfold AV.dat at h
    split at h
    · cases h; simp [PyData.depth]
    · cases h; simp [PyData.depth]
    · cases h; simp [PyData.depth]
    · cases h; simp [PyData.depth]
    · simp only [Option.map_eq_some_iff] at h
      obtain ⟨ds, e, rfl⟩ := h
      have := dep_all (fun {v d} q => dat_depth n q) (optAll_map e)
      simp only [PyData.depth]; omega
    · split at h
      · simp only [Option.map_eq_some_iff] at h
        obtain ⟨ds, e, rfl⟩ := h
        have := dep_all (fun {v d} q => dat_depth n q) (optAll_map e)
        simp only [PyData.depth]; omega
      · cases h
    · cases h
def rEqP (K : PySem.W.Frag) (g : Bool → Bool) : R2 := fun x y H Q => ∃ d e, Dp K H x d ∧ Dp K H y e ∧ d.depth ≤ DEPTH ∧ Q (.bl (g (PyData.eqv d e))) H
theorem op_eqP (hu : X.A.units + 64 < cLine) : OpR X (compareOp .Eq) (rEqP X.K id) := by
  intro pins s σ H x y v u Q I rx ry h
  obtain ⟨d, e, hd, he, hz, q⟩ := h
  obtain ⟨as, r1⟩ := Dp.reads I d x v hd rx
  obtain ⟨bs, r2⟩ := Dp.reads I e y u he ry
  have hm : min d.depth e.depth ≤ 12 := Nat.le_trans (Nat.min_le_left _ _) hz
  exact SeqAt.eq_plain r1 r2 (dat_plain d hd) (dat_plain e he) (by omega) ⟨.bl _, H, I, rfl, q⟩
theorem op_neP (hu : X.A.units + 64 < cLine) : OpR X (compareOp .NotEq) (rEqP X.K not) := by
  intro pins s σ H x y v u Q I rx ry h
  obtain ⟨d, e, hd, he, hz, q⟩ := h
  obtain ⟨as, r1⟩ := Dp.reads I d x v hd rx
  obtain ⟨bs, r2⟩ := Dp.reads I e y u he ry
  have hm : min d.depth e.depth ≤ 12 := Nat.le_trans (Nat.min_le_left _ _) hz
  exact SeqAt.ne_plain r1 r2 (dat_plain d hd) (dat_plain e he) (by omega) ⟨.bl _, H, I, rfl, q⟩
theorem cEq_ok {K : PySem.W.Frag} : O2 K G cEq (rEqP K id) := by
  intro m S H v w x y W σ Q s rv rw p
  unfold cEq eqA at p
  split at p
  · next b h =>
    split at h
    · next d e h1 h2 =>
      cases h
      exact ⟨d, e, dat_ok s _ rv h1, dat_ok s _ rw h2, dat_depth _ h1, p.ok s (.bl _)⟩
    · cases h
  · exact p.elim
theorem cNe_ok {K : PySem.W.Frag} : O2 K G cNe (rEqP K not) := by
  intro m S H v w x y W σ Q s rv rw p
  unfold cNe eqA at p
  split at p
  · next b h =>
    split at h
    · next d e h1 h2 =>
      cases h
      exact ⟨d, e, dat_ok s _ rv h1, dat_ok s _ rw h2, dat_depth _ h1, p.ok s (.bl _)⟩
    · cases h
  · exact p.elim
/-- the operators of comparison, each with its rule -/
structure Cmp (X : Cx) (G : Str → Addr) (op : CmpOp) (f : AV → AV → Sto → Res AV) : Prop where
  ex : ∃ R : R2, OpR X (compareOp op) R ∧ O2 X.K G f R
  nm : op ≠ .In ∧ op ≠ .NotIn
theorem k_lt : Cmp X G .Lt cLt := ⟨⟨_, op_lt, cInt_ok _⟩, by decide, by decide⟩
theorem k_le : Cmp X G .LtE cLe := ⟨⟨_, op_le, cInt_ok _⟩, by decide, by decide⟩
theorem k_gt : Cmp X G .Gt cGt := ⟨⟨_, op_gt, cInt_ok _⟩, by decide, by decide⟩
theorem k_ge : Cmp X G .GtE cGe := ⟨⟨_, op_ge, cInt_ok _⟩, by decide, by decide⟩
theorem k_eq (hu : X.A.units + 64 < cLine) : Cmp X G .Eq cEq := ⟨⟨_, op_eqP hu, cEq_ok⟩, by decide, by decide⟩
theorem k_ne (hu : X.A.units + 64 < cLine) : Cmp X G .NotEq cNe := ⟨⟨_, op_neP hu, cNe_ok⟩, by decide, by decide⟩
theorem se_c {op : CmpOp} {f : AV → AV → Sto → Res AV} (k : Cmp X G op f) (ha : SE X G W a fa) (hb : SE X G W b fb) : SE X G W (.Compare a [op] [b] pos) (e2 f fa fb) := by
  obtain ⟨⟨R, h1, h2⟩, n1, n2⟩ := k
  exact se_cmp h1 h2 ha hb (nobehind b n1 n2)
theorem st_c {op : CmpOp} {f : AV → AV → Sto → Res AV} (k : Cmp X G op f) (ha : SE X G W a fa) (hb : SE X G W b fb) : ST X G W (.Compare a [op] [b] pos) (tC f fa fb) := by
  obtain ⟨⟨R, h1, h2⟩, n1, n2⟩ := k
  exact st_cmp h1 h2 ha hb (nobehind b n1 n2)
end
end Mc
end
section
set_option Elab.async false
set_option linter.all false
set_option maxRecDepth 100000
set_option maxHeartbeats 1000000
/-! M5: chains, and, or, not, if, argument lists, displays, calls; statements. -/
namespace Mc
open PySem PySem.Spec PyProof.Rows L2
section
variable {X : Cx} {G : Str → Addr} {W : WX} {pos : Pos} {a b c d : Expr} {fa fb fc fd : DE}

theorem se_ch {op op' : CmpOp} {f g : AV → AV → Sto → Res AV} (k : Cmp X G op f) (k' : Cmp X G op' g) (ha : SE X G W a fa) (hb : SE X G W b fb) (hc : SE X G W c fc) (hm : lastMarks [op, op'] [b, c] = false := by rfl) : SE X G W (.Compare a [op, op'] [b, c] pos) (eCh f g fa fb fc) := by
  obtain ⟨⟨R, h1, h2⟩, n1, n2⟩ := k
  obtain ⟨⟨R', h1', h2'⟩, n1', n2'⟩ := k'
  refine pe_imp (pe_chain h1 h1' ha hb hc hm) fun σ H Q ⟨m, r, S, s, re, p⟩ => ?_
  refine ⟨m, r, S, s, re, Post.bind p fun m1 H1 v S1 x e1 s1 rv p1 => ?_⟩
  refine ⟨m1, r, S1, s1, re.mono s e1, Post.bind p1 fun m2 H2 w S2 y e2 s2 rw p2 => ?_⟩
  refine h2 m2 S2 H2 v w x y W σ _ s2 (rv.mono s1 e2) rw (Post.bind p2 fun m3 H3 z S3 u e3 s3 rz p3 => ?_)
  split at p3
  · next k =>
    cases rz
    refine ⟨k, rfl, ?_⟩
    cases k with
    | true =>
      rw [if_pos rfl] at p3 ⊢
      refine ⟨m3, r, S3, s3, (re.mono s e1).mono s1 (e2.trans e3), Post.bind p3 fun m4 H4 q S4 t e4 s4 rq p4 => ?_⟩
      exact h2' m4 S4 H4 w q y t W σ _ s4 ((rw.mono s2 e3).mono s3 e4) rq p4
    | false =>
      rw [if_neg Bool.false_ne_true] at p3 ⊢
      exact Post.ok p3 s3 (.bl _)
  · exact p3.elim
/-- a value that is True or False, as a test -/
theorem st_b (ha : SE X G W a fa) (he : ∀ whole, isTrue a X.env whole = (do let v ← whole; standAt a.pos; holding [v] (truthy v)) := by intro _; rfl) : ST X G W a (tB fa) :=
  pt_imp (pt_val ha he) fun σ H Q ⟨m, r, S, s, re, p⟩ => by
    refine ⟨m, r, S, s, re, Post.bind p fun m1 H1 v S1 x e1 s1 rv p1 => ?_⟩
    split at p1
    · cases rv
      exact ⟨_, rfl, Post.ok p1 s1 rfl⟩
    · exact p1.elim
theorem st_ch {op op' : CmpOp} {f g : AV → AV → Sto → Res AV} (k : Cmp X G op f) (k' : Cmp X G op' g) (ha : SE X G W a fa) (hb : SE X G W b fb) (hc : SE X G W c fc) (hm : lastMarks [op, op'] [b, c] = false := by rfl) : ST X G W (.Compare a [op, op'] [b, c] pos) (tB (eCh f g fa fb fc)) := by
  obtain ⟨⟨R, h1, h2⟩, n1, n2⟩ := k
  obtain ⟨⟨R', h1', h2'⟩, n1', n2'⟩ := k'
  refine pt_imp (pt_chain h1 h1' ha hb hc hm) fun σ H Q ⟨m, r, S, s, re, p⟩ => ?_
  unfold tB eCh at p
  refine ⟨m, r, S, s, re, ?_⟩
  have bb : ∀ {α β γ : Type} (x : Res α) (g : α → Sto → Res β) (h : β → Sto → Res γ), (x.bind g).bind h = x.bind fun v S => (g v S).bind h := fun x g h => by cases x <;> rfl
  simp only [bb] at p
  refine Post.bind p fun m1 H1 v S1 x e1 s1 rv p1 => ?_
  refine ⟨m1, r, S1, s1, re.mono s e1, Post.bind p1 fun m2 H2 w S2 y e2 s2 rw p2 => ?_⟩
  refine h2 m2 S2 H2 v w x y W σ _ s2 (rv.mono s1 e2) rw (Post.bind p2 fun m3 H3 z S3 u e3 s3 rz p3 => ?_)
  split at p3
  · next k =>
    cases rz
    refine ⟨k, rfl, ?_⟩
    cases k with
    | true =>
      simp only [if_true, bb] at p3 ⊢
      refine ⟨m3, r, S3, s3, (re.mono s e1).mono s1 (e2.trans e3), Post.bind p3 fun m4 H4 q S4 t e4 s4 rq p4 => ?_⟩
      refine h2' m4 S4 H4 w q y t W σ _ s4 ((rw.mono s2 e3).mono s3 e4) rq (Post.bind p4 fun m5 H5 z S5 u e5 s5 rz p5 => ?_)
      split at p5
      · cases rz
        exact ⟨_, rfl, Post.ok p5 s5 rfl⟩
      · exact p5.elim
    | false =>
      simp only [Bool.false_eq_true, if_false, Res.bind_ok] at p3 ⊢
      exact ⟨_, rfl, Post.ok p3 s3 rfl⟩
  · exact p3.elim
/-- any value by its truth -/
theorem truA_ok {K : PySem.W.Frag} {m : Mp} {S : Sto} {H : Hp} {v : AV} {x : V} {k : Bool} (s : SM K G m S H) (r : RV K G m H v x) (h : truA S v = some k) : TruV K x H k := by
  unfold truA at h
  cases r with
  | non => cases h; exact rfl
  | bl b => cases h; exact rfl
  | int i => cases h; exact rfl
  | str z =>
    simp only at h
    split at h
    · next hz => cases h; exact ⟨hz, rfl⟩
    · cases h
  | ty n => cases h
  | glo x => cases h
  | tup ha ra =>
    cases h
    exact .inr (.inl ⟨_, .of ha, by rw [ra.nil_iff]⟩)
  | ref hi =>
    simp only at h
    split at h
    · next e1 =>
      cases h
      cases s.obj _ _ _ _ hi e1 with
      | lst _ g q => exact .inl ⟨_, .of g, by rw [q.nil_iff]⟩
      | lstR _ g q => exact .inl ⟨_, .inl g, by rw [q.nil_iff]⟩
    · cases h
theorem st_v (ha : SE X G W a fa) (he : ∀ whole, isTrue a X.env whole = (do let v ← whole; standAt a.pos; holding [v] (truthy v)) := by intro _; rfl) : ST X G W a (tV fa) :=
  pt_imp (pt_truth ha he) fun σ H Q ⟨m, r, S, s, re, p⟩ => by
    refine ⟨m, r, S, s, re, Post.bind p fun m1 H1 v S1 x e1 s1 rv p1 => ?_⟩
    cases h : truA S1 v with
    | none => rw [h] at p1; exact p1.elim
    | some k =>
      rw [h] at p1
      exact ⟨k, truA_ok s1 rv h, Post.ok p1 s1 rfl⟩

/-! ### and, or, not, if -/
variable {rest : List Expr} {ta tb tc : DT}
theorem sw_and1 (ha : ST X G W a ta) : SW X G W (.BoolOp .And [a] pos) ta := pw_and1 ha
theorem sw_or1 (ha : ST X G W a ta) : SW X G W (.BoolOp .Or [a] pos) ta := pw_or1 ha
theorem sw_and (ha : ST X G W a ta) (hb : SW X G W (.BoolOp .And (b :: rest) pos) tb) : SW X G W (.BoolOp .And (a :: b :: rest) pos) (Mc.tAnd ta tb) :=
  pw_imp (pw_and ha hb) fun σ H Q ⟨m, r, S, s, re, p⟩ => by
    refine ⟨m, r, S, s, re, Post.bind p fun m1 H1 v S1 x e1 s1 rv p1 => ?_⟩
    cases rv
    cases v with
    | true =>
      rw [if_pos rfl] at p1 ⊢
      exact ⟨m1, r, S1, s1, re.mono s e1, p1⟩
    | false =>
      rw [if_neg Bool.false_ne_true] at p1 ⊢
      exact Post.ok p1 s1 rfl
theorem sw_or (ha : ST X G W a ta) (hb : SW X G W (.BoolOp .Or (b :: rest) pos) tb) : SW X G W (.BoolOp .Or (a :: b :: rest) pos) (Mc.tOr ta tb) :=
  pw_imp (pw_or ha hb) fun σ H Q ⟨m, r, S, s, re, p⟩ => by
    refine ⟨m, r, S, s, re, Post.bind p fun m1 H1 v S1 x e1 s1 rv p1 => ?_⟩
    cases rv
    cases v with
    | true =>
      rw [if_pos rfl] at p1 ⊢
      exact Post.ok p1 s1 rfl
    | false =>
      rw [if_neg Bool.false_ne_true] at p1 ⊢
      exact ⟨m1, r, S1, s1, re.mono s e1, p1⟩
theorem st_w {e : Expr} (h : SW X G W e ta) : ST X G W e ta := h.pt
theorem st_not (ha : ST X G W a ta) : ST X G W (.UnaryOp .Not a pos) (Mc.tNot ta) :=
  pt_imp (pt_not ha) fun σ H Q ⟨m, r, S, s, re, p⟩ => by
    refine ⟨m, r, S, s, re, Post.bind p fun m1 H1 v S1 x e1 s1 rv p1 => ?_⟩
    cases rv
    exact Post.ok p1 s1 rfl
theorem se_one {op} (ha : SE X G W a fa) : SE X G W (.BoolOp op [a] pos) fa := pe_one ha
theorem se_and (ha : SE X G W a fa) (hb : SE X G W (.BoolOp .And (b :: rest) pos) fb) : SE X G W (.BoolOp .And (a :: b :: rest) pos) (eAndB fa fb) :=
  pe_imp (pe_and ha hb) fun σ H Q ⟨m, r, S, s, re, p⟩ => by
    refine ⟨m, r, S, s, re, Post.bind p fun m1 H1 v S1 x e1 s1 rv p1 => ?_⟩
    split at p1
    · next k =>
      cases rv
      refine ⟨k, rfl, ?_⟩
      cases k with
      | true =>
        rw [if_pos rfl] at p1 ⊢
        exact ⟨m1, r, S1, s1, re.mono s e1, p1⟩
      | false =>
        rw [if_neg Bool.false_ne_true] at p1 ⊢
        exact Post.ok p1 s1 (.bl _)
    · exact p1.elim
theorem se_or (ha : SE X G W a fa) (hb : SE X G W (.BoolOp .Or (b :: rest) pos) fb) : SE X G W (.BoolOp .Or (a :: b :: rest) pos) (eOrB fa fb) :=
  pe_imp (L2.pe_or ha hb) fun σ H Q ⟨m, r, S, s, re, p⟩ => by
    refine ⟨m, r, S, s, re, Post.bind p fun m1 H1 v S1 x e1 s1 rv p1 => ?_⟩
    split at p1
    · next k =>
      cases rv
      refine ⟨k, rfl, ?_⟩
      cases k with
      | true =>
        rw [if_pos rfl] at p1 ⊢
        exact Post.ok p1 s1 (.bl _)
      | false =>
        rw [if_neg Bool.false_ne_true] at p1 ⊢
        exact ⟨m1, r, S1, s1, re.mono s e1, p1⟩
    · exact p1.elim
theorem se_not (ha : SE X G W a fa) : SE X G W (.UnaryOp .Not a pos) (eNotB fa) :=
  pe_imp (pe_not ha) fun σ H Q ⟨m, r, S, s, re, p⟩ => by
    refine ⟨m, r, S, s, re, Post.bind p fun m1 H1 v S1 x e1 s1 rv p1 => ?_⟩
    split at p1
    · cases rv
      exact ⟨_, rfl, Post.ok p1 s1 (.bl _)⟩
    · exact p1.elim
theorem se_if (hc : ST X G W c tc) (ha : SE X G W a fa) (hb : SE X G W b fb) : SE X G W (.IfExp c a b pos) (eIf tc fa fb) :=
  pe_imp (pe_ifExp hc ha hb) fun σ H Q ⟨m, r, S, s, re, p⟩ => by
    refine ⟨m, r, S, s, re, Post.bind p fun m1 H1 v S1 x e1 s1 rv p1 => ?_⟩
    cases rv
    cases v with
    | true =>
      rw [if_pos rfl] at p1 ⊢
      exact ⟨m1, r, S1, s1, re.mono s e1, p1⟩
    | false =>
      rw [if_neg Bool.false_ne_true] at p1 ⊢
      exact ⟨m1, r, S1, s1, re.mono s e1, p1⟩

/-! ### argument lists, displays -/
variable {e : Expr} {es : List Expr} {t : DA}
theorem sa_nil : SA X G W [] aNil := pa_imp pa_nil fun σ H Q ⟨m, r, S, s, re, p⟩ => Post.ok p s .nil
theorem sa_cons (ha : SE X G W e fa) (hr : SA X G W es t) (hs : starEach (e :: es) X.env = (false, eval e X.env) :: starEach es X.env := by rfl) : SA X G W (e :: es) (aCons fa t) :=
  pa_imp (pa_cons ha hr hs) fun σ H Q ⟨m, r, S, s, re, p⟩ => by
    refine ⟨m, r, S, s, re, Post.bind p fun m1 H1 v S1 x e1 s1 rv p1 => ?_⟩
    refine ⟨m1, r, S1, s1, re.mono s e1, Post.bind p1 fun m2 H2 vs S2 xs e2 s2 rvs p2 => ?_⟩
    exact Post.ok p2 s2 (.cons (rv.mono s1 e2) rvs)
theorem se_tup {x1} (h : SA X G W es t) : SE X G W (.Tuple es x1 pos) (eTup t) :=
  pe_imp (pe_tup h) fun σ H Q ⟨m, r, S, s, re, p⟩ => by
    refine ⟨m, r, S, s, re, Post.bind p fun m1 H1 vs S1 xs e1 s1 rvs p1 => ?_⟩
    split at p1
    · next h => exact ⟨by rw [← rvs.length]; exact h, fun q hq => post_tup s1 rvs hq p1⟩
    · exact p1.elim
theorem se_lst (h : SA X G W es t) : SE X G W (.List es pos) (eLst t) :=
  pe_imp (pe_lst h) fun σ H Q ⟨m, r, S, s, re, p⟩ => by
    refine ⟨m, r, S, s, re, Post.bind p fun m1 H1 vs S1 xs e1 s1 rvs p1 => ?_⟩
    split at p1
    · next h => exact ⟨by rw [← rvs.length]; exact h, fun q hq => post_lst s1 rvs hq p1⟩
    · exact p1.elim

/-! ### calls -/
variable {x : Str} {id T : String} {p : Pos} {R : List V → Hp → VK → Prop} {f : List AV → Sto → Res AV}
theorem eCall_tCB (ho : OA X.K G f R) {σ : L2.St} {H : Hp} {Q : VK} (q : mE X.K G W (eCall f t) σ H Q) : tCB R (mA X.K G W t) σ H Q := by
  obtain ⟨m, r, S, s, re, p⟩ := q
  exact ⟨m, r, S, s, re, Post.bind p fun m1 H1 vs S1 xs e1 s1 rvs p1 => ho m1 S1 H1 vs xs W σ Q s1 rvs p1⟩
theorem se_callB (hc : CallR X (.builtin id) R) (ho : OA X.K G f R) (hg : Gl X x) (hm : X.mg x = none) (hv : bootBuiltins x = some (.builtin id)) (ha : SA X G W (e :: es) t) (hn : x ≠ "__name__" := by decide) (hdb : (x == ("__debug__" : Str)) = false := by decide)
    (he : starEach (e :: es) X.env = (false, eval e X.env) :: starEach es X.env := by rfl) (hpl : (backTo pos (starEach es X.env)).any (·.1) = false := by rfl) : SE X G W (.Call (.Name x p) (e :: es) [] pos) (eCall f t) :=
  pe_imp (pe_callB hc hg hm hv ha hn hdb he hpl) fun _ _ _ q => eCall_tCB ho q
theorem se_callTy (hc : CallR X (.type T) R) (ho : OA X.K G f R) (hg : Gl X x) (hm : X.mg x = none) (hv : bootBuiltins x = some (.type T)) (ha : SA X G W (e :: es) t) (hn : x ≠ "__name__" := by decide) (hdb : (x == ("__debug__" : Str)) = false := by decide)
    (he : starEach (e :: es) X.env = (false, eval e X.env) :: starEach es X.env := by rfl) (hpl : (backTo pos (starEach es X.env)).any (·.1) = false := by rfl) : SE X G W (.Call (.Name x p) (e :: es) [] pos) (eCall f t) :=
  pe_imp (pe_callTy hc hg hm hv ha hn hdb he hpl) fun _ _ _ q => eCall_tCB ho q
/-- a built-in type as a value -/
theorem se_ty {n : String} (hg : Gl X x) (hm : X.mg x = none) (hv : bootBuiltins x = some (.type n)) (hn : x ≠ "__name__" := by decide) (hd : (x == ("__debug__" : Str)) = false := by decide) : SE X G W (.Name x pos) (eK (.ty n)) :=
  se_k (pe_bltn (v := .ty n) hg hm hv rfl hn hd) fun _ _ => .ty n
/-- the promise of a def of the text, by the machine's function -/
def spM (K : PySem.W.Frag) (G : Str → Addr) (n : Nat) (F : DF) : Sp := fun vs H Q E => ∃ m S xs, xs.length = n ∧ SM K G m S H ∧ RVs K G m H xs vs ∧ Post K G (RV K G) (fun cls d _ H' => E cls d H') [] m H (F xs S) Q
theorem spM_len {K : PySem.W.Frag} {n : Nat} {F : DF} {vs : List V} {H : Hp} {Q : VK} {E : XK} (h : spM K G n F vs H Q E) : vs.length = n := by
  obtain ⟨m, S, xs, e, s, r, _⟩ := h
  rw [← r.length]; exact e
theorem post_swap {K : PySem.W.Frag} {α β : Type} {R : Mp → Hp → α → β → Prop} {W W' : WX} {σ σ' : L2.St} {m : Mp} {H : Hp} {r : Res α} {Q : β → Hp → Prop} (h : Post K G R W σ m H r Q) (k : ∀ c d H, W c d σ H → W' c d σ' H) : Post K G R W' σ' m H r Q := by
  cases r with
  | ok v S => exact h
  | ex c p S => exact fun m2 H2 cls d e2 s q => k _ _ _ (h m2 H2 cls d e2 s q)
  | bad => exact h
/-- f(e, ..), a def of the text -/
theorem se_call {k n : Nat} {fa' : Addr} {fd' : FuncData} {ps : List Str} {F : DF} (FO : FnOk X.prog X.w X.K X.mg X.base (L2.CX X.prog X.w) k fa' fd' ps (spM X.K G n F)) (tk : Takes X W) (hr : Room k X.A) (hg : Gl X x) (hm : X.mg x = some (.ref fa')) (hk : PySem.W.keepIn X.K (.ref fa') = true)
    (hb : Binds X.K fd' ps []) (ha : SA X G W (e :: es) t) (hn : ∀ r S, ∀ v S', t r S = .ok v S' → v.length = n) (hdb : (x == ("__debug__" : Str)) = false := by decide)
    (he : starEach (e :: es) X.env = (false, eval e X.env) :: starEach es X.env := by rfl) (hpl : (backTo pos (starEach es X.env)).any (·.1) = false := by rfl) : SE X G W (.Call (.Name x p) (e :: es) [] pos) (eCall F t) :=
  pe_imp (pe_callSD FO hr hg hm hk hb .nil (fun σ => passAt tk σ) ha hdb he hpl) fun σ H Q ⟨m, r, S, s, re, p⟩ => by
    refine ⟨m, r, S, s, re, ?_⟩
    cases ht : t r S with
    | ok vs S1 =>
      have hl := hn r S vs S1 ht
      simp only [eCall, ht, Res.bind_ok] at p
      intro m1 H1 xs e1 s1 rvs
      rw [List.append_nil]
      exact ⟨m1, S1, vs, hl, s1, rvs, post_swap (Post.ext e1 p) fun _ _ _ z => z⟩
    | ex c pp S1 => simp only [eCall, ht, Res.bind_ex] at p; exact p
    | bad => simp only [eCall, ht, Res.bind_bad] at p; exact p
theorem aCons_len {a : DE} {t : DA} {n : Nat} (h : ∀ r S v S', t r S = .ok v S' → v.length = n) : ∀ r S v S', aCons a t r S = .ok v S' → v.length = n + 1 := by
  intro r S v S' e
  unfold aCons at e
  cases h1 : a r S with
  | ok x S1 =>
    rw [h1, Res.bind_ok] at e
    cases h2 : t r S1 with
    | ok xs S2 =>
      rw [h2, Res.bind_ok] at e
      cases e
      rw [List.length_cons, h r S1 xs _ h2]
    | ex c p S2 => rw [h2] at e; cases e
    | bad => rw [h2] at e; cases e
  | ex c p S2 => rw [h1] at e; cases e
  | bad => rw [h1] at e; cases e
theorem aNil_len : ∀ r S v S', aNil r S = .ok v S' → v.length = 0 := by
  intro r S v S' e
  cases e; rfl
end
end Mc
end
section
set_option Elab.async false
set_option linter.all false
set_option maxRecDepth 100000
set_option maxHeartbeats 1000000
/-! M6: statements, loops, a def by its body. -/
namespace Mc
open PySem PySem.Spec PyProof.Rows L2
section
variable {X : Cx} {G : Str → Addr} {W : WX} {pos : Pos} {a b c d e : Expr} {fa fb fc fd : DE} {st : Stmt} {rest ba bb : List Stmt} {f g : DS} {tc : DT}
theorem ss_nil : SSs X G W [] sNil := pss_imp pss_nil fun D σ H ⟨m, r, S, s, re, p⟩ => p m σ H .refl s re
theorem ss_cons (h1 : SS X G W st f) (h2 : SSs X G W rest g) : SSs X G W (st :: rest) (sSeq f g) :=
  pss_imp (pss_cons h1 h2) fun D σ H ⟨m, r, S, s, re, p⟩ => by
    refine ⟨m, r, S, s, re, ?_⟩
    unfold sSeq at p
    cases h : f r S with
    | nx r1 S1 => rw [h] at p; exact fun m1 σ1 H1 e1 s1 re1 => ⟨m1, r1, S1, s1, re1, PostS.ext e1 p⟩
    | ret v S1 => rw [h] at p; exact p
    | brk r1 S1 => rw [h] at p; exact p
    | cnt r1 S1 => rw [h] at p; exact p
    | ex c q r1 S1 => rw [h] at p; exact p
    | bad => rw [h] at p; exact p
theorem ss_one (h1 : SS X G W st f) : SSs X G W [st] f := pss_one h1
theorem ss_pass : SS X G W (.Pass pos) sNil := ps_imp ps_pass fun D σ H ⟨m, r, S, s, re, p⟩ => p m σ H .refl s re
theorem ss_brk : SS X G W (.Break pos) sBrk := ps_imp ps_break fun D σ H ⟨m, r, S, s, re, p⟩ => p m σ H .refl s re
theorem ss_cnt : SS X G W (.Continue pos) sCnt := ps_imp ps_continue fun D σ H ⟨m, r, S, s, re, p⟩ => p m σ H .refl s re
theorem ss_expr (h : SE X G W a fa) (hs : swapsWith a none pos.line X.env = pure false := by rfl) : SS X G W (.Expr a pos) (sExpr fa) :=
  ps_imp (ps_expr h hs) fun D σ H ⟨m, r, S, s, re, p⟩ => ⟨m, r, S, s, re, PostS.thn s re p fun m1 H1 v S1 y e1 s1 rv p1 => p1 m1 σ H1 .refl s1 (re.mono s e1)⟩
theorem ss_ret (h : SE X G W a fa) : SS X G W (.Return (some a) pos) (sRet fa) :=
  ps_imp (ps_ret h) fun D σ H ⟨m, r, S, s, re, p⟩ => ⟨m, r, S, s, re, PostS.thn s re p fun m1 H1 v S1 y e1 s1 rv p1 => p1 m1 H1 y .refl s1 rv⟩
theorem ss_if (hc : ST X G W c tc) (ha : SSs X G W ba f) (hb : SSs X G W bb g) : SS X G W (.If c ba bb pos) (sIf tc f g) :=
  ps_imp (ps_if hc ha hb) fun D σ H ⟨m, r, S, s, re, p⟩ => ⟨m, r, S, s, re, PostS.thn s re p fun m1 H1 v S1 y e1 s1 rv p1 => by
    cases rv
    cases v with
    | true =>
      rw [if_pos rfl] at p1 ⊢
      exact ⟨m1, r, S1, s1, re.mono s e1, p1⟩
    | false =>
      rw [if_neg Bool.false_ne_true] at p1 ⊢
      exact ⟨m1, r, S1, s1, re.mono s e1, p1⟩⟩

/-! ### targets -/
/-- a target: the layer's reading asks what the machine's store does -/
def mG (K : PySem.W.Frag) (G : Str → Addr) (W : WX) (g : DG) : TG := fun x σ H Q => ∃ m r S v, SM K G m S H ∧ RE K G m H r σ ∧ RV K G m H v x ∧ PostS K G W { nx := Q, rt := fun _ _ => False } m H (g v r S)
def mGs (K : PySem.W.Frag) (G : Str → Addr) (W : WX) (g : List AV → Env → Sto → SR) : TGs := fun x σ H Q => ∃ m r S v, SM K G m S H ∧ RE K G m H r σ ∧ RVs K G m H v x ∧ PostS K G W { nx := Q, rt := fun _ _ => False } m H (g v r S)
abbrev SG (X : Cx) (G : Str → Addr) (W : WX) (tg : Expr) (g : DG) : Prop := PG X tg (mG X.K G W g)
abbrev SGs (X : Cx) (G : Str → Addr) (W : WX) (tg : List Expr) (g : List AV → Env → Sto → SR) : Prop := PGs X tg (mGs X.K G W g)
theorem pg_imp {X : Cx} {e : Expr} {t t' : TG} (h : PG X e t) (k : ∀ v σ H Q, t' v σ H Q → t v σ H Q) : PG X e t' := ⟨fun pins s σ H v u Q I r q => h.run pins s σ H v u Q I r (k _ _ _ _ q)⟩
theorem pgs_imp {X : Cx} {e : List Expr} {t t' : TGs} (h : PGs X e t) (k : ∀ v σ H Q, t' v σ H Q → t v σ H Q) : PGs X e t' := ⟨fun pins s σ H v u Q I r q => h.run pins s σ H v u Q I r (k _ _ _ _ q)⟩
/-- a target never returns, breaks -/
def OnlyNx (g : DG) : Prop := ∀ v r S, (∃ r1 S1, g v r S = .nx r1 S1) ∨ (∃ c p r1 S1, g v r S = .ex c p r1 S1) ∨ g v r S = .bad
def OnlyNxs (g : List AV → Env → Sto → SR) : Prop := ∀ v r S, (∃ r1 S1, g v r S = .nx r1 S1) ∨ (∃ c p r1 S1, g v r S = .ex c p r1 S1) ∨ g v r S = .bad
theorem sg_nm (i : Nat) {x : Str} (hN : X.N.Nodup) (hi : X.N[i]? = some x := by rfl) (hx : Loc X.env.scope x := by first | exact Or.inl rfl | exact Or.inr rfl) (hf : X.fn x = true ∨ X.env.scope.names.lookup x = some .local := by first | exact .inl rfl | exact .inr rfl) : SG X G W (.Name x pos) (gNm i) :=
  pg_imp (pg_name hN hi hx hf) fun x σ H Q ⟨m, r, S, v, s, re, rv, p⟩ => p m _ H .refl s (re.set i rv)
theorem sgs_nil : SGs X G W [] gsNil := pgs_imp pgs_nil fun x σ H Q ⟨m, r, S, v, s, re, rv, p⟩ => by
  unfold gsNil at p
  cases rv with
  | nil => exact ⟨rfl, p m _ H .refl s re⟩
  | cons _ _ => exact p.elim
theorem sgs_cons {t : Expr} {ts : List Expr} {g : DG} {gs : List AV → Env → Sto → SR} (h1 : SG X G W t g) (h2 : SGs X G W ts gs) (on : OnlyNx g)
    (hs : (assignEach (t :: ts) X.env).map (·.2) = assign t X.env :: (assignEach ts X.env).map (·.2) := by rfl) : SGs X G W (t :: ts) (gsCons g gs) :=
  pgs_imp (pgs_cons h1 h2 hs) fun x σ H Q ⟨m, r, S, v, s, re, rv, p⟩ => by
    unfold gsCons at p
    cases rv with
    | nil => exact p.elim
    | @cons v0 x0 vs xs r0 rs =>
      refine ⟨_, _, rfl, m, r, S, v0, s, re, r0, ?_⟩
      simp only at p
      rcases on v0 r S with ⟨r1, S1, h⟩ | ⟨c, q, r1, S1, h⟩ | h
      · rw [h] at p ⊢
        exact fun m1 σ1 H1 e1 s1 re1 => ⟨m1, r1, S1, vs, s1, re1, rs.mono s e1, PostS.ext e1 p⟩
      · rw [h] at p ⊢; exact p
      · rw [h] at p; exact p.elim
theorem sg_tup {es : List Expr} {k n : Nat} {gs : List AV → Env → Sto → SR} (hc : X.calm = true) (h : SGs X G W es gs) (hn : (assignEach es X.env).length = n := by rfl) (hst : (assignEach es X.env).findIdx? (·.1) = none := by rfl) :
    SG X G W (.Tuple es k pos) (Mc.gTup n gs) :=
  pg_imp (pg_tup hc h hn hst) fun x σ H Q ⟨m, r, S, v, s, re, rv, p⟩ => by
    unfold Mc.gTup at p
    cases rv with
    | tup ha ra =>
      simp only at p
      split at p
      · next hl => exact ⟨_, _, rfl, .of ha, by rw [← ra.length]; exact hl, m, r, S, _, s, re, ra, p⟩
      · exact p.elim
    | _ => exact p.elim
theorem on_nm (i : Nat) : OnlyNx (gNm i) := fun v r S => .inl ⟨_, _, rfl⟩
theorem on_nil : OnlyNxs gsNil := fun v r S => by
  unfold gsNil
  cases v with
  | nil => exact .inl ⟨_, _, rfl⟩
  | cons _ _ => exact .inr (.inr rfl)
theorem on_cons {g : DG} {gs : List AV → Env → Sto → SR} (h : OnlyNx g) (hs : OnlyNxs gs) : OnlyNxs (gsCons g gs) := fun v r S => by
  unfold gsCons
  cases v with
  | nil => exact .inr (.inr rfl)
  | cons v vs =>
    simp only
    rcases h v r S with ⟨r1, S1, e⟩ | ⟨c, q, r1, S1, e⟩ | e
    · rw [e]; exact hs vs r1 S1
    · rw [e]; exact .inr (.inl ⟨_, _, _, _, rfl⟩)
    · rw [e]; exact .inr (.inr rfl)
theorem on_tup {n : Nat} {gs : List AV → Env → Sto → SR} (hs : OnlyNxs gs) : OnlyNx (Mc.gTup n gs) := fun v r S => by
  unfold Mc.gTup
  cases v with
  | tup xs =>
    simp only
    split
    · exact hs _ r S
    · exact .inr (.inr rfl)
  | _ => exact .inr (.inr rfl)
/-- behind an assignment: what is wanted of its end, where it only goes on -/
theorem only_post {K : PySem.W.Frag} {D D' : Ends} {m : Mp} {H : Hp} {x : SR} (on : (∃ r1 S1, x = .nx r1 S1) ∨ (∃ c p r1 S1, x = .ex c p r1 S1) ∨ x = .bad) (hn : D'.nx = D.nx) (p : PostS K G W D m H x) : PostS K G W D' m H x := by
  rcases on with ⟨r1, S1, rfl⟩ | ⟨c, q, r1, S1, rfl⟩ | rfl
  · intro m1 σ1 H1 e1 s1 re1
    rw [hn]
    exact p m1 σ1 H1 e1 s1 re1
  · exact p
  · exact p
theorem ss_asg {tg : Expr} {g : DG} (h : SE X G W a fa) (hg : SG X G W tg g) (on : OnlyNx g) (hs : swapsWithSole [tg] a pos.line X.env = pure false := by rfl) (hw : swappedStores [tg] a X.env = pure none := by rfl)
    (h1 : (assignEach [tg] X.env).map (·.2) = [assign tg X.env] := by rfl) : SS X G W (.Assign [tg] a pos) (sAsg fa g) :=
  ps_imp (ps_asg h hg hs hw h1) fun D σ H ⟨m, r, S, s, re, p⟩ => ⟨m, r, S, s, re, PostS.thn s re p fun m1 H1 v S1 y e1 s1 rv p1 => ⟨m1, r, S1, v, s1, re.mono s e1, rv, only_post (D := D) (on v r S1) rfl p1⟩⟩
theorem ss_set (i : Nat) {x : Str} {pos' : Pos} (hN : X.N.Nodup) (h : SE X G W a fa) (hi : X.N[i]? = some x := by rfl) (hx : Loc X.env.scope x := by first | exact Or.inl rfl | exact Or.inr rfl) (hs : swapsWith a (some (.Name x pos')) pos.line X.env = pure false := by rfl)
    (hf : X.fn x = true ∨ X.env.scope.names.lookup x = some .local := by first | exact .inl rfl | exact .inr rfl) : SS X G W (.Assign [.Name x pos'] a pos) (sAsg fa (gNm i)) :=
  ps_imp (ps_set hN hi hx h hs hf) fun D σ H ⟨m, r, S, s, re, p⟩ => ⟨m, r, S, s, re, PostS.thn s re p fun m1 H1 v S1 y e1 s1 rv p1 => p1 m1 _ H1 .refl s1 ((re.mono s e1).set i rv)⟩
theorem ss_par (i j : Nat) {x y : Str} {t : DA} {px py pt : Pos} {kt k2 pt2} (hc : X.calm = true) (hN : X.N.Nodup) (ha : SA X G W [a, b] t) (hi : X.N[i]? = some x := by rfl) (hj : X.N[j]? = some y := by rfl) (hij : i ≠ j := by decide)
    (hx : X.env.scope.names.lookup x = some .local := by rfl) (hy : X.env.scope.names.lookup y = some .local := by rfl)
    (hw : swappedStores [.Tuple [.Name x px, .Name y py] kt pt] (.Tuple [a, b] k2 pt2) X.env = pure (some [x, y]) := by rfl)
    (hs : swapsWithSole [.Tuple [.Name x px, .Name y py] kt pt] (.Tuple [a, b] k2 pt2) pos.line X.env = pure false := by rfl) :
    SS X G W (.Assign [.Tuple [.Name x px, .Name y py] kt pt] (.Tuple [a, b] k2 pt2) pos) (sPar i j t) :=
  ps_imp (ps_par hc hN hi hj hij hx hy ha hw hs) fun D σ H ⟨m, r, S, s, re, p⟩ => ⟨m, r, S, s, re, PostS.thn s re p fun m1 H1 vs S1 ys e1 s1 rvs p1 => by
    split at p1
    · cases rvs with
      | cons r1 t1 => cases t1 with
        | cons r2 t2 =>
          cases t2
          exact ⟨_, _, rfl, p1 m1 _ H1 .refl s1 (((re.mono s e1).set i r1).set j r2)⟩
    · exact p1.elim⟩
/-- x op= e by a rule of the layer -/
theorem ss_aug (i : Nat) {x : Str} {op : Operator} {ti : TIp} {pos' : Pos} {o : AV → AV → Sto → Res AV} (hN : X.N.Nodup) (ho : PIp X op ti) (hk : O2 X.K G o ti) (h : SE X G W a fa) (hi : X.N[i]? = some x := by rfl) (hx : Loc X.env.scope x := by first | exact Or.inl rfl | exact Or.inr rfl)
    (hf : X.fn x = true ∨ X.env.scope.names.lookup x = some .local := by first | exact .inl rfl | exact .inr rfl) : SS X G W (.AugAssign (.Name x pos') op a pos) (Mc.sAug i o fa) :=
  ps_imp (ps_aug hN hi hx h ho hf) fun D σ H ⟨m, r, S, s, re, p⟩ => by
    unfold Mc.sAug at p
    split at p
    · next v hv =>
      obtain ⟨y, e0, r0⟩ := re.get hv
      refine ⟨y, e0, m, r, S, s, re, PostS.thn s re p fun m1 H1 w S1 z e1 s1 rw p1 => ?_⟩
      refine hk m1 S1 H1 v w y z W σ _ s1 (r0.mono s e1) rw (PostS.thn s1 (re.mono s e1) p1 fun m2 H2 u S2 t e2 s2 ru p2 => ?_)
      exact p2 m2 _ H2 .refl s2 (((re.mono s e1).mono s1 e2).set i ru)
    · exact p.elim

/-! ### while -/
theorem ss_while (hp : PassesOwn (model X.prog X.w) X.A X.env X.xe) (hc : ST X G W c tc) (hb : SSs X G W ba f) : SS X G W (.While c ba [] pos) (Mc.sWhile tc f) :=
  ps_imp (ps_while hp hc hb) fun D σ H ⟨m, r, S, s, re, p⟩ => by
    refine ⟨fun n σ H => ∃ m r S, SM X.K G m S H ∧ RE X.K G m H r σ ∧ PostS X.K G W D m H (whG tc f n r S), ⟨LIM, m, r, S, s, re, p⟩, ?_⟩
    rintro n σ H ⟨m, r, S, s, re, p⟩
    cases n with
    | zero => exact p.elim
    | succ n =>
      refine ⟨m, r, S, s, re, PostS.thn s re p fun m1 H1 k S1 y e1 s1 rk p1 => ?_⟩
      cases rk
      cases k with
      | true =>
        rw [if_pos rfl] at p1 ⊢
        refine ⟨fun σ H => ∃ m r S, SM X.K G m S H ∧ RE X.K G m H r σ ∧ PostS X.K G W D m H (whG tc f n r S), fun σ' H' h => ⟨n, Nat.lt_succ_self n, h⟩, m1, r, S1, s1, re.mono s e1, ?_⟩
        cases h : f r S1 with
        | nx r2 S2 => rw [h] at p1; exact fun m2 σ2 H2 e2 s2 re2 => ⟨m2, r2, S2, s2, re2, PostS.ext e2 p1⟩
        | cnt r2 S2 => rw [h] at p1; exact fun m2 σ2 H2 e2 s2 re2 => ⟨m2, r2, S2, s2, re2, PostS.ext e2 p1⟩
        | brk r2 S2 => rw [h] at p1; exact p1
        | ret v S2 => rw [h] at p1; exact p1
        | ex c q r2 S2 => rw [h] at p1; exact p1
        | bad => rw [h] at p1; exact p1
      | false =>
        rw [if_neg Bool.false_ne_true] at p1 ⊢
        exact p1 m1 σ H1 .refl s1 (re.mono s e1)

/-! ### for -/
/-- a walk of the layer is told by the machine's source -/
structure Tk (K : PySem.W.Frag) (G : Str → Addr) (u : Src) (J : It) (P : Mp → Sto → Hp → Prop) : Prop where
  go : ∀ m S H i v, SM K G m S H → P m S H → u S i = some (some v) → J.go i H
  yld : ∀ m S H i v x H', SM K G m S H → P m S H → u S i = some (some v) → J.yld i H x H' → ∃ m', Ex m m' H H' ∧ SM K G m' S H' ∧ RV K G m' H' v x
  stop : ∀ m S H i, SM K G m S H → P m S H → u S i = some none → J.stop i H
  /-- what the walk leans on stays -/
  keep : ∀ m S H m' S' H', SM K G m S H → P m S H → Ex m m' H H' → SM K G m' S' H' → P m' S' H'
  keepD : ∀ m S H q ys zs, P m S H → ¬ Fp m q → H q = some (.lst ys) → P m S (upd H q (.lst zs))
def PostI (K : PySem.W.Frag) (G : Str → Addr) (W : WX) (σ : L2.St) (m : Mp) (H : Hp) (x : Res Src) (R : It → Hp → Prop) : Prop := match x with
  | .ok s S1 => ∀ m1 H1 J P, Ex m m1 H H1 → SM K G m1 S1 H1 → Tk K G s J P → P m1 S1 H1 → R J H1
  | .ex c p S1 => ∀ m1 H1 cls d, Ex m m1 H H1 → SM K G m1 S1 H1 → RX K G m1 H1 c p cls d → W cls d σ H1
  | .bad => False
def mI (K : PySem.W.Frag) (G : Str → Addr) (W : WX) (u : DI) : TI := fun σ H R => ∃ m r S, SM K G m S H ∧ RE K G m H r σ ∧ PostI K G W σ m H (u r S) R
abbrev SI (X : Cx) (G : Str → Addr) (W : WX) (tg it : Expr) (u : DI) : Prop := PI X tg it (mI X.K G W u)
theorem pi_imp {X : Cx} {tg it : Expr} {t t' : TI} (h : PI X tg it t) (k : ∀ σ H R, t' σ H R → t σ H R) : PI X tg it t' := ⟨fun pins s σ H R I q => h.run pins s σ H R I (k _ _ _ q)⟩
theorem ss_for {tg it : Expr} {u : DI} {g : DG} (hp : PassesOwn (model X.prog X.w) X.A X.env X.xe) (hc : X.calm = true) (hi : SI X G W tg it u) (hg : SG X G W tg g) (on : OnlyNx g) (hb : SSs X G W ba f)
    (hs : ∀ x, foldedSetIterable it X.env x = pure x := by intro _; rfl) : SS X G W (.For tg it ba [] pos) (Mc.sFor u g f) :=
  ps_imp (ps_for hp hc hi hg hb hs) fun D σ H ⟨m, r, S, s, re, p⟩ => by
    refine ⟨m, r, S, s, re, ?_⟩
    unfold Mc.sFor at p
    cases hu : u r S with
    | ex c q S1 => rw [hu] at p; exact fun m1 H1 cls d e1 s1 rx => p m1 σ H1 cls d e1 s1 (re.mono s e1) rx
    | bad => rw [hu] at p; exact p
    | ok src S1 =>
      rw [hu] at p
      simp only [Res.thn_ok] at p
      intro m1 H1 J P e1 s1 T hP
      refine ⟨fun i n σ H => ∃ m r S, SM X.K G m S H ∧ RE X.K G m H r σ ∧ P m S H ∧ PostS X.K G W D m H (forG src g f n i r S), ⟨LIM, m1, r, S1, s1, re.mono s e1, hP, PostS.ext e1 p⟩, ?_⟩
      rintro i n σ H ⟨m, r, S, s, re, hP, p⟩
      cases n with
      | zero => exact p.elim
      | succ n =>
        unfold forG at p
        cases hv : src S i with
        | none => rw [hv] at p; exact p.elim
        | some o =>
          rw [hv] at p
          cases o with
          | none => exact .inl ⟨T.stop m S H i s hP hv, p m σ H .refl s re⟩
          | some v =>
            simp only at p
            refine .inr ⟨T.go m S H i v s hP hv, fun σ H => ∃ m r S, SM X.K G m S H ∧ RE X.K G m H r σ ∧ P m S H ∧ PostS X.K G W D m H (forG src g f n (i + 1) r S), fun σ' H' h => ⟨n, Nat.lt_succ_self n, h⟩, fun x H' y => ?_⟩
            obtain ⟨m2, e2, s2, rv⟩ := T.yld m S H i v x H' s hP hv y
            have hP2 := T.keep _ _ _ _ _ _ s hP e2 s2
            have p := PostS.ext e2 p
            refine ⟨m2, r, S, v, s2, re.mono s e2, rv, ?_⟩
            rcases on v r S with ⟨r3, S3, h⟩ | ⟨c, q, r3, S3, h⟩ | h
            · rw [h] at p ⊢
              intro m3 σ3 H3 e3 s3 re3
              have hP3 := T.keep _ _ _ _ _ _ s2 hP2 e3 s3
              have p := PostS.ext e3 p
              refine ⟨m3, r3, S3, s3, re3, ?_⟩
              cases hb : f r3 S3 with
              | nx r4 S4 => simp only [hb] at p; exact fun m4 σ4 H4 e4 s4 re4 => ⟨m4, r4, S4, s4, re4, T.keep _ _ _ _ _ _ s3 hP3 e4 s4, PostS.ext e4 p⟩
              | cnt r4 S4 => simp only [hb] at p; exact fun m4 σ4 H4 e4 s4 re4 => ⟨m4, r4, S4, s4, re4, T.keep _ _ _ _ _ _ s3 hP3 e4 s4, PostS.ext e4 p⟩
              | brk r4 S4 => simp only [hb] at p; exact p
              | ret v S4 => simp only [hb] at p; exact p
              | ex c q r4 S4 => simp only [hb] at p; exact p
              | bad => simp only [hb] at p; exact p
            · rw [h] at p ⊢; exact p
            · rw [h] at p; exact p.elim
end
end Mc
end
section
set_option Elab.async false
set_option linter.all false
set_option maxRecDepth 100000
set_option maxHeartbeats 1000000
/-! M7: what is walked, comprehensions, a def by its body. -/
namespace Mc
open PySem PySem.Spec PyProof.Rows L2
section
variable {X : Cx} {G : Str → Addr} {W : WX} {pos : Pos} {a b c d e : Expr} {fa fb fc fd : DE} {tg it : Expr} {t : DA}
theorem pi_orM {t t' : TI} (h : PI X tg it t) (h' : PI X tg it t') : PI X tg it (fun σ H R => t σ H R ∨ t' σ H R) := ⟨fun pins s σ H R I q => q.elim (h.run pins s σ H R I) (h'.run pins s σ H R I)⟩
/-- a tuple, item by item -/
theorem tk_fix {K : PySem.W.Frag} {q : Addr} {xs : List AV} {vs : List V} : Tk K G (uFix xs) (Itt K q) (fun m S H => H q = some (.tup vs) ∧ RVs K G m H xs vs) where
  go := fun m S H i v s ⟨h, r⟩ e => by
    obtain ⟨x, hx, _⟩ := r.get (Option.some.inj e)
    exact ⟨vs, x, .of h, hx⟩
  yld := fun m S H i v x H' s ⟨h, r⟩ e y => by
    obtain ⟨rfl, y⟩ := y
    obtain ⟨z, hz, rz⟩ := r.get (Option.some.inj e)
    have := y vs (.of h)
    rw [hz] at this
    cases this
    exact ⟨m, .refl, s, rz⟩
  stop := fun m S H i s ⟨h, r⟩ e => ⟨vs, .of h, by rw [← r.length]; exact List.getElem?_eq_none_iff.mp (Option.some.inj e)⟩
  keep := fun m S H m' S' H' s ⟨h, r⟩ ex s' => ⟨ex.keep _ _ h (s.tup_not (.inl h)), r.mono s ex⟩
  keepD := fun m S H p ys zs ⟨h, r⟩ _ hd => by
    have kT : ∀ (a : Addr) (vs : List V), H a = some (.tup vs) → upd H p (.lst zs) a = some (.tup vs) := fun a vs e => by
      have : a ≠ p := fun z => by subst z; rw [hd] at e; cases e
      rw [upd_ne this]; exact e
    exact ⟨kT _ _ h, r.keepT kT⟩
theorem tk_live {K : PySem.W.Frag} {p : Nat} {q d : Addr} : Tk K G (uLive p) (Itl K q) (fun m S H => m[p]? = some (q, d)) where
  go := fun m S H i v s h e => by
    unfold uLive at e
    split at e
    · next lk xs hs =>
      cases s.obj _ _ _ _ h hs with
      | lst _ g r =>
        obtain ⟨x, hx, _⟩ := r.get (Option.some.inj e)
        exact ⟨_, x, .of g, hx⟩
      | lstR _ g r =>
        obtain ⟨x, hx, _⟩ := r.get (Option.some.inj e)
        exact ⟨_, x, .inl g, hx⟩
    · cases e
  yld := fun m S H i v x H' s h e y => by
    obtain ⟨rfl, y⟩ := y
    unfold uLive at e
    split at e
    · next lk xs hs =>
      cases s.obj _ _ _ _ h hs with
      | lst _ g r =>
        obtain ⟨z, hz, rz⟩ := r.get (Option.some.inj e)
        have := y _ (.of g)
        rw [hz] at this
        cases this
        exact ⟨m, .refl, s, rz⟩
      | lstR _ g r =>
        obtain ⟨z, hz, rz⟩ := r.get (Option.some.inj e)
        have := y _ (.inl g)
        rw [hz] at this
        cases this
        exact ⟨m, .refl, s, rz⟩
    · cases e
  stop := fun m S H i s h e => by
    unfold uLive at e
    split at e
    · next lk xs hs =>
      cases s.obj _ _ _ _ h hs with
      | lst _ g r => exact ⟨_, .of g, by rw [← r.length]; exact List.getElem?_eq_none_iff.mp (Option.some.inj e)⟩
      | lstR _ g r => exact ⟨_, .inl g, by rw [← r.length]; exact List.getElem?_eq_none_iff.mp (Option.some.inj e)⟩
    · cases e
  keep := fun m S H m' S' H' s h ex s' => pre_get ex.pre h
  keepD := fun _ _ _ _ _ _ h _ _ => h
theorem rngL_at (lo : Int) (n i : Nat) : (rngL lo n)[i]? = if i < n then some (AV.int (lo + (i : Int))) else none := by
  unfold rngL
  by_cases h : i < n
  · rw [List.getElem?_map, List.getElem?_range h, if_pos h]; rfl
  · rw [if_neg h]
    exact List.getElem?_eq_none (by simp; omega)
theorem rngC_at (lo c : Int) (n i : Nat) : (rngC lo c n)[i]? = if i < n then some (AV.int (lo + (i : Int) * c)) else none := by
  unfold rngC
  by_cases h : i < n
  · rw [List.getElem?_map, List.getElem?_range h, if_pos h]; rfl
  · rw [if_neg h]
    exact List.getElem?_eq_none (by simp; omega)
theorem tk_rng {K : PySem.W.Frag} {lo : Int} {n : Nat} : Tk K G (uFix (rngL lo n)) (Itr lo n) (fun _ _ _ => True) where
  go := fun m S H i v s _ e => by
    unfold uFix at e
    rw [rngL_at] at e
    split at e
    · assumption
    · cases e
  yld := fun m S H i v x H' s _ e y => by
    obtain ⟨rfl, rfl⟩ := y
    unfold uFix at e
    rw [rngL_at] at e
    split at e
    · cases e; exact ⟨m, .refl, s, .int _⟩
    · cases e
  stop := fun m S H i s _ e => by
    unfold uFix at e
    rw [rngL_at] at e
    split at e
    · cases e
    · show n ≤ i; omega
  keep := fun _ _ _ _ _ _ _ _ _ _ => trivial
  keepD := fun _ _ _ _ _ _ _ _ _ => trivial
theorem tk_rngC {K : PySem.W.Frag} {lo c : Int} {n : Nat} : Tk K G (uFix (rngC lo c n)) (Itc lo c n) (fun _ _ _ => True) where
  go := fun m S H i v s _ e => by
    unfold uFix at e
    rw [rngC_at] at e
    split at e
    · assumption
    · cases e
  yld := fun m S H i v x H' s _ e y => by
    obtain ⟨rfl, rfl⟩ := y
    unfold uFix at e
    rw [rngC_at] at e
    split at e
    · cases e; exact ⟨m, .refl, s, .int _⟩
    · cases e
  stop := fun m S H i s _ e => by
    unfold uFix at e
    rw [rngC_at] at e
    split at e
    · cases e
    · show n ≤ i; omega
  keep := fun _ _ _ _ _ _ _ _ _ _ => trivial
  keepD := fun _ _ _ _ _ _ _ _ _ => trivial
theorem PostI.ext {K : PySem.W.Frag} {σ : L2.St} {m m' : Mp} {H H' : Hp} {x : Res Src} {R : It → Hp → Prop} (e : Ex m m' H H') (h : PostI K G W σ m H x R) : PostI K G W σ m' H' x R := by
  cases x with
  | ok v S => exact fun m2 H2 J P e2 s q => h m2 H2 J P (e.trans e2) s q
  | ex c p S => exact fun m2 H2 cls d e2 s q => h m2 H2 cls d (e.trans e2) s q
  | bad => exact h
/-- the first part of a walked thing, then the source -/
theorem PostI.bind {K : PySem.W.Frag} {α β : Type} {R' : Mp → Hp → α → β → Prop} {x : Res α} {g : α → Sto → Res Src} {σ : L2.St} {m : Mp} {H : Hp} {R : It → Hp → Prop} {Q : β → Hp → Prop}
    (p : PostI K G W σ m H (x.bind g) R) (k : ∀ m1 H1 v S1 y, Ex m m1 H H1 → SM K G m1 S1 H1 → R' m1 H1 v y → PostI K G W σ m1 H1 (g v S1) R → Q y H1) : Post K G R' W σ m H x Q := by
  cases x with
  | ok v S => exact fun m1 H1 y e s1 q => k m1 H1 v S y e s1 q (PostI.ext e p)
  | ex c q S => exact fun m1 H1 cls d e s1 rx => p m1 H1 cls d e s1 rx
  | bad => exact p
theorem PostI.ok {K : PySem.W.Frag} {σ : L2.St} {m : Mp} {S : Sto} {H : Hp} {u : Src} {R : It → Hp → Prop} {J : It} {P : Mp → Sto → Hp → Prop} (h : PostI K G W σ m H (.ok u S) R) (s : SM K G m S H) (T : Tk K G u J P) (hp : P m S H) : R J H := h m H J P .refl s T hp
theorem si_seq (h : SE X G W a fa) : SI X G W tg a (iSeq fa) :=
  pi_imp (pi_orM (pi_list h) (pi_tup h)) fun σ H R ⟨m, r, S, s, re, p⟩ => by
    unfold iSeq at p
    cases hv : fa r S with
    | bad => rw [hv] at p; exact p.elim
    | ex c q S1 => rw [hv] at p; exact .inl ⟨m, r, S, s, re, by rw [hv]; exact p⟩
    | ok v S1 =>
      rw [hv] at p
      simp only [Res.bind_ok] at p
      cases v with
      | tup xs =>
        refine .inr ⟨m, r, S, s, re, ?_⟩
        rw [hv]
        intro m1 H1 x e1 s1 rv
        cases rv with
        | tup ha ra => exact ⟨_, rfl, ⟨_, .of ha⟩, (PostI.ext e1 p).ok s1 (tk_fix (xs := xs)) ⟨ha, ra⟩⟩
      | ref i =>
        refine .inl ⟨m, r, S, s, re, ?_⟩
        rw [hv]
        simp only at p
        split at p
        · next lk xs hs =>
          intro m1 H1 x e1 s1 rv
          cases rv with
          | ref hi =>
            refine ⟨_, rfl, ?_, (PostI.ext e1 p).ok s1 tk_live hi⟩
            cases s1.obj _ _ _ _ hi hs with
            | lst _ g _ => exact ⟨_, .of g⟩
            | lstR _ g _ => exact ⟨_, .inl g⟩
        · exact p.elim
      | _ => exact p.elim
theorem si_rng1 {p : Pos} (hg : Gl X "range") (hm : X.mg "range" = none) (ha : SA X G W [a] t) (hs : starEach [a] X.env = [(false, eval a X.env)] := by rfl) : SI X G W tg (.Call (.Name "range" p) [a] [] pos) (Mc.iRng1 t) :=
  pi_imp (pi_range1 hg hm ha hs) fun σ H R ⟨m, r, S, s, re, p⟩ => by
    refine ⟨m, r, S, s, re, PostI.bind p fun m1 H1 vs S1 ys e1 s1 rvs p1 => ?_⟩
    split at p1
    · cases rvs with
      | cons r0 t0 =>
        cases t0; cases r0
        split at p1
        · next h =>
          simp only [Bool.and_eq_true, decide_eq_true_eq] at h
          exact ⟨_, rfl, h.1, h.2, p1.ok s1 tk_rng trivial⟩
        · exact p1.elim
    · exact p1.elim
theorem si_rng2 {p : Pos} (hg : Gl X "range") (hm : X.mg "range" = none) (ha : SA X G W [a, b] t) (hs : starEach [a, b] X.env = [(false, eval a X.env), (false, eval b X.env)] := by rfl) (hs2 : starEach [b] X.env = [(false, eval b X.env)] := by rfl) : SI X G W tg (.Call (.Name "range" p) [a, b] [] pos) (Mc.iRng2 t) :=
  pi_imp (pi_range2 hg hm ha hs hs2) fun σ H R ⟨m, r, S, s, re, p⟩ => by
    refine ⟨m, r, S, s, re, PostI.bind p fun m1 H1 vs S1 ys e1 s1 rvs p1 => ?_⟩
    split at p1
    · cases rvs with
      | cons r0 t0 => cases t0 with
        | cons r2 t2 =>
          cases t2; cases r0; cases r2
          split at p1
          · next h =>
            simp only [Bool.and_eq_true, decide_eq_true_eq] at h
            obtain ⟨⟨⟨h1, h2⟩, h3⟩, h4⟩ := h
            exact ⟨_, _, rfl, ⟨h1, h2, h3, h4⟩, p1.ok s1 tk_rng trivial⟩
          · exact p1.elim
    · exact p1.elim
theorem si_rng3 {p : Pos} (hg : Gl X "range") (hm : X.mg "range" = none) (ha : SA X G W [a, b, c] t) (hs : starEach [a, b, c] X.env = (false, eval a X.env) :: starEach [b, c] X.env := by rfl)
    (hs2 : (backTo pos (starEach [b, c] X.env)).any (·.1) = false := by rfl) : SI X G W tg (.Call (.Name "range" p) [a, b, c] [] pos) (Mc.iRng3 t) :=
  pi_imp (pi_range3 hg hm ha hs hs2) fun σ H R ⟨m, r, S, s, re, p⟩ => by
    refine ⟨m, r, S, s, re, PostI.bind p fun m1 H1 vs S1 ys e1 s1 rvs p1 => ?_⟩
    split at p1
    · cases rvs with
      | cons r0 t0 => cases t0 with
        | cons r2 t2 => cases t2 with
          | cons r4 t4 =>
            cases t4; cases r0; cases r2; cases r4
            split at p1
            · next h =>
              simp only [Bool.and_eq_true, decide_eq_true_eq] at h
              obtain ⟨⟨⟨⟨h0, h1⟩, h2⟩, h3⟩, h4⟩ := h
              subst h0
              exact ⟨_, _, _, _, rfl, RgC.neg h1 h2 h3 h4, p1.ok s1 tk_rngC trivial⟩
            · exact p1.elim
    · exact p1.elim
/-! ### comprehensions -/
theorem lcG_len {u : Src} {g : DG} {tt : DT} {el : DE} {r : Env} : ∀ (n i : Nat) (acc : List AV) (S : Sto) (xs : List AV) (S' : Sto), lcG u g tt el r n i acc S = .ok xs S' → xs.length ≤ acc.length + n
  | 0, _, _, _, _, _, h => by cases h
  | n + 1, i, acc, S, xs, S', h => by
    unfold lcG at h
    split at h
    · cases h
    · cases h; omega
    · split at h
      · split at h
        · next k S2 _ =>
          split at h
          · split at h
            · have := lcG_len n _ _ _ _ _ h
              rw [List.length_append, List.length_singleton] at this
              omega
            · cases h
          · have := lcG_len n _ _ _ _ _ h
            omega
        · cases h
      · cases h
abbrev W0 : WX := fun _ _ _ _ => False
theorem wipe_set {i : Nat} {v : Option V} : ∀ {vs : List Nat} {σ : L2.St}, i ∈ vs → wipe (σ.set i v) vs = wipe σ vs
  | [], _, h => by cases h
  | w :: vs, σ, h => by
    unfold wipe
    by_cases e : i = w
    · subst e
      have key : ∀ (vs : List Nat) (σ : L2.St), (wipe (σ.set i v) vs).set i none = (wipe σ vs).set i none := fun vs => by
        induction vs with
        | nil => intro σ; unfold wipe; rw [List.set_set]
        | cons u us ih =>
          intro σ
          unfold wipe
          by_cases e2 : u = i
          · subst e2; rw [List.set_set, List.set_set]; exact ih σ
          · rw [List.set_comm _ _ e2, List.set_comm _ _ e2, ih σ]
      exact key vs σ
    · rcases List.mem_cons.mp h with h | h
      · exact absurd h e
      · rw [wipe_set h]
/-- a target of a block: it changes own slots alone -/
structure CG (K : PySem.W.Frag) (G : Str → Addr) (vs : List Nat) (gl : TG) (g : DG) : Prop where
  run : ∀ (m : Mp) (r : Env) (S : Sto) (v : AV) (x : V) (σ : L2.St) (H : Hp) (Q : L2.St → Hp → Prop), SM K G m S H → RE K G m H r σ → RV K G m H v x → (∃ r1, g v r S = .nx r1 S ∧ ∀ σ1, RE K G m H r1 σ1 → wipe σ1 vs = wipe σ vs → Q σ1 H) → gl x σ H Q
  same : ∀ v r S r1 S1, g v r S = .nx r1 S1 → S1 = S
structure CGs (K : PySem.W.Frag) (G : Str → Addr) (vs : List Nat) (gl : TGs) (g : List AV → Env → Sto → SR) : Prop where
  run : ∀ (m : Mp) (r : Env) (S : Sto) (v : List AV) (x : List V) (σ : L2.St) (H : Hp) (Q : L2.St → Hp → Prop), SM K G m S H → RE K G m H r σ → RVs K G m H v x → (∃ r1, g v r S = .nx r1 S ∧ ∀ σ1, RE K G m H r1 σ1 → wipe σ1 vs = wipe σ vs → Q σ1 H) → gl x σ H Q
  same : ∀ v r S r1 S1, g v r S = .nx r1 S1 → S1 = S
theorem cg_nm {K : PySem.W.Frag} {vs : List Nat} (i : Nat) (hi : i ∈ vs := by decide) : CG K G vs (gName i) (gNm i) where
  run := fun m r S v x σ H Q s re rv ⟨r1, e, q⟩ => by
    unfold gNm at e
    cases e
    exact q _ (re.set i rv) (wipe_set hi)
  same := fun v r S r1 S1 e => by unfold gNm at e; cases e; rfl
theorem cgs_nil {K : PySem.W.Frag} {vs : List Nat} : CGs K G vs gNil gsNil where
  run := fun m r S v x σ H Q s re rv ⟨r1, e, q⟩ => by
    unfold gsNil at e
    cases rv with
    | nil => cases e; exact ⟨rfl, q _ re rfl⟩
    | cons _ _ => cases e
  same := fun v r S r1 S1 e => by unfold gsNil at e; cases v <;> cases e; rfl
theorem cgs_cons {K : PySem.W.Frag} {vs : List Nat} {gl : TG} {g : DG} {gls : TGs} {gs : List AV → Env → Sto → SR} (h : CG K G vs gl g) (hs : CGs K G vs gls gs) : CGs K G vs (gCons gl gls) (gsCons g gs) where
  run := fun m r S v x σ H Q s re rv ⟨r1, e, q⟩ => by
    unfold gsCons at e
    cases rv with
    | nil => cases e
    | @cons v0 x0 vs' xs' r0 rs =>
      simp only at e
      cases hg : g v0 r S with
      | nx r2 S2 =>
        rw [hg] at e
        have := h.same _ _ _ _ _ hg
        subst this
        refine ⟨_, _, rfl, h.run m r S2 v0 x0 σ H _ s re r0 ⟨r2, hg, fun σ1 re1 w1 => ?_⟩⟩
        exact hs.run m r2 S2 vs' xs' σ1 H Q s re1 rs ⟨r1, e, fun σ2 re2 w2 => q σ2 re2 (w2.trans w1)⟩
      | _ => rw [hg] at e; cases e
  same := fun v r S r1 S1 e => by
    unfold gsCons at e
    cases v with
    | nil => cases e
    | cons v0 vs' =>
      simp only at e
      cases hg : g v0 r S with
      | nx r2 S2 =>
        rw [hg] at e
        rw [hs.same _ _ _ _ _ e, h.same _ _ _ _ _ hg]
      | _ => rw [hg] at e; cases e
theorem cg_tup {K : PySem.W.Frag} {vs : List Nat} {n : Nat} {gls : TGs} {gs : List AV → Env → Sto → SR} (hs : CGs K G vs gls gs) : CG K G vs (L2.gTup K n gls) (Mc.gTup n gs) where
  run := fun m r S v x σ H Q s re rv ⟨r1, e, q⟩ => by
    unfold Mc.gTup at e
    cases rv with
    | tup ha ra =>
      simp only at e
      split at e
      · next hl => exact ⟨_, _, rfl, .of ha, by rw [← ra.length]; exact hl, hs.run m r S _ _ σ H Q s re ra ⟨r1, e, q⟩⟩
      · cases e
    | _ => cases e
  same := fun v r S r1 S1 e => by
    unfold Mc.gTup at e
    cases v with
    | tup xs =>
      simp only at e
      split at e
      · exact hs.same _ _ _ _ _ e
      · cases e
    | _ => cases e
/-- a list comprehension's reading -/
theorem lc_tLc {K : PySem.W.Frag} {vs : List Nat} {u : DI} {g : DG} {gl : TG} {tt : DT} {el : DE} (cg : CG K G vs gl g) {σ : L2.St} {H : Hp} {Q : VK} (q : mE K G W (eLc vs u g tt el) σ H Q) :
    tLc (mI K G W u) gl (mT K G W0 tt) (mE K G W0 el) vs σ H Q := by
  obtain ⟨m, r, S, s, re, p⟩ := q
  unfold eLc at p
  refine ⟨m, r, S, s, re, ?_⟩
  cases hu : u r S with
  | bad => rw [hu] at p; exact p.elim
  | ex c q S1 => rw [hu] at p; exact p
  | ok src S1 =>
    rw [hu] at p
    simp only [Res.bind_ok] at p
    intro m1 H1 J P e1 s1 T hP D hD
    have p := Post.ext e1 p
    have re1 : RE K G m1 H1 r σ := re.mono s e1
    have sD := (s1.newTup (vs := []) hD)
    have nD := s1.none_not hD
    refine ⟨fun i n H2 => ∃ m2 S2 acc accV, H2 D = some (.lst accV) ∧ ¬ Fp m2 D ∧ SM K G m2 S2 H2 ∧ RE K G m2 H2 r σ ∧ RVs K G m2 H2 acc accV ∧ acc.length + n ≤ LIM ∧ P m2 S2 H2 ∧ Ex m1 m2 H1 H2 ∧
      Post K G (RV K G) W σ m1 H1 ((lcG src g tt el (wip r vs) n i acc S2).bind fun xs S3 => new S3 (.lst false xs)) Q, ?_, ?_⟩
    · have exD : Ex m1 m1 H1 (upd H1 D (.lst [])) := ⟨List.prefix_refl _, fun b o h n => by rw [upd_ne (ne_of_none h hD)]; exact h, fun b f => .inl f, fun b o u h => by rw [upd_ne (ne_of_none h hD)]; exact h⟩
      have sD2 : SM K G m1 S1 (upd H1 D (.lst [])) := by
        refine ⟨s1.len, fun j a e o' h1 h2 => ?_, s1.ap⟩
        exact (s1.obj j a e o' h1 h2).keep s1 exD (upd_ne fun z => nD (z ▸ ⟨_, List.mem_of_getElem? h1, .inl rfl⟩))
      exact ⟨LIM, m1, S1, [], [], upd_same, nD, sD2, re1.mono s1 exD, .nil, by simp, T.keep _ _ _ _ _ _ s1 hP exD sD2, exD, p⟩
    · rintro i n H2 ⟨m2, S2, acc, accV, hd, nd, s2, re2, ra, hz, hP2, e2, p⟩
      cases n with
      | zero => exact p.elim
      | succ n =>
        unfold lcG at p
        cases hv : src S2 i with
        | none => rw [hv] at p; exact p.elim
        | some o =>
          rw [hv] at p
          cases o with
          | none =>
            simp only [Res.bind_ok] at p
            refine .inl ⟨T.stop m2 S2 H2 i s2 hP2 hv, ?_⟩
            have ex3 : Ex m1 (m2 ++ [(D, D)]) H1 H2 := by
              refine ⟨e2.pre.trans (List.prefix_append _ _), e2.keep, fun b f => ?_, e2.frz⟩
              obtain ⟨w, hw, ew⟩ := f
              rcases List.mem_append.mp hw with hw | hw
              · exact e2.fresh b ⟨w, hw, ew⟩
              · have e3 : w = (D, D) := by simpa using hw
                subst e3
                rcases ew with ew | ew <;> (rw [ew]; exact .inr hD)
            refine p (m2 ++ [(D, D)]) H2 (.ref D) ex3 ⟨?_, fun j a e o' h1 h2 => ?_, fun j k w w' h1 h2 hjk => ?_⟩ (.ref (at_new s2))
            · rw [List.length_append, List.length_append, s2.len]; rfl
            · have exm : Ex m2 (m2 ++ [(D, D)]) H2 H2 ∨ True := .inr trivial
              by_cases hj : j < m2.length
              · rw [List.getElem?_append_left hj] at h1
                rw [List.getElem?_append_left (by rw [← s2.len]; exact hj)] at h2
                exact (s2.obj j a e o' h1 h2).more (List.prefix_append _ _)
              · have hl : j = m2.length := by
                  have := (List.getElem?_eq_some_iff.mp h1).1
                  rw [List.length_append, List.length_singleton] at this
                  omega
                subst hl
                rw [List.getElem?_append_right (Nat.le_refl _), Nat.sub_self] at h1
                rw [s2.len, List.getElem?_append_right (Nat.le_refl _), Nat.sub_self] at h2
                cases h1; cases h2
                exact .lst rfl hd (ra.more (List.prefix_append _ _))
            · exact ap_push s2.ap nd h1 h2 hjk
          | some v =>
            simp only at p
            refine .inr ⟨T.go m2 S2 H2 i v s2 hP2 hv, fun H3 => ∃ m2 S2 acc accV, H3 D = some (.lst accV) ∧ ¬ Fp m2 D ∧ SM K G m2 S2 H3 ∧ RE K G m2 H3 r σ ∧ RVs K G m2 H3 acc accV ∧ acc.length + n ≤ LIM ∧ P m2 S2 H3 ∧ Ex m1 m2 H1 H3 ∧
              Post K G (RV K G) W σ m1 H1 ((lcG src g tt el (wip r vs) n (i + 1) acc S2).bind fun xs S3 => new S3 (.lst false xs)) Q, fun H3 h => ⟨n, Nat.lt_succ_self n, h⟩, fun x H3 y => ?_⟩
            obtain ⟨m3, e3, s3, rv⟩ := T.yld m2 S2 H2 i v x H3 s2 hP2 hv y
            have hP3 := T.keep _ _ _ _ _ _ s2 hP2 e3 s3
            have dk : ∀ {m' : Mp} {H' : Hp}, Ex m2 m' H2 H' → H' D = some (.lst accV) ∧ ¬ Fp m' D := fun e => ⟨e.keep _ _ hd nd, fun f => by
              rcases e.fresh _ f with f | f
              · exact nd f
              · rw [hd] at f; cases f⟩
            cases hg : g v (wip r vs) S2 with
            | nx r4 S4 =>
              have := cg.same _ _ _ _ _ hg
              subst this
              rw [hg] at p
              simp only at p
              refine cg.run m3 (wip r vs) S4 v x _ H3 _ s3 ((re2.mono s2 e3).wip vs) rv ⟨r4, hg, fun σ4 re4 w4 => ⟨?_, ?_⟩⟩
              · rw [w4]
                have : ∀ (us ws : List Nat) (τ : L2.St), wipe (wipe τ us) us = wipe τ us := fun us _ τ => by
                  have idem : ∀ (us : List Nat) (τ : L2.St) (k : Nat), k ∈ us → (wipe τ us).set k none = wipe τ us := by
                    intro us
                    induction us with
                    | nil => intro τ k h; cases h
                    | cons a us ih =>
                      intro τ k h
                      unfold wipe
                      by_cases e : k = a
                      · subst e; rw [List.set_set]
                      · rcases List.mem_cons.mp h with h | h
                        · exact absurd h e
                        · rw [List.set_comm _ _ (Ne.symm e), ih τ k h]
                  have all : ∀ (ws us : List Nat) (τ : L2.St), (∀ k ∈ ws, k ∈ us) → wipe (wipe τ us) ws = wipe τ us := by
                    intro ws
                    induction ws with
                    | nil => intro us τ _; rfl
                    | cons a ws ih =>
                      intro us τ h
                      show (wipe (wipe τ us) ws).set a none = wipe τ us
                      rw [ih us τ fun k hk => h k (List.mem_cons_of_mem _ hk)]
                      exact idem us τ a (h a List.mem_cons_self)
                  exact all us us τ fun _ h => h
                exact this vs vs σ
              · refine ⟨m3, r4, S4, s3, re4, ?_⟩
                cases ht : tt r4 S4 with
                | ex c q S5 => rw [ht] at p; exact p.elim
                | bad => rw [ht] at p; exact p.elim
                | ok k S5 =>
                  rw [ht] at p
                  simp only at p
                  intro m5 H5 k' e5 s5 rk
                  cases rk
                  have hP5 := T.keep _ _ _ _ _ _ s3 hP3 e5 s5
                  have e35 := e3.trans e5
                  cases k with
                  | false =>
                    rw [if_neg Bool.false_ne_true] at p ⊢
                    obtain ⟨d1, d2⟩ := dk e35
                    exact ⟨m5, S5, acc, accV, d1, d2, s5, re2.mono s2 e35, ra.mono s2 e35, by omega, hP5, e2.trans e35, p⟩
                  | true =>
                    rw [if_pos rfl] at p ⊢
                    refine ⟨m5, r4, S5, s5, re4.mono s3 e5, ?_⟩
                    cases he : el r4 S5 with
                    | ex c q S6 => rw [he] at p; exact p.elim
                    | bad => rw [he] at p; exact p.elim
                    | ok z S6 =>
                      rw [he] at p
                      simp only at p
                      intro m6 H6 z' e6 s6 rz
                      have e36 := e35.trans e6
                      obtain ⟨d1, d2⟩ := dk e36
                      have hP6 := T.keep _ _ _ _ _ _ s5 hP5 e6 s6
                      have hl : accV.length = acc.length := ((ra.mono s2 e36).length).symm
                      refine ⟨accV, d1, ?_, ?_⟩
                      · have : LIM < sizeLine := by rw [sizeLine_eq]; decide
                        omega
                      · have kT : ∀ (a : Addr) (us : List V), H6 a = some (.tup us) → upd H6 D (.lst (accV ++ [z'])) a = some (.tup us) := fun a us h => by
                          have : a ≠ D := fun w => by subst w; rw [d1] at h; cases h
                          rw [upd_ne this]; exact h
                        refine ⟨m6, S6, acc ++ [z], accV ++ [z'], upd_same, d2, s6.beside d2 d1, (re2.mono s2 e36).keepT kT, ((ra.mono s2 e36).append (.cons rz .nil)).keepT kT, by rw [List.length_append, List.length_singleton]; omega, T.keepD _ _ _ _ _ _ hP6 d2 d1, ?_, p⟩
                        have e26 := e2.trans e36
                        refine ⟨e26.pre, fun b o h nn => ?_, e26.fresh, fun b o w h => ?_⟩
                        · rw [upd_ne (ne_of_none h hD)]; exact e26.keep b o h nn
                        · rw [upd_ne (ne_of_none h hD)]; exact e26.frz b o w h
            | _ => rw [hg] at p; exact p.elim
end
end Mc
end
section
set_option Elab.async false
set_option linter.all false
set_option maxRecDepth 100000
set_option maxHeartbeats 1000000
/-! M8: the context of a body, a def by its body, calls of defs, comprehensions, locked dicts. -/
namespace Mc
open PySem PySem.Spec PyProof.Rows L2
/-- what a body's context bears -/
structure Cy (X : Cx) (W : WX) (k : Nat) : Prop where
  tk : Takes X W
  rm : Room k X.A
  calm : X.calm = true
  nd : X.N.Nodup
  po : PassesOwn (model X.prog X.w) X.A X.env X.xe
section
variable {X : Cx} {G : Str → Addr} {W : WX} {pos : Pos} {k : Nat}
theorem Cy.hu (c : Cy X W k) : X.A.units + 1 < cLine := hu_of c.rm
theorem Cy.h64 (c : Cy X W k) : X.A.units + 64 < cLine := c.rm.units
theorem Cy.blk (c : Cy X W k) (s : Shared) (H : Hp) (scope : Scope) (cenv : PySem.Env) (fp : List Addr) : Cy (X.blk s H scope cenv fp) W0 k :=
  ⟨takes0, c.rm, c.calm, c.nd, PassesOwn.never⟩
theorem k_eqM (c : Cy X W k) : Cmp X G .Eq cEq := k_eq c.h64
theorem k_neM (c : Cy X W k) : Cmp X G .NotEq cNe := k_ne c.h64

/-! ### a def by its body -/
theorem okM {P : Program} {w : World} {K : PySem.W.Frag} {mg : Str → Option Value} {base : Heap} {x qual : Str} {params : Arguments} {body : List Stmt} {scope : Scope} {kws : List (Str × V)} {dvs : List V} {f : Addr} {fd : FuncData} {N ps : List Str} {n j : Nat} {b : DS}
    (F : FunD K x qual params body scope dvs kws f fd) (S : FnScope N ps scope) (hn : ps.length = n) (hj : N.length = j)
    (h : ∀ (cdv : Value) (A : Around) (outer : List PySem.Env) (s : Shared) (H : Hp) (E : XK), Cy (cxOf (L2.CX P w) P w K mg base N qual scope f cdv A outer s H E) (fun cls d _ H' => E cls d H') k →
      SSs (cxOf (L2.CX P w) P w K mg base N qual scope f cdv A outer s H E) G (fun cls d _ H' => E cls d H') body b) :
    FnOk P w K mg base (L2.CX P w) (k + 1) f fd ps (spM K G n (mkF j b)) := by
  subst hj
  refine F.ok S (fun vs H Q E q => by rw [hn]; exact spM_len q) fun cdv A outer s H vs Q E hr q => ?_
  have c : Cy (cxOf (L2.CX P w) P w K mg base N qual scope f cdv A outer s H E) (fun cls d _ H' => E cls d H') k := ⟨takes_of rfl rfl rfl rfl, hr, rfl, S.nd, passes_of rfl⟩
  refine ⟨_, h cdv A outer s H E c, ?_⟩
  obtain ⟨m, St, xs, hl, sm, rv, p⟩ := q
  refine ⟨m, _, St, sm, RE.start rv N, ?_⟩
  unfold mkF at p
  cases hb : b (xs.map some ++ List.replicate (N.length - xs.length) none) St with
  | nx r1 S1 => rw [hb] at p; exact fun m1 σ1 H1 e1 s1 _ => p m1 H1 .non e1 s1 .non
  | ret v S1 => rw [hb] at p; exact p
  | brk r1 S1 => rw [hb] at p; exact False.elim p
  | cnt r1 S1 => rw [hb] at p; exact False.elim p
  | ex c' q r1 S1 => rw [hb] at p; exact fun m1 σ1 H1 cls d e1 s1 _ rx => p m1 H1 cls d e1 s1 rx
  | bad => rw [hb] at p; exact False.elim p
/-- a def of the text, behind the top: its machine's function -/
structure FnT (P : Program) (w : World) (K : PySem.W.Frag) (mg : Str → Option Value) (base : Heap) (G : Str → Addr) (x : Str) (k n : Nat) (F : DF) : Prop where
  ex : ∃ (fd : FuncData) (ps : List Str), mg x = some (.ref (G x)) ∧ PySem.W.keepIn K (.ref (G x)) = true ∧ Binds K fd ps [] ∧ FnOk P w K mg base (L2.CX P w) k (G x) fd ps (spM K G n F)
theorem se_callT {x : Str} {j n : Nat} {F : DF} {e : Expr} {es : List Expr} {t : DA} {p : Pos} (T : FnT X.prog X.w X.K X.mg X.base G x j n F) (c : Cy X W k) (ha : SA X G W (e :: es) t) (hn : ∀ r S, ∀ v S', t r S = .ok v S' → v.length = n) (hk : j ≤ k := by decide) (hg : Gl X x := by rfl) (hdb : (x == ("__debug__" : Str)) = false := by decide)
    (he : starEach (e :: es) X.env = (false, eval e X.env) :: starEach es X.env := by rfl) (hpl : (backTo pos (starEach es X.env)).any (·.1) = false := by rfl) : SE X G W (.Call (.Name x p) (e :: es) [] pos) (eCall F t) := by
  obtain ⟨fd, ps, h1, h2, h3, h4⟩ := T.ex
  exact se_call h4 c.tk (c.rm.mono hk) hg h1 h2 h3 ha hn hdb he hpl
/-! ### comprehensions -/
theorem sts_yes : PTs X [] (mT X.K G W Mc.tYes) := ⟨fun pins s σ H Q I ⟨m, r, S, sm, re, p⟩ => pts_nil.run pins s σ H Q I (p m H true .refl sm rfl)⟩
theorem sts_one {c : Expr} {t : DT} (h : ST X G W c t) : PTs X [c] (mT X.K G W t) := pts_one h
theorem se_lc {elt tg it : Expr} {ifs : List Expr} {scope : Scope} {own : List (Str × Nat)} {u : DI} {g : DG} {gl : TG} {tt : DT} {el : DE} (c : Cy X W k) (hi : SI X G W tg it u) (ok : BlkOk X.N X.env.scope scope own)
    (hg : ∀ (s : Shared) (H : Hp) (C : Addr) (cl : List (Str × Addr)) (fp : List Addr), PG (X.blk s H scope (compEnvC scope cl C X.env) fp) tg gl) (cg : CG X.K G (own.map (·.2)) gl g)
    (ht : ∀ (s : Shared) (H : Hp) (C : Addr) (cl : List (Str × Addr)) (fp : List Addr), Cy (X.blk s H scope (compEnvC scope cl C X.env) fp) W0 k → PTs (X.blk s H scope (compEnvC scope cl C X.env) fp) ifs (mT X.K G W0 tt))
    (he : ∀ (s : Shared) (H : Hp) (C : Addr) (cl : List (Str × Addr)) (fp : List Addr), Cy (X.blk s H scope (compEnvC scope cl C X.env) fp) W0 k → PE (X.blk s H scope (compEnvC scope cl C X.env) fp) elt (mE X.K G W0 el)) (hs : ∀ x, foldedSetIterable it X.env x = pure x := by intro _; rfl) :
    SE X G W (.ListComp elt [⟨tg, it, ifs, 0⟩] scope pos) (eLc (own.map (·.2)) u g tt el) :=
  pe_imp (pe_lc c.calm c.nd hi ok hg (fun s H C cl fp => ht s H C cl fp (c.blk ..)) (fun s H C cl fp => he s H C cl fp (c.blk ..)) hs) fun _ _ _ q => lc_tLc cg q
/-- name = [..] on one line -/
theorem ss_setLc (i : Nat) {y : Str} {py spos : Pos} {elt tg it : Expr} {ifs : List Expr} {scope : Scope} {own : List (Str × Nat)} {u : DI} {g : DG} {gl : TG} {tt : DT} {el : DE} (c : Cy X W k) (hi : SI X G W tg it u) (ok : BlkOk X.N X.env.scope scope own)
    (hg : ∀ (s : Shared) (H : Hp) (C : Addr) (cl : List (Str × Addr)) (fp : List Addr), PG (X.blk s H scope (compEnvC scope cl C X.env) fp) tg gl) (cg : CG X.K G (own.map (·.2)) gl g)
    (ht : ∀ (s : Shared) (H : Hp) (C : Addr) (cl : List (Str × Addr)) (fp : List Addr), Cy (X.blk s H scope (compEnvC scope cl C X.env) fp) W0 k → PTs (X.blk s H scope (compEnvC scope cl C X.env) fp) ifs (mT X.K G W0 tt))
    (he : ∀ (s : Shared) (H : Hp) (C : Addr) (cl : List (Str × Addr)) (fp : List Addr), Cy (X.blk s H scope (compEnvC scope cl C X.env) fp) W0 k → PE (X.blk s H scope (compEnvC scope cl C X.env) fp) elt (mE X.K G W0 el))
    (hsw : swapsWith (.ListComp elt [⟨tg, it, ifs, 0⟩] scope pos) (some (.Name y py)) spos.line X.env = pure true) (hy : X.N[i]? = some y := by rfl) (hyl : X.env.scope.names.lookup y = some .local := by rfl) (hs : ∀ x, foldedSetIterable it X.env x = pure x := by intro _; rfl) :
    SS X G W (.Assign [.Name y py] (.ListComp elt [⟨tg, it, ifs, 0⟩] scope pos) spos) (sAsg (eLc (own.map (·.2)) u g tt el) (gNm i)) :=
  ps_imp (ps_setLc c.calm c.nd hy hyl hsw hi ok hg (fun s H C cl fp => ht s H C cl fp (c.blk ..)) (fun s H C cl fp => he s H C cl fp (c.blk ..)) hs) fun D σ H ⟨m, r, S, s, re, p⟩ => by
    refine lc_tLc (W := W) cg ⟨m, r, S, s, re, ?_⟩
    exact PostS.thn s re p fun m1 H1 v S1 y e1 s1 rv p1 => p1 m1 _ H1 .refl s1 ((re.mono s e1).set i rv)

end
end Mc
end
section
set_option Elab.async false
set_option linter.all false
set_option maxRecDepth 100000
set_option maxHeartbeats 1000000
/-! M9: keys, tables, items. -/
namespace Mc
open PySem PySem.Spec PyProof.Rows L2
/-! ### keys -/
theorem k1_ok {x y : AV} {k j : Key} (hx : kA x = some k) (hy : kA y = some j) : k1 x y = decide (k = j) := by
  unfold kA at hx hy
  split at hx
  · cases hx
    split at hy
    · cases hy
      unfold k1
      simp [Sum.inl.injEq]
    · cases hy; simp [k1]
    · cases hy
  · cases hx
    split at hy
    · cases hy; simp [k1]
    · cases hy
      unfold k1
      simp [Sum.inr.injEq]
    · cases hy
  · cases hx
theorem kA_noT {x : AV} {k : Key} (h : kA x = some k) : isTK x = false := by
  unfold kA at h
  split at h <;> first | rfl | cases h
theorem kT_T {x : AV} {k : List Key} (h : kT x = some k) : isTK x = true := by
  unfold kT at h
  split at h
  · rfl
  · cases h
theorem kEq_ok {x y : AV} {k j : Key} (hx : kA x = some k) (hy : kA y = some j) : kEq x y = decide (k = j) := by
  have h := k1_ok hx hy
  have n := kA_noT hx
  unfold kEq
  split
  · simp [isTK] at n
  · exact h
theorem kAll_ok : ∀ {xs ys : List AV} {k j : List Key}, optAll (xs.map kA) = some k → optAll (ys.map kA) = some j → kAll xs ys = decide (k = j) := by
  intro xs
  induction xs with
  | nil =>
    intro ys k j h1 h2
    cases h1
    cases ys with
    | nil => cases h2; rfl
    | cons y ys =>
      cases optAll_map h2 with
      | cons e t => rfl
  | cons x xs ih =>
    intro ys k j h1 h2
    have q1 := optAll_map h1
    have q2 := optAll_map h2
    cases q1 with
    | @cons _ k0 _ ks e1 t1 =>
      cases q2 with
      | nil => simp [kAll]
      | @cons y j0 ys js e2 t2 =>
        have a1 : optAll (xs.map kA) = some ks := by
          rw [List.map_cons, e1] at h1
          cases z : optAll (xs.map kA) with
          | none => simp only [optAll, z] at h1; cases h1
          | some zs => simp only [optAll, z] at h1; cases h1; rfl
        have a2 : optAll (ys.map kA) = some js := by
          rw [List.map_cons, e2] at h2
          cases z : optAll (ys.map kA) with
          | none => simp only [optAll, z] at h2; cases h2
          | some zs => simp only [optAll, z] at h2; cases h2; rfl
        unfold kAll
        rw [k1_ok e1 e2, ih a1 a2]
        simp [List.cons.injEq]
theorem kEqT_ok {x y : AV} {k j : List Key} (hx : kT x = some k) (hy : kT y = some j) : kEq x y = decide (k = j) := by
  unfold kT at hx hy
  split at hx
  · split at hy
    · exact kAll_ok hx hy
    · cases hy
  · cases hx
section
variable {K : PySem.W.Frag} {G : Str → Addr} {m : Mp} {H : Hp}
/-- the value of a key -/
theorem kA_rel {v : AV} {x : V} {k : Key} (h : kA v = some k) (r : RV K G m H v x) : x = kV k := by
  unfold kA at h
  split at h
  · cases h; cases r; rfl
  · cases h; cases r; rfl
  · cases h
theorem kA_relR {v : AV} {k : Key} (h : kA v = some k) : RV K G m H v (kV k) := by
  unfold kA at h
  split at h
  · cases h; exact .int _
  · cases h; exact .str _
  · cases h
theorem kAs_rel : ∀ {vs : List AV} {xs : List V} {k : List Key}, optAll (vs.map kA) = some k → RVs K G m H vs xs → xs = k.map kV
  | [], _, _, h, r => by cases h; cases r; rfl
  | v :: vs, _, k, h, r => by
    cases r with
    | cons r t =>
      rw [List.map_cons] at h
      cases e : kA v with
      | none => rw [e] at h; cases h
      | some k0 =>
        rw [e] at h
        cases z : optAll (vs.map kA) with
        | none => simp only [optAll, z] at h; cases h
        | some ks =>
          simp only [optAll, z] at h
          cases h
          rw [kA_rel e r, kAs_rel z t, List.map_cons]
theorem kT_rel {v : AV} {x : V} {k : List Key} (h : kT v = some k) (r : RV K G m H v x) : ∃ b, x = .ref b ∧ H b = some (.tup (k.map kV)) := by
  unfold kT at h
  split at h
  · cases r with
    | tup ha ra => exact ⟨_, rfl, by rw [ha, kAs_rel h ra]⟩
  · cases h
abbrev PrA (K : PySem.W.Frag) (G : Str → Addr) (m : Mp) (H : Hp) (kvs : List (AV × AV)) (us : List (Key × V)) : Prop := Paired (fun (p : AV × AV) (q : Key × V) => kA p.1 = some q.1 ∧ RV K G m H p.2 q.2) kvs us
abbrev PrT (K : PySem.W.Frag) (G : Str → Addr) (m : Mp) (H : Hp) (kvs : List (AV × AV)) (us : List (List Key × V)) : Prop := Paired (fun (p : AV × AV) (q : List Key × V) => kT p.1 = some q.1 ∧ RV K G m H p.2 q.2) kvs us
/-- lookups in tables of a kind of keys -/
theorem val_gen {κ : Type} [DecidableEq κ] {f : AV → Option κ} (hf : ∀ {x y : AV} {k j : κ}, f x = some k → f y = some j → kEq x y = decide (k = j)) {y : AV} {k : κ} (hy : f y = some k) :
    ∀ {kvs : List (AV × AV)} {us : List (κ × V)}, Paired (fun (p : AV × AV) (q : κ × V) => f p.1 = some q.1 ∧ RV K G m H p.2 q.2) kvs us →
      (∀ v, valA kvs y = some v → ∃ x, valV us k = some x ∧ RV K G m H v x) ∧ (valA kvs y = none → valV us k = none)
  | _, _, .nil => ⟨fun v h => by simp [valA] at h, fun _ => rfl⟩
  | _, _, @Paired.cons _ _ _ p q kvs us h t => by
    obtain ⟨i1, i2⟩ := val_gen hf hy t
    have e := hf h.1 hy
    unfold valA valV at *
    rw [List.find?_cons, List.find?_cons]
    by_cases z : q.1 = k
    · have e1 : kEq p.1 y = true := by rw [e]; simpa using z
      have e2 : decide (q.1 = k) = true := by simpa using z
      rw [e1, e2]
      refine ⟨fun v hv => ?_, fun hv => by cases hv⟩
      cases hv
      exact ⟨_, rfl, h.2⟩
    · have e1 : kEq p.1 y = false := by rw [e]; simpa using z
      have e2 : decide (q.1 = k) = false := by simpa using z
      rw [e1, e2]
      exact ⟨i1, i2⟩
theorem any_gen {κ : Type} [DecidableEq κ] {f : AV → Option κ} (hf : ∀ {x y : AV} {k j : κ}, f x = some k → f y = some j → kEq x y = decide (k = j)) {y : AV} {k : κ} (hy : f y = some k) :
    ∀ {kvs : List (AV × AV)} {us : List (κ × V)}, Paired (fun (p : AV × AV) (q : κ × V) => f p.1 = some q.1 ∧ RV K G m H p.2 q.2) kvs us → (kvs.any fun p => kEq p.1 y) = us.any fun q => decide (q.1 = k)
  | _, _, .nil => rfl
  | _, _, .cons h t => by rw [List.any_cons, List.any_cons, any_gen hf hy t, hf h.1 hy]
theorem put_gen {κ : Type} [DecidableEq κ] {f : AV → Option κ} (hf : ∀ {x y : AV} {k j : κ}, f x = some k → f y = some j → kEq x y = decide (k = j)) {y w : AV} {k : κ} {x : V} (hy : f y = some k) (r : RV K G m H w x)
    {kvs : List (AV × AV)} {us : List (κ × V)} (h : Paired (fun (p : AV × AV) (q : κ × V) => f p.1 = some q.1 ∧ RV K G m H p.2 q.2) kvs us) :
      Paired (fun (p : AV × AV) (q : κ × V) => f p.1 = some q.1 ∧ RV K G m H p.2 q.2) (putA kvs y w) (putK us k x) := by
  unfold putA putK
  rw [any_gen hf hy h]
  by_cases z : (us.any fun q => decide (q.1 = k)) = true
  · rw [if_pos z, if_pos z]
    clear z
    induction h with
    | nil => exact .nil
    | @cons p q kvs us h t ih =>
      refine .cons ?_ ih
      by_cases e : q.1 = k
      · have e1 : kEq p.1 y = true := by rw [hf h.1 hy]; simpa using e
        show f (if kEq p.1 y = true then (p.1, w) else p).1 = some (if q.1 = k then (q.1, x) else q).1 ∧ RV K G m H (if kEq p.1 y = true then (p.1, w) else p).2 (if q.1 = k then (q.1, x) else q).2
        rw [if_pos e1, if_pos e]
        exact ⟨h.1, r⟩
      · have e1 : kEq p.1 y = false := by rw [hf h.1 hy]; simpa using e
        show f (if kEq p.1 y = true then (p.1, w) else p).1 = some (if q.1 = k then (q.1, x) else q).1 ∧ RV K G m H (if kEq p.1 y = true then (p.1, w) else p).2 (if q.1 = k then (q.1, x) else q).2
        have e3 : ¬ (kEq p.1 y = true) := by rw [e1]; decide
        rw [if_neg e3, if_neg e]
        exact h
  · rw [if_neg z, if_neg z]
    clear z
    induction h with
    | nil => exact .cons ⟨hy, r⟩ .nil
    | cons h t ih => exact .cons h ih
theorem paired_len {κ κ' : Type} {F : κ → κ' → Prop} {l : List κ} {l' : List κ'} (h : Paired F l l') : l.length = l'.length := by
  induction h with
  | nil => rfl
  | cons _ _ ih => rw [List.length_cons, List.length_cons, ih]
theorem isK_cases {y : AV} (h : isK y = true) : (∃ k, kA y = some k ∧ isTK y = false) ∨ ∃ k, kT y = some k ∧ isTK y = true := by
  unfold isK at h
  rw [Bool.or_eq_true] at h
  rcases h with h | h
  · obtain ⟨k, e⟩ := Option.isSome_iff_exists.mp h
    exact .inl ⟨k, e, kA_noT e⟩
  · obtain ⟨k, e⟩ := Option.isSome_iff_exists.mp h
    exact .inr ⟨k, e, kT_T e⟩
/-- a key of the wrong kind: the table is empty -/
theorem okK_A {y : AV} {k : List Key} {kvs : List (AV × AV)} {us : List (Key × V)} (h : okK kvs y = true) (hy : kT y = some k) (p : PrA K G m H kvs us) : kvs = [] ∧ us = [] := by
  cases p with
  | nil => exact ⟨rfl, rfl⟩
  | cons q t =>
    unfold okK at h
    rw [Bool.and_eq_true, List.all_cons, Bool.and_eq_true, kA_noT q.1, kT_T hy] at h
    exact absurd h.2.1 (by decide)
theorem okK_T {y : AV} {k : Key} {kvs : List (AV × AV)} {us : List (List Key × V)} (h : okK kvs y = true) (hy : kA y = some k) (p : PrT K G m H kvs us) : kvs = [] ∧ us = [] := by
  cases p with
  | nil => exact ⟨rfl, rfl⟩
  | cons q t =>
    unfold okK at h
    rw [Bool.and_eq_true, List.all_cons, Bool.and_eq_true, kA_noT hy, kT_T q.1] at h
    exact absurd h.2.1 (by decide)
end
/-! ### an empty table is of either kind -/
section
variable {X : Cx} {pins : List (Addr × Obj)} {σ : L2.St} {H : Hp} {s : Shared} {a : Addr}
theorem inv_same (I : Inv X pins σ H s) {o : HO} (mu : Mut (H a)) (he : ∃ u, s.heap.get? a = some u) (new : ObjOk X.prog X.w (upd H a o) s.heap a o) : Inv X pins σ (upd H a o) s :=
  I.write (x := a) (e := a) (t' := s.toks) mu (.inl rfl) (fun b u _ h => h) he new
theorem inv_asT (I : Inv X pins σ H s) (h : H a = some (.dK [])) : Inv X pins σ (upd H a (.dT [])) s := by
  obtain ⟨z, hd, vs, rel, dd⟩ := dk_of I.hok h
  cases rel
  obtain ⟨o, es, ep, h1, h2, h3, h4, h5, h6⟩ := dd
  have e : es = #[] := by
    have : es.toList = [] := List.eq_nil_of_length_eq_zero h5.length
    simpa using this
  subst e
  exact inv_same I (by rw [h]; trivial) ⟨_, h1⟩ ⟨Nat.zero_le _, hd, [], .nil, o, #[], ep, h1, h2, h3, rfl, List.nodup_nil⟩
theorem inv_asK (I : Inv X pins σ H s) (h : H a = some (.dT [])) : Inv X pins σ (upd H a (.dK [])) s := by
  obtain ⟨z, hd, vs, rel, dd⟩ := dt_of I.hok h
  cases rel
  obtain ⟨o, es, ep, h1, h2, h3, h4, h5, h6⟩ := dd
  have e : es = #[] := by simpa using h4
  subst e
  exact inv_same I (by rw [h]; trivial) ⟨_, h1⟩ ⟨Nat.zero_le _, hd, [], .nil, o, #[], ep, h1, h2, h3, fun j => (by simp), .nil, List.nodup_nil⟩
end
section
variable {K : PySem.W.Frag} {G : Str → Addr} {m : Mp} {H : Hp} {S : Sto}
theorem sto_set_same {S : Sto} {i : Nat} {o : AO} (h : S[i]? = some o) : S.set i o = S := by
  obtain ⟨h1, h2⟩ := List.getElem?_eq_some_iff.mp h
  rw [← h2]; exact List.set_getElem_self h1
/-- the store is as before, the empty table told as one of the other kind -/
theorem sm_asT {i : Nat} {a d : Addr} (s : SM K G m S H) (hi : m[i]? = some (a, d)) (hs : S[i]? = some (.dct false [])) (h : H a = some (.dK [])) :
    SM K G m S (upd H a (.dT [])) ∧ Ex m m H (upd H a (.dT [])) := by
  have hd : d = a := by
    cases s.obj _ _ _ _ hi hs with
    | dk e g q => exact e
    | dt e g q => exact e
  have q := s.write (o := .dct false []) (u := .dT []) hi hd (fun q w => by rw [h]; simp) fun H' eH ex => by
    subst eH
    exact .dt (us := []) hd upd_same .nil
  rwa [sto_set_same hs] at q
theorem sm_asK {i : Nat} {a d : Addr} (s : SM K G m S H) (hi : m[i]? = some (a, d)) (hs : S[i]? = some (.dct false [])) (h : H a = some (.dT [])) :
    SM K G m S (upd H a (.dK [])) ∧ Ex m m H (upd H a (.dK [])) := by
  have hd : d = a := by
    cases s.obj _ _ _ _ hi hs with
    | dk e g q => exact e
    | dt e g q => exact e
  have q := s.write (o := .dct false []) (u := .dK []) hi hd (fun q w => by rw [h]; simp) fun H' eH ex => by
    subst eH
    exact .dk (us := []) hd upd_same .nil
  rwa [sto_set_same hs] at q
end
/-! ### items -/
def rIxDc : R2 := fun x y H Q => ∃ a v, x = .ref a ∧ DGet H a y (some v) ∧ Q v H
theorem ix_dct {X : Cx} (hu : X.A.units + 1 < cLine) : IxR X rIxDc := by
  intro value slice pins s σ H x y v u Q I rx ry h hs
  obtain ⟨a, z, rfl, g, q⟩ := h
  obtain rfl : v = Value.ref a := rx
  exact tail_any (ops := [.ref a, u]) (dict_typeIs I g) PySem.F.slot_dict_getitem.lookup (d_getItem hu I g ry fun w' s3 I3 rw' => ⟨z, H, I3, rw', q⟩) hs
section
variable {X : Cx} {G : Str → Addr} {W : WX} {pos : Pos} {k : Nat} {a b : Expr} {fa fb : DE}
theorem atI_rel {m : Mp} {H : Hp} {xs : List AV} {vs : List V} {i : Int} {v : AV} (r : RVs X.K G m H xs vs) (h : atI xs i = some v) : ∃ x, atI vs i = some x ∧ RV X.K G m H v x := by
  unfold atI at *
  rw [r.length] at h
  cases e : ixN vs.length i with
  | none => rw [e] at h; cases h
  | some j => rw [e] at h; exact r.get h
theorem oIx_ok : O2 X.K G oIx (fun x y H Q => (rIxL X.K x y H Q ∨ rIxT X.K x y H Q) ∨ (rIxS x y H Q ∨ rIxDc x y H Q)) := by
  intro m S H v w x y W σ Q s rv rw p
  unfold oIx at p
  split at p
  · cases rv with
    | tup ha ra =>
      split at p
      · cases rw
        cases e : atI ‹List AV› ‹Int› with
        | none => rw [e] at p; exact p.elim
        | some v =>
          rw [e] at p
          obtain ⟨x, e2, r2⟩ := atI_rel ra e
          exact .inl (.inr ⟨_, _, _, _, rfl, rfl, .of ha, e2, p.ok s r2⟩)
      · exact p.elim
  · cases rv with
    | @ref _ ad _ hi =>
      split at p
      · next h1 =>
        split at p
        · cases rw
          cases e : atI ‹List AV› ‹Int› with
          | none => rw [e] at p; exact p.elim
          | some v =>
            rw [e] at p
            cases s.obj _ _ _ _ hi h1 with
            | lst _ g q =>
              obtain ⟨x, e2, r2⟩ := atI_rel q e
              exact .inl (.inl ⟨_, _, _, _, rfl, rfl, .of g, e2, p.ok s r2⟩)
            | lstR _ g q =>
              obtain ⟨x, e2, r2⟩ := atI_rel q e
              exact .inl (.inl ⟨_, _, _, _, rfl, rfl, .inl g, e2, p.ok s r2⟩)
        · exact p.elim
      · next h1 =>
        split at p
        · next hk =>
          cases e : valA ‹List (AV × AV)› w with
          | none => rw [e] at p; exact p.elim
          | some v =>
            rw [e] at p
            have nn : ‹List (AV × AV)› ≠ [] := fun z => by rw [z] at e; cases e
            have hk2 : isK w = true := by
              unfold okK at hk
              rw [Bool.and_eq_true] at hk
              exact hk.1
            have fin : ∀ a, (∃ us, Rd H a (.dK us) ∧ PrA X.K G m H ‹List (AV × AV)› us) ∨ (∃ us, Rd H a (.dT us) ∧ PrT X.K G m H ‹List (AV × AV)› us) → ∃ z, DGet H a y (some z) ∧ Q z H := by
              intro a h
              rcases isK_cases hk2 with ⟨k, ek, _⟩ | ⟨k, ek, _⟩
              · rcases h with ⟨us, g, q⟩ | ⟨us, g, q⟩
                · obtain ⟨x, e2, r2⟩ := (val_gen kEq_ok ek q).1 _ e
                  exact ⟨x, .inl ⟨us, k, g, kA_rel ek rw, e2.symm⟩, p.ok s r2⟩
                · exact absurd (okK_T hk ek q).1 nn
              · rcases h with ⟨us, g, q⟩ | ⟨us, g, q⟩
                · exact absurd (okK_A hk ek q).1 nn
                · obtain ⟨x, e2, r2⟩ := (val_gen kEqT_ok ek q).1 _ e
                  obtain ⟨b, eb, hb⟩ := kT_rel ek rw
                  exact ⟨x, .inr ⟨us, k, b, g, eb, hb, e2.symm⟩, p.ok s r2⟩
            have fin2 : ∃ z, DGet H ad y (some z) ∧ Q z H := by
              cases s.obj _ _ _ _ hi h1 with
              | dk _ g q => exact fin _ (.inl ⟨_, .inl g, q⟩)
              | dt _ g q => exact fin _ (.inr ⟨_, .inl g, q⟩)
              | dkR _ g q => exact fin _ (.inl ⟨_, .inr ⟨_, g⟩, q⟩)
              | dtR _ g q _ => exact fin _ (.inr ⟨_, .inr ⟨_, g⟩, q⟩)
            obtain ⟨z, dg, q⟩ := fin2
            exact .inr (.inr ⟨_, z, rfl, dg, q⟩)
        · exact p.elim
      · exact p.elim
  · cases rv
    split at p
    · cases rw
      split at p
      · next hz =>
        cases e : atI _ ‹Int› with
        | none => rw [e] at p; exact p.elim
        | some c =>
          rw [e] at p
          exact .inr (.inl ⟨_, _, _, rfl, rfl, hz, e, p.ok s (.str _)⟩)
      · exact p.elim
    · exact p.elim
  · exact p.elim
/-- a[b] -/
theorem se_ix (c : Cy X W k) (ha : SE X G W a fa) (hb : SE X G W b fb) (hs : PlainIx b := by intro _ _; rfl) : SE X G W (.Subscript a b pos) (e2 oIx fa fb) :=
  pe_imp (pe_ix ((ix_list.or ix_tup).or (ix_str.or (ix_dct c.hu))) ha hb hs) fun _ _ _ q => e2_tOp oIx_ok q
end
end Mc
end
section
set_option Elab.async false
set_option linter.all false
set_option maxRecDepth 100000
set_option maxHeartbeats 1000000
/-! M10: x[i] = v, d.get, slices. -/
namespace Mc
open PySem PySem.Spec PyProof.Rows L2
/-! ### x[i] = v -/
/-- as it stands, or an empty table told as one of the other kind -/
def Alt (H : Hp) (a : Addr) (H1 : Hp) : Prop := H1 = H ∨ (H a = some (.dK []) ∧ H1 = upd H a (.dT [])) ∨ (H a = some (.dT []) ∧ H1 = upd H a (.dK []))
theorem inv_alt {X : Cx} {pins : List (Addr × Obj)} {σ : L2.St} {H H1 : Hp} {s : Shared} {a : Addr} (I : Inv X pins σ H s) (h : Alt H a H1) : Inv X pins σ H1 s := by
  rcases h with rfl | ⟨e, rfl⟩ | ⟨e, rfl⟩
  · exact I
  · exact inv_asT I e
  · exact inv_asK I e
def rSetDc : TSet := fun o i v H Q => ∃ a H1 H', o = .ref a ∧ Alt H a H1 ∧ DPut H1 a i v H' ∧ Q H'
theorem set_dc {X : Cx} (hu : X.A.units + 1 < cLine) : PSet X rSetDc := by
  intro pins s σ H o i v ov iv u Q I ro ri rv h
  obtain ⟨a, H1, H', eo, al, g, q⟩ := h
  subst eo
  cases (show ov = Value.ref a from ro)
  exact d_setItem hu (inv_alt I al) g ri rv fun s' I' => ⟨H', I', q⟩
def rSetM : TSet := fun o i v H Q => rSetL o i v H Q ∨ rSetDc o i v H Q
theorem set_m {X : Cx} (hu : X.A.units + 1 < cLine) : PSet X rSetM := by
  intro pins s σ H o i v ov iv u Q I ro ri rv h
  rcases h with h | h
  · exact set_list pins s σ H o i v ov iv u Q I ro ri rv h
  · exact set_dc hu pins s σ H o i v ov iv u Q I ro ri rv h
section
variable {K : PySem.W.Frag} {G : Str → Addr} {m : Mp} {H : Hp} {S : Sto}
theorem alt_sm {i : Nat} {a d : Addr} {y : AV} {kvs : List (AV × AV)} (s : SM K G m S H) (hi : m[i]? = some (a, d)) (hs : S[i]? = some (.dct false kvs)) (hk : okK kvs y = true) :
    d = a ∧ ∃ H1, Alt H a H1 ∧ SM K G m S H1 ∧ Ex m m H H1 ∧ ((∃ k us, kA y = some k ∧ H1 a = some (.dK us) ∧ PrA K G m H1 kvs us) ∨ ∃ k us, kT y = some k ∧ H1 a = some (.dT us) ∧ PrT K G m H1 kvs us) := by
  have hk2 : isK y = true := by
    unfold okK at hk
    rw [Bool.and_eq_true] at hk
    exact hk.1
  cases s.obj _ _ _ _ hi hs with
  | dk e g q =>
    refine ⟨e, ?_⟩
    rcases isK_cases hk2 with ⟨k, ek, _⟩ | ⟨k, ek, _⟩
    · exact ⟨H, .inl rfl, s, .refl, .inl ⟨k, _, ek, g, q⟩⟩
    · obtain ⟨e1, e2⟩ := okK_A hk ek q
      subst e1 e2
      obtain ⟨s2, x2⟩ := sm_asT s hi hs g
      exact ⟨_, .inr (.inl ⟨g, rfl⟩), s2, x2, .inr ⟨k, [], ek, upd_same, .nil⟩⟩
  | dt e g q =>
    refine ⟨e, ?_⟩
    rcases isK_cases hk2 with ⟨k, ek, _⟩ | ⟨k, ek, _⟩
    · obtain ⟨e1, e2⟩ := okK_T hk ek q
      subst e1 e2
      obtain ⟨s2, x2⟩ := sm_asK s hi hs g
      exact ⟨_, .inr (.inr ⟨g, rfl⟩), s2, x2, .inl ⟨k, [], ek, upd_same, .nil⟩⟩
    · exact ⟨H, .inl rfl, s, .refl, .inr ⟨k, _, ek, g, q⟩⟩
/-- d[y] = w -/
theorem dput_m {i : Nat} {a d : Addr} {y w : AV} {yv wv : V} {kvs : List (AV × AV)} (s : SM K G m S H) (hi : m[i]? = some (a, d)) (hs : S[i]? = some (.dct false kvs)) (hk : okK kvs y = true) (hl : kvs.length < sizeLine)
    (ry : RV K G m H y yv) (rw' : RV K G m H w wv) : ∃ H1 H', Alt H a H1 ∧ DPut H1 a yv wv H' ∧ SM K G m (S.set i (.dct false (putA kvs y w))) H' ∧ Ex m m H H' := by
  obtain ⟨e, H1, al, s1, x1, h⟩ := alt_sm s hi hs hk
  have ry := ry.mono s x1
  have rw' := rw'.mono s x1
  rcases h with ⟨k, us, ek, g, q⟩ | ⟨k, us, ek, g, q⟩
  · have q2 := put_gen kEq_ok ek rw' q
    obtain ⟨s2, x2⟩ := s1.write (o := .dct false (putA kvs y w)) (u := .dK (putK us k wv)) hi e (fun q w => by rw [g]; simp) fun H' eH ex => by
      subst eH
      exact .dk e upd_same (paired_mono (F := fun a b => kA a = some b) s1 ex q2)
    exact ⟨H1, _, al, .inl ⟨us, k, g, kA_rel ek ry, by rw [← paired_len q]; exact hl, rfl⟩, s2, x1.trans x2⟩
  · have q2 := put_gen kEqT_ok ek rw' q
    obtain ⟨b, eb, hb⟩ := kT_rel ek ry
    obtain ⟨s2, x2⟩ := s1.write (o := .dct false (putA kvs y w)) (u := .dT (putK us k wv)) hi e (fun q w => by rw [g]; simp) fun H' eH ex => by
      subst eH
      exact .dt e upd_same (paired_mono (F := fun a b => kT a = some b) s1 ex q2)
    exact ⟨H1, _, al, .inr ⟨us, k, b, g, eb, hb, by rw [← paired_len q]; exact hl, rfl⟩, s2, x1.trans x2⟩
end
section
variable {X : Cx} {G : Str → Addr} {W : WX} {pos : Pos} {k : Nat} {a b c d : Expr} {fa fb fc fd : DE}
theorem oSet_ok {m : Mp} {S : Sto} {H : Hp} {x i v : AV} {xv iv vv : V} {D : Ends} {r : Env} {σ : L2.St} {Q : Hp → Prop} (s : SM X.K G m S H) (re : RE X.K G m H r σ) (rx : RV X.K G m H x xv) (ri : RV X.K G m H i iv) (rv : RV X.K G m H v vv)
    (p : PostS X.K G W D m H ((oSet x i v S).thn r fun _ S3 => .nx r S3)) (hq : ∀ H', D.nx σ H' → Q H') : rSetM xv iv vv H Q := by
  unfold oSet at p
  split at p
  · cases rx with
    | @ref a ad dd hi =>
      split at p
      · next xs h1 =>
        split at p
        · cases ri
          split at p
          · next j hj =>
            cases s.obj _ _ _ _ hi h1 with
            | @lst xs vs e g q =>
              obtain ⟨s2, x2⟩ := s.write (o := .lst false (xs.set j v)) (u := .lst (vs.set j vv)) hi e (fun q w => by rw [g]; simp) fun H' eH ex => by
                subst eH
                exact .lst e upd_same (RVs.set (rv.mono s ex) j (q.mono s ex))
              exact .inl ⟨_, _, _, j, rfl, rfl, g, by rw [← q.length]; exact hj, hq _ (p m σ _ x2 s2 (re.mono s x2))⟩
          · exact p.elim
        · exact p.elim
      · next kvs h1 =>
        split at p
        · next hk =>
          simp only [Bool.and_eq_true, decide_eq_true_eq] at hk
          obtain ⟨H1, H', al, dp, s2, x2⟩ := dput_m s hi h1 hk.1 hk.2 ri rv
          exact .inr ⟨_, H1, H', rfl, al, dp, hq _ (p m σ _ x2 s2 (re.mono s x2))⟩
        · exact p.elim
      · exact p.elim
  · exact p.elim
theorem sg_sub (cc : Cy X W k) (ha : SE X G W a fa) (hb : SE X G W b fb) (hs : ∀ v, assign (.Subscript a b pos) X.env v = (do
      let ov ← holding [v] (eval a X.env)
      let iv ← holding [v, ov] (eval b X.env)
      standAt pos
      holding [v, ov, iv] (setItem ov iv v)
      release [v, ov, iv] []) := by intro _; rfl) : SG X G W (.Subscript a b pos) (Mc.gSub fa fb) :=
  pg_imp (pg_sub ha hb (set_m cc.hu) hs) fun x σ H Q ⟨m, r, S, v, s, re, rv, p⟩ => by
    unfold Mc.gSub at p
    refine ⟨m, r, S, s, re, PostS.thn s re p fun m1 H1 o S1 ov e1 s1 ro p1 => ?_⟩
    refine ⟨m1, r, S1, s1, re.mono s e1, PostS.thn s1 (re.mono s e1) p1 fun m2 H2 i S2 iv e2 s2 ri p2 => ?_⟩
    exact oSet_ok (D := { nx := Q, rt := fun _ _ => False }) s2 ((re.mono s e1).mono s1 e2) (ro.mono s1 e2) ri ((rv.mono s e1).mono s1 e2) p2 fun H' h => h
theorem thn_only {α : Type} {x : Res α} {r : Env} {g : α → Sto → SR} (h : ∀ v S, (∃ r1 S1, g v S = .nx r1 S1) ∨ (∃ c p r1 S1, g v S = .ex c p r1 S1) ∨ g v S = .bad) :
    (∃ r1 S1, x.thn r g = .nx r1 S1) ∨ (∃ c p r1 S1, x.thn r g = .ex c p r1 S1) ∨ x.thn r g = .bad := by
  cases x with
  | ok v S => exact h v S
  | ex c p S => exact .inr (.inl ⟨_, _, _, _, rfl⟩)
  | bad => exact .inr (.inr rfl)
theorem on_sub : OnlyNx (Mc.gSub fa fb) := fun v r S => thn_only fun x S1 => thn_only fun y S2 => thn_only fun _ S3 => .inl ⟨_, _, rfl⟩

/-! ### d.get(k, x) -/
theorem isD_m {m : Mp} {S : Sto} {H : Hp} {v : AV} {x : V} {lk : Bool} {kvs : List (AV × AV)} {K : PySem.W.Frag} (s : SM K G m S H) (r : RV K G m H v x) (h : dctAt S v = some (lk, kvs)) :
    ∃ i a d, v = .ref i ∧ x = .ref a ∧ m[i]? = some (a, d) ∧ S[i]? = some (.dct lk kvs) ∧ IsD H a := by
  unfold dctAt at h
  split at h
  · split at h
    · next h1 =>
      cases h
      cases r with
      | @ref i a d hi =>
        refine ⟨_, _, _, rfl, rfl, hi, h1, ?_⟩
        cases s.obj _ _ _ _ hi h1 with
        | dk _ g q => exact .inl ⟨_, .inl g⟩
        | dt _ g q => exact .inr ⟨_, .inl g⟩
        | dkR _ g q => exact .inl ⟨_, .inr ⟨_, g⟩⟩
        | dtR _ g q _ => exact .inr ⟨_, .inr ⟨_, g⟩⟩
    · cases h
  · cases h
/-- the reading of a key: the layer's, if need be behind an empty table's change of kind -/
theorem dget_m {m : Mp} {S : Sto} {H : Hp} {K : PySem.W.Frag} {i : Nat} {a d : Addr} {lk : Bool} {y : AV} {yv : V} {kvs : List (AV × AV)} (s : SM K G m S H) (hi : m[i]? = some (a, d)) (hs : S[i]? = some (.dct lk kvs)) (hk : okK kvs y = true) (hn : (!lk || !kvs.isEmpty) = true) (ry : RV K G m H y yv) :
    ∃ H1 o, Alt H a H1 ∧ SM K G m S H1 ∧ Ex m m H H1 ∧ DGet H1 a yv o ∧ (∀ v, valA kvs y = some v → ∃ x, o = some x ∧ RV K G m H1 v x) ∧ (valA kvs y = none → o = none) := by
  cases lk with
  | false =>
    obtain ⟨e, H1, al, s1, x1, h⟩ := alt_sm s hi hs hk
    have ry := ry.mono s x1
    rcases h with ⟨k, us, ek, g, q⟩ | ⟨k, us, ek, g, q⟩
    · obtain ⟨v1, v2⟩ := val_gen kEq_ok ek q
      exact ⟨H1, _, al, s1, x1, .inl ⟨us, k, .inl g, kA_rel ek ry, rfl⟩, v1, v2⟩
    · obtain ⟨v1, v2⟩ := val_gen kEqT_ok ek q
      obtain ⟨b, eb, hb⟩ := kT_rel ek ry
      exact ⟨H1, _, al, s1, x1, .inr ⟨us, k, b, .inl g, eb, hb, rfl⟩, v1, v2⟩
  | true =>
    have nn : kvs ≠ [] := fun z => by subst z; cases hn
    have hk2 : isK y = true := by
      unfold okK at hk
      rw [Bool.and_eq_true] at hk
      exact hk.1
    refine ⟨H, ?_⟩
    cases s.obj _ _ _ _ hi hs with
    | dkR _ g q =>
      rcases isK_cases hk2 with ⟨k, ek, _⟩ | ⟨k, ek, _⟩
      · obtain ⟨v1, v2⟩ := val_gen kEq_ok ek q
        exact ⟨_, .inl rfl, s, .refl, .inl ⟨_, k, .inr ⟨_, g⟩, kA_rel ek ry, rfl⟩, v1, v2⟩
      · exact absurd (okK_A hk ek q).1 nn
    | dtR _ g q _ =>
      rcases isK_cases hk2 with ⟨k, ek, _⟩ | ⟨k, ek, _⟩
      · exact absurd (okK_T hk ek q).1 nn
      · obtain ⟨v1, v2⟩ := val_gen kEqT_ok ek q
        obtain ⟨b, eb, hb⟩ := kT_rel ek ry
        exact ⟨_, .inl rfl, s, .refl, .inr ⟨_, k, b, .inr ⟨_, g⟩, eb, hb, rfl⟩, v1, v2⟩
def tDGet2A (td ty tx : TE) : TE := fun σ H Q => td σ H fun x H1 => ∃ a, x = .ref a ∧ IsD H1 a ∧ ty σ H1 fun y H2 => tx σ H2 fun z H3 => ∃ H4 o, Alt H3 a H4 ∧ DGet H4 a y o ∧ Q (o.getD z) H4
theorem pe_dget2A {o e f : Expr} {apos cpos : Pos} {td ty tx : TE} (hu : X.A.units + 1 < cLine) (ho : PE X o td) (he : PE X e ty) (hf : PE X f tx) (m : M2 X o "get" apos e f cpos) : PE X (.Call (.Attribute o "get" apos) [e, f] [] cpos) (tDGet2A td ty tx) := by
  refine ⟨fun pins s σ H Q I h => ?_⟩
  refine wpAny_Call_method m.base m.few m.line PySem.F.plainAttrs_dict PySem.F.slot_dict_get PySem.F.type_dict_get (thn (ho.run pins s σ H _ I h) fun u s1 ⟨x, H1, I1, rx, a, ex, d, q1⟩ => ?_)
  subst ex
  obtain rfl : u = Value.ref a := rx
  obtain ⟨t1, t2, _⟩ := isD_at I1 d
  refine ⟨t1, t2, ?_⟩
  rw [m.trees]
  exact Calls.callWith_builtin rfl (Calls.evalArgs_plain (Calls.spliced_cons (thn (he.run pins s1 σ H1 _ I1 q1) fun iv s2 ⟨y, H2, I2, ry, q2⟩ =>
    Calls.spliced_cons (thn (hf.run pins s2 σ H2 _ I2 q2) fun fv s3 ⟨z, H3, I3, rz, H4, ov, al, g, q3⟩ => Calls.spliced_nil (d_get2 hu (inv_alt I3 al) g ry rz fun w' s4 I4 rw' => ⟨_, H4, I4, rw', q3⟩)))))
theorem se_get2 {apos cpos : Pos} (cc : Cy X W k) (ha : SE X G W a fa) (hb : SE X G W b fb) (hc : SE X G W c fc) (hm : M2 X a "get" apos b c cpos := by exact ⟨rfl, rfl, rfl, rfl⟩) :
    SE X G W (.Call (.Attribute a "get" apos) [b, c] [] cpos) (eGet2 fa fb fc) :=
  pe_imp (pe_dget2A cc.hu ha hb hc hm) fun σ H Q ⟨m, r, S, s, re, p⟩ => by
    unfold eGet2 at p
    refine ⟨m, r, S, s, re, Post.bind p fun m1 H1 v S1 x e1 s1 rv p1 => ?_⟩
    split at p1
    · next h1 =>
      obtain ⟨⟨lk, kvs⟩, h1⟩ := Option.isSome_iff_exists.mp h1
      obtain ⟨i, a, d, rfl, rfl, hi, hs, isd⟩ := isD_m s1 rv h1
      refine ⟨a, rfl, isd, m1, r, S1, s1, re.mono s e1, Post.bind p1 fun m2 H2 y S2 yv e2 s2 ry p2 => ?_⟩
      refine ⟨m2, r, S2, s2, (re.mono s e1).mono s1 e2, Post.bind p2 fun m3 H3 z S3 zv e3 s3 rz p3 => ?_⟩
      cases h3 : dctAt S3 (.ref i) with
      | none => rw [h3] at p3; exact p3.elim
      | some q =>
        obtain ⟨lk3, kvs3⟩ := q
        rw [h3] at p3
        simp only at p3
        split at p3
        · next hk =>
          rw [Bool.and_eq_true] at hk
          have hi3 : m3[i]? = some (a, d) := pre_get (e2.trans e3).pre hi
          obtain ⟨i', a', d', ei, ea, hi', hs', _⟩ := isD_m s3 (.ref hi3) h3
          cases ei; cases ea
          obtain ⟨H4, o, al, s4, x4, dg, v1, v2⟩ := dget_m s3 hi3 hs' hk.1 hk.2 (ry.mono s2 e3)
          refine ⟨H4, o, al, dg, ?_⟩
          cases hv : valA kvs3 y with
          | none =>
            rw [v2 hv]
            rw [hv] at p3
            exact p3 m3 H4 _ x4 s4 (rz.mono s3 x4)
          | some v =>
            obtain ⟨x, e, rx⟩ := v1 v hv
            rw [e]
            rw [hv] at p3
            exact p3 m3 H4 _ x4 s4 rx
        · exact p3.elim
    · exact p1.elim

/-! ### slices -/
def mO (K : PySem.W.Frag) (G : Str → Addr) (W : WX) (f : DO) : TO := fun σ H Q => ∃ m r S, SM K G m S H ∧ RE K G m H r σ ∧ Post K G RQ W σ m H (f r S) Q
theorem po_imp {e : Option Expr} {t t' : TO} (h : PO X e t) (k : ∀ σ H Q, t' σ H Q → t σ H Q) : PO X e t' := ⟨fun pins s σ H Q I q => h.run pins s σ H Q I (k _ _ _ q)⟩
abbrev SO (X : Cx) (G : Str → Addr) (W : WX) (e : Option Expr) (f : DO) : Prop := PO X e (mO X.K G W f)
theorem so_no : SO X G W none oNo := po_imp po_none fun σ H Q ⟨m, r, S, s, re, p⟩ => Post.ok p s rfl
theorem so_yes (ha : SE X G W a fa) : SO X G W (some a) (oYes fa) := po_imp (po_some ha) fun σ H Q ⟨m, r, S, s, re, p⟩ => by
  unfold oYes at p
  refine ⟨m, r, S, s, re, Post.bind p fun m1 H1 v S1 x e1 s1 rv p1 => ?_⟩
  split at p1
  · cases rv
    exact ⟨_, rfl, Post.ok p1 s1 rfl⟩
  · exact p1.elim
theorem cut_rel {m : Mp} {H : Hp} {K : PySem.W.Frag} {xs : List AV} {vs : List V} (r : RVs K G m H xs vs) (lo hi : Option Int) : RVs K G m H (cutA xs lo hi) (cutV vs lo hi) := by
  unfold cutA cutV
  rw [r.length]
  exact (r.drop _).take _
theorem cutA_all {xs : List AV} {lo hi : Option Int} (h : HT.sIx xs.length 0 lo = 0 ∧ HT.sIx xs.length xs.length hi = xs.length) : cutA xs lo hi = xs := by
  unfold cutA
  rw [h.1, h.2, List.drop_zero, Nat.sub_zero, List.take_of_length_le (Nat.le_refl _)]
theorem se_sl {lo hi : Option Expr} {fl fh : DO} {p2 : Pos} (ha : SE X G W a fa) (hl : SO X G W lo fl) (hh : SO X G W hi fh) : SE X G W (.Subscript a (.Slice lo hi none p2) pos) (eSl fa fl fh) :=
  pe_imp (pe_slice (sl_tupA.or sl_list) ha hl hh) fun σ H Q ⟨m, r, S, s, re, p⟩ => by
    unfold eSl at p
    refine ⟨m, r, S, s, re, Post.bind p fun m1 H1 v S1 x e1 s1 rv p1 => ?_⟩
    refine ⟨m1, r, S1, s1, re.mono s e1, Post.bind p1 fun m2 H2 l S2 l' e2 s2 el p2 => ?_⟩
    cases el
    refine ⟨m2, r, S2, s2, (re.mono s e1).mono s1 e2, Post.bind p2 fun m3 H3 h S3 h' e3 s3 eh p3 => ?_⟩
    cases eh
    have rv := (rv.mono s1 e2).mono s2 e3
    unfold oSl at p3
    split at p3
    · cases rv with
      | tup ha ra =>
        refine .inl ⟨_, _, rfl, .of ha, fun w => ?_, fun w q hq => post_tup s3 (cut_rel ra _ _) hq p3⟩
        rw [← ra.length] at w
        rw [cutA_all w] at p3
        exact p3.ok s3 (.tup ha ra)
    · cases rv with
      | ref hi =>
        split at p3
        · next h1 =>
          cases s3.obj _ _ _ _ hi h1 with
          | lst _ g q => exact .inr ⟨_, _, rfl, .of g, fun z hz => post_lst s3 (cut_rel q _ _) hz p3⟩
          | lstR _ g q => exact .inr ⟨_, _, rfl, .inl g, fun z hz => post_lst s3 (cut_rel q _ _) hz p3⟩
        · exact p3.elim
    · exact p3.elim
/-- what stands as the end of a walk from behind: nothing, or 0 -/
inductive IsEnd : Option Expr → Nat → Prop where
  | no : IsEnd none 0
  | z (j : Nat) (p : Pos) : IsEnd (some (.Constant (.int 0) j p)) 1
theorem adj_rev (n k : Nat) (o : Option Int) (h : (o = none ∧ k = 0) ∨ (o = some 0 ∧ k = 1)) :
    (match Builtin.Slice.sliceAdjust none o (-1) (n : Int) with | (lo, hi) => (lo, (-1 : Int), Builtin.Slice.slicePlaces lo hi (-1))) = ((n : Int) - 1, -1, n - k) := by
  unfold Builtin.Slice.sliceAdjust Builtin.Slice.slicePlaces
  rcases h with ⟨rfl, rfl⟩ | ⟨rfl, rfl⟩
  · simp only [show ((-1 : Int) < 0) from by decide, show ¬ ((-1 : Int) > 0) from by decide, if_true, if_false, Int.neg_neg, Int.ediv_one]
    by_cases hn : (n : Int) - 1 > -1
    · rw [if_pos hn]; congr 2; omega
    · rw [if_neg hn]; congr 2; omega
  · simp only [show ((-1 : Int) < 0) from by decide, show ¬ ((-1 : Int) > 0) from by decide, show ¬ ((0 : Int) < 0) from by decide, if_true, if_false, Int.neg_neg, Int.ediv_one]
    have e : min (0 : Int) ((n : Int) - 1) = if n = 0 then -1 else 0 := by
      by_cases hn : n = 0
      · rw [if_pos hn]; omega
      · rw [if_neg hn]; omega
    rw [e]
    by_cases hn : n = 0
    · subst hn
      simp
    · rw [if_neg hn]
      by_cases h2 : (n : Int) - 1 > 0
      · rw [if_pos h2]; congr 2; omega
      · rw [if_neg h2]; congr 2; omega
theorem fm_congr {α β : Type} {f g : α → Option β} : ∀ {l : List α}, (∀ a, a ∈ l → f a = g a) → l.filterMap f = l.filterMap g
  | [], _ => rfl
  | a :: l, h => by
    have ih := fm_congr (l := l) fun b hb => h b (List.mem_cons_of_mem _ hb)
    rw [List.filterMap_cons, List.filterMap_cons, h a List.mem_cons_self, ih]
theorem picks_rev (xs : Array Value) (k : Nat) : ((List.range (xs.size - k)).filterMap fun (j : Nat) => xs[(((xs.size : Int) - 1) + (j : Int) * (-1)).toNat]?) = (xs.toList.drop k).reverse := by
  obtain ⟨l⟩ := xs
  simp only [List.size_toArray, List.getElem?_toArray]
  have e1 : (List.range (l.length - k)).filterMap (fun (j : Nat) => l[(((l.length : Int) - 1) + (j : Int) * (-1)).toNat]?) = (List.range (l.length - k)).filterMap fun (j : Nat) => ((l.drop k).reverse)[j]? := by
    refine fm_congr fun j hj => ?_
    have hj := List.mem_range.mp hj
    rw [List.getElem?_reverse (by rw [List.length_drop]; exact hj), List.getElem?_drop, List.length_drop]
    congr 1
    omega
  rw [e1]
  have e2 : l.length - k = ((l.drop k).reverse).length := by rw [List.length_reverse, List.length_drop]
  rw [e2]
  have := PySem.W.krv_all ((l.drop k).reverse).toArray
  simp only [List.size_toArray, List.getElem?_toArray] at this
  rw [this]
end
section
variable {prog : Program} {w : World} {A : Around} {E : Value → Shared → Prop} {s : Shared}
theorem sliceApplied_rev {sl : Addr} {vl vu vs : Value} {o : Option Int} {n k : Nat} {Q : Int × Int × Nat → Shared → Prop} (hs : s.heap.IsSliceOf sl vl vu vs) (pl : IsPart vl none) (pu : IsPart vu o) (ps : IsPart vs (some (-1))) (ho : (o = none ∧ k = 0) ∨ (o = some 0 ∧ k = 1))
    (h : Q ((n : Int) - 1, -1, n - k) s) : wpAny (model prog w) A (Builtin.Slice.sliceApplied (.ref sl) (pure (n : Int))) Q E s := by
  obtain ⟨os, hos, hcs, hds⟩ := id hs
  unfold Builtin.Slice.sliceApplied Builtin.Slice.sliceFields
  refine wpAny_bind (wpAny_bind (wpAny_field hos hds (x := vl) rfl (wpAny_bind (wpAny_field hos hds (x := vu) rfl (wpAny_bind (wpAny_field hos hds (x := vs) rfl (wpAny_pure ?_)))))))
  refine wpAny_bind (HT.slicePart_ ps ?_)
  show wpAny _ _ (if ((-1 : Int) == 0) = true then _ else _) _ _ s
  rw [if_neg (by decide)]
  refine wpAny_bind (HT.slicePart_ pl (wpAny_bind (HT.slicePart_ pu (wpAny_bind (wpAny_pure ?_)))))
  show wpAny _ _ (pure (match Builtin.Slice.sliceAdjust none o (-1) (n : Int) with | (lo, hi) => (lo, (-1 : Int), Builtin.Slice.slicePlaces lo hi (-1)))) _ _ s
  rw [adj_rev n k o ho]
  exact wpAny_pure h
theorem getItem_tuple_rev {t sl : Addr} {items : Array Value} {vl vu vs : Value} {o : Option Int} {k : Nat} {Q : Value → Shared → Prop} (ht : IsTup s.heap t items) (hs : s.heap.IsSliceOf sl vl vu vs) (pl : IsPart vl none) (pu : IsPart vu o) (ps : IsPart vs (some (-1))) (ho : (o = none ∧ k = 0) ∨ (o = some 0 ∧ k = 1))
    (h : Q (.ref s.heap.objs.size) { s with heap := s.heap.push { cls := .type "tuple", data := .seq ((items.toList.drop k).reverse).toArray } })
    (hsz : items.size ≤ sizeLine) : wpAny (model prog w) A (getItem (.ref t) (.ref sl)) Q E s := by
  have htake : sizeOk (.seq ((items.toList.drop k).reverse).toArray) := by
    show ((items.toList.drop k).reverse).toArray.size ≤ sizeLine
    rw [List.size_toArray, List.length_reverse, List.length_drop, Array.length_toList]
    omega
  obtain ⟨os, hos, hcs, hds⟩ := id hs
  have hTs : s.TypeIs (.ref sl) "slice" := ⟨os, hos, hcs⟩
  unfold getItem
  try with_reducible refine wpAny_holding ?_
  first | refine wpAny_bind (wpAny_pure ?_) | skip
  refine wpAny_bind (wpAny_sequenceKey ht.typeIs (by decide) ?_)
  refine wpAny_bind (wpAny_callSpecial?_slot (name := Str.ofString "__getitem__") ht.typeIs PyProof.Rows.slot_tuple_getitem
    (wpAny_call_entry PyProof.Rows.slot_tuple_getitem ht.typeIs entry_tuple_getitem ?_ (args_tuple_getitem _ _)))
  show wpAny _ _ (Builtin.Tuple.tupleItemsOf (.ref t) >>= _) _ _ s
  refine wpAny_bind (tupleItemsOf_ ht ?_)
  refine wpAny_bind (wpAny_typeOf hTs ?_)
  rw [if_pos (by decide)]
  refine wpAny_bind (sliceApplied_rev hs pl pu ps ho ?_)
  have hno : ¬ ((((items.size : Int) - 1) == 0 && (-1 : Int) == 1 && (items.size - k) == items.size) = true) := by
    rw [show ((-1 : Int) == 1) = false from rfl, Bool.and_false, Bool.false_and]
    exact Bool.false_ne_true
  show wpAny _ _ (if ((((items.size : Int) - 1) == 0 && (-1 : Int) == 1 && (items.size - k) == items.size) = true) then _ else _) _ _ s
  rw [if_neg hno, picks_rev]
  first
    | exact wpAny_bind (m := Builtin.Tuple.tupleExact _) (wpAny_newObj_type (wpAny_pure ⟨_, rfl, wpAny_pure h⟩) htake)
    | exact wpAny_bind (m := Builtin.Tuple.tupleExact _) (wpAny_newObj_type (wpAny_bind (wpAny_pure (wpAny_pure ⟨_, rfl, wpAny_pure h⟩))) htake)
    | exact wpAny_bind (wpAny_bind (m := Builtin.Tuple.tupleExact _) (wpAny_newObj_type (wpAny_pure (wpAny_pure ⟨_, rfl, wpAny_pure h⟩)) htake))
    | exact wpAny_bind (wpAny_bind (m := Builtin.Tuple.tupleExact _) (wpAny_newObj_type (wpAny_pure ⟨_, rfl, wpAny_pure h⟩) htake))
end
section
variable {X : Cx} {G : Str → Addr} {W : WX} {pos : Pos} {a : Expr} {fa : DE}
def tRevM (K : PySem.W.Frag) (k : Nat) (te : TE) : TE := fun σ H Q => te σ H fun x H1 => ∃ a xs, x = .ref a ∧
  ((SqT K H1 a xs ∧ ∀ p, H1 p = none → Q (.ref p) (upd H1 p (.tup (xs.drop k).reverse))) ∨ (k = 0 ∧ SqL K H1 a xs ∧ ∀ p, H1 p = none → Q (.ref p) (upd H1 p (.lst xs.reverse))))
theorem pe_revM {hi : Option Expr} {te : TE} {k j : Nat} {p1 p2 p3 : Pos} (he : PE X a te) (ie : IsEnd hi k) : PE X (.Subscript a (.Slice none hi (some (.UnaryOp .USub (.Constant (.int 1) j p1) p2)) p3) pos) (tRevM X.K k te) := by
  refine ⟨fun pins s σ H Q I h => ?_⟩
  refine Subscript_ (thn (he.run pins s σ H _ I h) fun v s1 ⟨x, H1, I1, r1, q1⟩ => ?_)
  obtain ⟨a0, xs, ex, q⟩ := q1
  subst ex
  cases r1
  have hst : PO X (some (.UnaryOp .USub (.Constant (.int 1) j p1) p2)) (tPart (tUn (rU fun i => .int (-i)) (L2.tC (.int 1)))) := po_some (pe_un un_neg pe_int)
  refine wpAny_Slice (thn (po_none.run pins s1 σ H1 (fun o H2 => o = none ∧ H2 = H1) I1 ⟨rfl, rfl⟩) fun vl s2 ⟨l, H2, I2, pl, el, e2⟩ => ?_)
  subst el e2
  have hup : ∃ o, ((o = none ∧ k = 0) ∨ (o = some 0 ∧ k = 1)) ∧ wpAny (model X.prog X.w) X.A (evalPart hi X.env) (fun u s' => ∃ o' H', Inv X pins σ H' s' ∧ IsPart u o' ∧ (o' = o ∧ H' = H2)) X.xe s2 := by
    cases ie with
    | no => exact ⟨none, .inl ⟨rfl, rfl⟩, po_none.run pins s2 σ H2 _ I2 ⟨rfl, rfl⟩⟩
    | z j p => exact ⟨some 0, .inr ⟨rfl, rfl⟩, (po_some pe_int).run pins s2 σ H2 _ I2 ⟨0, rfl, rfl, rfl⟩⟩
  obtain ⟨o, ho, hup⟩ := hup
  refine thn hup fun vu s3 ⟨u, H3, I3, pu, eu, e3⟩ => ?_
  subst eu e3
  refine thn (hst.run pins s3 σ H3 (fun o H4 => o = some (-1) ∧ H4 = H3) I3 ⟨1, rfl, -1, rfl, rfl, rfl⟩) fun vs s4 ⟨o, H4, I4, ps, eo, e4⟩ => ?_
  subst eo e4
  have I5 : Inv X pins σ H4 { s4 with heap := s4.heap.push { cls := .type "slice", data := .fields #[vl, vu, vs] } } := I4.kept (t' := s4.toks) fun b ob q => Heap.get?_push_of_some _ q
  show wpAny (model X.prog X.w) X.A (subscriptTail a (.Slice none hi (some (.UnaryOp .USub (.Constant (.int 1) j p1) p2)) p3) (.ref a0) (.ref s4.heap.objs.size)) (EP X pins σ Q) X.xe { s4 with heap := s4.heap.push { cls := .type "slice", data := .fields #[vl, vu, vs] } }
  rcases q with ⟨hx, q⟩ | ⟨hk, hx, q⟩
  · obtain ⟨its, r, ht, hz⟩ := I5.tuple hx
    have hlen := r.length
    refine tail_any (ops := [.ref a0, .ref s4.heap.objs.size]) ht.typeIs (PyProof.Rows.slot_tuple_getitem.lookup) ?_ (by with_unfolding_all rfl)
    refine getItem_tuple_rev ht (Heap.IsSliceOf.new _ vl vu vs) pl pu ps ho ?_ (by rw [List.size_toArray]; omega)
    refine ⟨.ref _, _, I5.laid (t' := s4.toks) (o := .tup (xs.drop k).reverse) (fun b ob q => Heap.get?_push_of_some _ q) (Nat.le_refl _) ?_, rfl, q _ (I5.hok.fresh (Nat.le_refl _))⟩
    exact ⟨by rw [List.length_reverse, List.length_drop]; omega, _, (r.drop k).reverse, IsTup.new _ _⟩
  · subst hk
    obtain ⟨its, r, ht, hz⟩ := I5.list hx
    have hlen := r.length
    have en : u = none := by
      rcases ho with ⟨e, _⟩ | ⟨_, e⟩
      · exact e
      · cases e
    subst en
    refine tail_any (ops := [.ref a0, .ref s4.heap.objs.size]) ht.isList.typeIs (PySem.slot_list_getitem.lookup) ?_ (by with_unfolding_all rfl)
    refine wpAny_getItem_list_slice ht.isList (Heap.IsSliceOf.new _ vl vu vs) pl pu ps (by decide) ?_ (by rw [List.size_toArray]; omega)
    rw [PySem.W.krv_pick]
    refine ⟨.ref _, _, I5.laid (t' := s4.toks) (o := .lst xs.reverse) (fun b ob q => Heap.get?_push_of_some _ q) (Nat.le_refl _) ?_, rfl, q _ (I5.hok.fresh (Nat.le_refl _))⟩
    exact ⟨by rw [List.length_reverse]; exact hz, _, 0, r.reverse, Heap.get?_push_size _ rfl⟩
theorem se_rev {hi : Option Expr} {k j : Nat} {p1 p2 p3 : Pos} (ha : SE X G W a fa) (ie : IsEnd hi k := by constructor) : SE X G W (.Subscript a (.Slice none hi (some (.UnaryOp .USub (.Constant (.int 1) j p1) p2)) p3) pos) (e1 (oRev k) fa) :=
  pe_imp (pe_revM ha ie) fun σ H Q ⟨m, r, S, s, re, p⟩ => by
    refine ⟨m, r, S, s, re, Post.bind p fun m1 H1 v S1 x e1 s1 rv p1 => ?_⟩
    unfold oRev at p1
    split at p1
    · cases rv with
      | tup ha ra => exact ⟨_, _, rfl, .inl ⟨.of ha, fun q hq => post_tup s1 (ra.drop k).reverse hq p1⟩⟩
    · cases rv with
      | ref hi =>
        split at p1
        · next h1 =>
          split at p1
          · next hk =>
            cases s1.obj _ _ _ _ hi h1 with
            | lst _ g q => exact ⟨_, _, rfl, .inr ⟨hk, .of g, fun z hz => post_lst s1 q.reverse hz p1⟩⟩
            | lstR _ g q => exact ⟨_, _, rfl, .inr ⟨hk, .inl g, fun z hz => post_lst s1 q.reverse hz p1⟩⟩
          · exact p1.elim
        · exact p1.elim
    · exact p1.elim
end
end Mc
end
section
set_option Elab.async false
set_option linter.all false
set_option maxRecDepth 100000
set_option maxHeartbeats 1000000
/-! M11: built-in functions, methods. -/
namespace Mc
open PySem PySem.Spec PyProof.Rows L2
section
variable {X : Cx} {G : Str → Addr} {W : WX} {pos : Pos} {k : Nat} {a b c d e : Expr} {fa fb fc fd : DE} {es : List Expr} {t : DA} {x : Str} {p : Pos}
theorem rvs1 {K : PySem.W.Frag} {m : Mp} {H : Hp} {v : AV} {xs : List V} (h : RVs K G m H [v] xs) : ∃ x, xs = [x] ∧ RV K G m H v x := by
  cases h with
  | cons r t => cases t; exact ⟨_, rfl, r⟩
theorem rvs2 {K : PySem.W.Frag} {m : Mp} {H : Hp} {v w : AV} {xs : List V} (h : RVs K G m H [v, w] xs) : ∃ x y, xs = [x, y] ∧ RV K G m H v x ∧ RV K G m H w y := by
  cases h with
  | cons r t => cases t with
    | cons r2 t => cases t; exact ⟨_, _, rfl, r, r2⟩
/-- a list of the store, read -/
theorem lst_at {K : PySem.W.Frag} {m : Mp} {S : Sto} {H : Hp} {i : Nat} {a d : Addr} {lk : Bool} {xs : List AV} (s : SM K G m S H) (hi : m[i]? = some (a, d)) (h : S[i]? = some (.lst lk xs)) : ∃ vs, SqL K H a vs ∧ RVs K G m H xs vs := by
  cases s.obj _ _ _ _ hi h with
  | lst _ g q => exact ⟨_, .of g, q⟩
  | lstR _ g q => exact ⟨_, .inl g, q⟩
theorem lstOf_at {K : PySem.W.Frag} {m : Mp} {S : Sto} {H : Hp} {v : AV} {x : V} {xs : List AV} (s : SM K G m S H) (r : RV K G m H v x) (h : lstOf S v = some xs) : ∃ a vs, x = .ref a ∧ SqL K H a vs ∧ RVs K G m H xs vs := by
  unfold lstOf at h
  split at h
  · split at h
    · next h1 =>
      cases h
      cases r with
      | ref hi =>
        obtain ⟨vs, q, rv⟩ := lst_at s hi h1
        exact ⟨_, vs, rfl, q, rv⟩
    · cases h
  · cases h
theorem ints_rel {K : PySem.W.Frag} {m : Mp} {H : Hp} : ∀ {xs : List AV} {vs : List V} {ns : List Int}, intsOf xs = some ns → RVs K G m H xs vs → vs = ns.map V.int
  | [], _, _, h, r => by cases h; cases r; rfl
  | .int i :: xs, _, _, h, r => by
    cases r with
    | cons r t =>
      cases r
      unfold intsOf at h
      cases e : intsOf xs with
      | none => rw [e] at h; cases h
      | some ms => rw [e] at h; cases h; rw [ints_rel e t]; rfl
  | .non :: _, _, _, h, _ => by cases h
  | .bl _ :: _, _, _, h, _ => by cases h
  | .str _ :: _, _, _, h, _ => by cases h
  | .tup _ :: _, _, _, h, _ => by cases h
  | .ref _ :: _, _, _, h, _ => by cases h
  | .glo _ :: _, _, _, h, _ => by cases h
  | .ty _ :: _, _, _, h, _ => by cases h
theorem bls_rel {K : PySem.W.Frag} {m : Mp} {H : Hp} : ∀ {xs : List AV} {vs : List V} {ns : List Bool}, blsOf xs = some ns → RVs K G m H xs vs → vs = ns.map V.bl
  | [], _, _, h, r => by cases h; cases r; rfl
  | .bl i :: xs, _, _, h, r => by
    cases r with
    | cons r t =>
      cases r
      unfold blsOf at h
      cases e : blsOf xs with
      | none => rw [e] at h; cases h
      | some ms => rw [e] at h; cases h; rw [bls_rel e t]; rfl
  | .non :: _, _, _, h, _ => by cases h
  | .int _ :: _, _, _, h, _ => by cases h
  | .str _ :: _, _, _, h, _ => by cases h
  | .tup _ :: _, _, _, h, _ => by cases h
  | .ref _ :: _, _, _, h, _ => by cases h
  | .glo _ :: _, _, _, h, _ => by cases h
  | .ty _ :: _, _, _, h, _ => by cases h

/-! ### len -/
def rLenM (K : PySem.W.Frag) : List V → Hp → VK → Prop := fun xs H Q => (∃ x n, xs = [x] ∧ LenV K x H n ∧ Q (.int n) H) ∨ ((∃ a kvs, xs = [V.ref a] ∧ H a = some (.dK kvs) ∧ Q (.int kvs.length) H) ∨ rLenT xs H Q)
theorem call_lenM : CallR X (.builtin "len") (rLenM X.K) := call_len.or (call_lenD.or call_len_dT)
theorem len_ok {K : PySem.W.Frag} : OA K G pLen (rLenM K) := by
  intro m S H v xs W σ Q s rv p
  unfold pLen at p
  split at p
  · obtain ⟨x, rfl, r⟩ := rvs1 rv
    cases r
    split at p
    · next hz => exact .inl ⟨_, _, rfl, ⟨hz, rfl⟩, p.ok s (.int _)⟩
    · exact p.elim
  · obtain ⟨x, rfl, r⟩ := rvs1 rv
    cases r with
    | tup ha ra => exact .inl ⟨_, _, rfl, .inr ⟨_, .of ha, rfl⟩, by rw [← ra.length]; exact p.ok s (.int _)⟩
  · obtain ⟨x, rfl, r⟩ := rvs1 rv
    cases r with
    | ref hi =>
      split at p
      · next h1 =>
        obtain ⟨vs, q, rv⟩ := lst_at s hi h1
        exact .inl ⟨_, _, rfl, .inl ⟨_, q, rfl⟩, by rw [← rv.length]; exact p.ok s (.int _)⟩
      · next h1 =>
        cases s.obj _ _ _ _ hi h1 with
        | dk _ g q => exact .inr (.inl ⟨_, _, rfl, g, by rw [← paired_len q]; exact p.ok s (.int _)⟩)
        | dt _ g q => exact .inr (.inr ⟨_, _, rfl, g, by rw [← paired_len q]; exact p.ok s (.int _)⟩)
      · exact p.elim
  · exact p.elim
/-! ### numbers -/
theorem abs_ok {K : PySem.W.Frag} : OA K G pAbs (fun xs H Q => ∃ i, xs = [.int i] ∧ Q (.int (if i < 0 then -i else i)) H) := by
  intro m S H v xs W σ Q s rv p
  unfold pAbs at p
  split at p
  · obtain ⟨x, rfl, r⟩ := rvs1 rv
    cases r
    exact ⟨_, rfl, p.ok s (.int _)⟩
  · exact p.elim
theorem int_ok {K : PySem.W.Frag} : OA K G pInt (fun xs H Q => (∃ i, xs = [.int i] ∧ Q (.int i) H) ∨ ∃ k, xs = [.bl k] ∧ Q (.int (if k then 1 else 0)) H) := by
  intro m S H v xs W σ Q s rv p
  unfold pInt at p
  split at p
  · obtain ⟨x, rfl, r⟩ := rvs1 rv
    cases r
    exact .inl ⟨_, rfl, p.ok s (.int _)⟩
  · obtain ⟨x, rfl, r⟩ := rvs1 rv
    cases r
    exact .inr ⟨_, rfl, p.ok s (.int _)⟩
  · exact p.elim
theorem str_ok {K : PySem.W.Frag} : OA K G pStr (fun xs H Q => ∃ i, xs = [.int i] ∧ i.natAbs.log2 < 1920 ∧ Q (.str (toString i)) H) := by
  intro m S H v xs W σ Q s rv p
  unfold pStr at p
  split at p
  · obtain ⟨x, rfl, r⟩ := rvs1 rv
    cases r
    split at p
    · next h => exact ⟨_, rfl, h, p.ok s (.str _)⟩
    · exact p.elim
  · exact p.elim
/-! ### sums -/
theorem call_sumT (hc : X.calm = true) : CallR X (.builtin "sum") (fun vs H Q => ∃ (a : Addr) (ns : List Int), vs = [V.ref a] ∧ SqT X.K H a (ns.map V.int) ∧ Q (.int ns.sum) H) := by
  intro pins s σ H vs us Q I r h
  obtain ⟨a, ns, rfl, hs, q⟩ := h
  obtain ⟨its, rv, ht, _⟩ := I.tuple hs
  rw [Vals.ref1 r]
  have hi : IntsAre its ns := intsAre_of rv
  obtain ⟨xs, hx⟩ := hi.allInts.items
  have hn : numsOf its.toArray.toList = ns := hi.numsOf
  rw [hx] at ht hn
  rw [nums_intItems] at hn
  refine PySem.W.ktm_sumG (I.ok.hd hc) ht fun h' tk t' hk => ?_
  rw [preSum_eq, List.take_of_length_le (by simp), hn]
  exact ⟨.int _, H, I.kept hk, ⟨_, rfl⟩, q⟩
def rSumM (K : PySem.W.Frag) : List V → Hp → VK → Prop := fun vs H Q => rSum K vs H Q ∨ ∃ (a : Addr) (ns : List Int), vs = [V.ref a] ∧ SqT K H a (ns.map V.int) ∧ Q (.int ns.sum) H
theorem sum_ok {K : PySem.W.Frag} : OA K G pSum (rSumM K) := by
  intro m S H v xs W σ Q s rv p
  unfold pSum at p
  split at p
  · obtain ⟨x, rfl, r⟩ := rvs1 rv
    cases r with
    | tup ha ra =>
      split at p
      · next ns h =>
        have e := ints_rel h ra
        subst e
        exact .inr ⟨_, _, rfl, .of ha, p.ok s (.int _)⟩
      · exact p.elim
  · obtain ⟨x, rfl, r⟩ := rvs1 rv
    split at p
    · next ns h =>
      obtain ⟨ys, h1, h2⟩ := Option.bind_eq_some_iff.mp h
      obtain ⟨a, vs, rfl, q, ra⟩ := lstOf_at s r h1
      have e := ints_rel h2 ra
      subst e
      exact .inl ⟨_, _, rfl, q, p.ok s (.int _)⟩
    · exact p.elim
  · exact p.elim
/-! ### max, min -/
theorem mxI_spec : ∀ (a : Int) (r : List Int), mxI a r ∈ a :: r ∧ ∀ y, y ∈ a :: r → y ≤ mxI a r
  | a, [] => ⟨List.mem_cons_self, fun y h => by rw [List.mem_singleton] at h; subst h; exact Int.le_refl _⟩
  | a, b :: r => by
    obtain ⟨h1, h2⟩ := mxI_spec (if b > a then b else a) r
    unfold mxI
    refine ⟨?_, fun y hy => ?_⟩
    · rcases List.mem_cons.mp h1 with h | h
      · rw [h]
        split
        · exact List.mem_cons_of_mem _ List.mem_cons_self
        · exact List.mem_cons_self
      · exact List.mem_cons_of_mem _ (List.mem_cons_of_mem _ h)
    · have h0 := h2 _ List.mem_cons_self
      rcases List.mem_cons.mp hy with rfl | hy
      · refine Int.le_trans ?_ h0
        split <;> omega
      · rcases List.mem_cons.mp hy with rfl | hy
        · refine Int.le_trans ?_ h0
          split <;> omega
        · exact h2 y (List.mem_cons_of_mem _ hy)
theorem mnI_spec : ∀ (a : Int) (r : List Int), mnI a r ∈ a :: r ∧ ∀ y, y ∈ a :: r → mnI a r ≤ y
  | a, [] => ⟨List.mem_cons_self, fun y h => by rw [List.mem_singleton] at h; subst h; exact Int.le_refl _⟩
  | a, b :: r => by
    obtain ⟨h1, h2⟩ := mnI_spec (if b < a then b else a) r
    unfold mnI
    refine ⟨?_, fun y hy => ?_⟩
    · rcases List.mem_cons.mp h1 with h | h
      · rw [h]
        split
        · exact List.mem_cons_of_mem _ List.mem_cons_self
        · exact List.mem_cons_self
      · exact List.mem_cons_of_mem _ (List.mem_cons_of_mem _ h)
    · have h0 := h2 _ List.mem_cons_self
      rcases List.mem_cons.mp hy with rfl | hy
      · refine Int.le_trans h0 ?_
        split <;> omega
      · rcases List.mem_cons.mp hy with rfl | hy
        · refine Int.le_trans h0 ?_
          split <;> omega
        · exact h2 y (List.mem_cons_of_mem _ hy)
def rMaxM (K : PySem.W.Frag) : List V → Hp → VK → Prop := fun xs H Q => (∃ i j, xs = [.int i, .int j] ∧ Q (.int (if j > i then j else i)) H) ∨ rMax K xs H Q
def rMinM (K : PySem.W.Frag) : List V → Hp → VK → Prop := fun xs H Q => (∃ i j, xs = [.int i, .int j] ∧ Q (.int (if j < i then j else i)) H) ∨ rMin K xs H Q
theorem mx_le {m n : Int} {ns : List Int} (h1 : m ∈ ns) (h2 : ∀ y, y ∈ ns → y ≤ m) (k1 : n ∈ ns) (k2 : ∀ y, y ∈ ns → y ≤ n) : m = n := Int.le_antisymm (k2 _ h1) (h2 _ k1)
theorem mn_le {m n : Int} {ns : List Int} (h1 : m ∈ ns) (h2 : ∀ y, y ∈ ns → m ≤ y) (k1 : n ∈ ns) (k2 : ∀ y, y ∈ ns → n ≤ y) : m = n := Int.le_antisymm (h2 _ k1) (k2 _ h1)
theorem max_ok {K : PySem.W.Frag} : OA K G pMax (rMaxM K) := by
  intro m S H v xs W σ Q s rv p
  unfold pMax at p
  split at p
  · obtain ⟨x, y, rfl, r1, r2⟩ := rvs2 rv
    cases r1; cases r2
    exact .inl ⟨_, _, rfl, p.ok s (.int _)⟩
  · obtain ⟨x, rfl, r⟩ := rvs1 rv
    split at p
    · next a0 ns h =>
      obtain ⟨ys, h1, h2⟩ := Option.bind_eq_some_iff.mp h
      obtain ⟨a, vs, rfl, q, ra⟩ := lstOf_at s r h1
      have e := ints_rel h2 ra
      subst e
      refine .inr ⟨_, _, rfl, q, by simp, fun m h1 h2 => ?_⟩
      obtain ⟨k1, k2⟩ := mxI_spec a0 ns
      rw [mx_le h1 h2 k1 k2]
      exact p.ok s (.int _)
    · exact p.elim
  · exact p.elim
theorem min_ok {K : PySem.W.Frag} : OA K G pMin (rMinM K) := by
  intro m S H v xs W σ Q s rv p
  unfold pMin at p
  split at p
  · obtain ⟨x, y, rfl, r1, r2⟩ := rvs2 rv
    cases r1; cases r2
    exact .inl ⟨_, _, rfl, p.ok s (.int _)⟩
  · obtain ⟨x, rfl, r⟩ := rvs1 rv
    split at p
    · next a0 ns h =>
      obtain ⟨ys, h1, h2⟩ := Option.bind_eq_some_iff.mp h
      obtain ⟨a, vs, rfl, q, ra⟩ := lstOf_at s r h1
      have e := ints_rel h2 ra
      subst e
      refine .inr ⟨_, _, rfl, q, by simp, fun m h1 h2 => ?_⟩
      obtain ⟨k1, k2⟩ := mnI_spec a0 ns
      rw [mn_le h1 h2 k1 k2]
      exact p.ok s (.int _)
    · exact p.elim
  · exact p.elim
/-! ### all, any -/
theorem all_ok {K : PySem.W.Frag} : OA K G pAll (rAll K) := by
  intro m S H v xs W σ Q s rv p
  unfold pAll at p
  split at p
  · obtain ⟨x, rfl, r⟩ := rvs1 rv
    split at p
    · next ns h =>
      obtain ⟨ys, h1, h2⟩ := Option.bind_eq_some_iff.mp h
      obtain ⟨a, vs, rfl, q, ra⟩ := lstOf_at s r h1
      have e := bls_rel h2 ra
      subst e
      exact ⟨_, _, rfl, q, p.ok s (.bl _)⟩
    · exact p.elim
  · exact p.elim
theorem any_ok {K : PySem.W.Frag} : OA K G pAny (rAny K) := by
  intro m S H v xs W σ Q s rv p
  unfold pAny at p
  split at p
  · obtain ⟨x, rfl, r⟩ := rvs1 rv
    split at p
    · next ns h =>
      obtain ⟨ys, h1, h2⟩ := Option.bind_eq_some_iff.mp h
      obtain ⟨a, vs, rfl, q, ra⟩ := lstOf_at s r h1
      have e := bls_rel h2 ra
      subst e
      exact ⟨_, _, rfl, q, p.ok s (.bl _)⟩
    · exact p.elim
  · exact p.elim
/-! ### list, tuple, dict -/
abbrev rListS (K : PySem.W.Frag) : List V → Hp → VK → Prop := fun xs H Q => ∃ p ys, xs = [.ref p] ∧ (SqL K H p ys ∨ SqT K H p ys) ∧ ∀ l, H l = none → Q (.ref l) (upd H l (.lst ys))
theorem list_ok0 {m : Mp} {S : Sto} {H : Hp} {v : List AV} {xs : List V} {W : WX} {σ : L2.St} {Q : VK} (s : SM X.K G m S H) (rv : RVs X.K G m H v xs) (p : Post X.K G (RV X.K G) W σ m H (pList v S) Q) : rListS X.K xs H Q := by
  unfold pList at p
  split at p
  · obtain ⟨x, rfl, r⟩ := rvs1 rv
    cases r with
    | tup ha ra => exact ⟨_, _, rfl, .inr (.of ha), fun l hl => post_lst s ra hl p⟩
  · obtain ⟨x, rfl, r⟩ := rvs1 rv
    cases r with
    | ref hi =>
      split at p
      · next h1 =>
        obtain ⟨vs, q, ra⟩ := lst_at s hi h1
        exact ⟨_, _, rfl, .inl q, fun l hl => post_lst s ra hl p⟩
      · exact p.elim
  · exact p.elim
theorem keys_rel {K : PySem.W.Frag} {m : Mp} {H : Hp} {kvs : List (AV × AV)} {us : List (Key × V)} (q : PrA K G m H kvs us) : RVs K G m H (kvs.map (·.1)) (us.map fun kv => kV kv.1) := by
  induction q with
  | nil => exact .nil
  | cons h t ih => exact .cons (kA_relR h.1) ih
theorem kAs_relR {K : PySem.W.Frag} {m : Mp} {H : Hp} : ∀ {vs : List AV} {k : List Key}, optAll (vs.map kA) = some k → RVs K G m H vs (k.map kV)
  | [], _, h => by cases h; exact .nil
  | v :: vs, k, h => by
    rw [List.map_cons] at h
    cases e : kA v with
    | none => rw [e] at h; cases h
    | some k0 =>
      rw [e] at h
      cases z : optAll (vs.map kA) with
      | none => simp only [optAll, z] at h; cases h
      | some ks =>
        simp only [optAll, z] at h
        cases h
        exact .cons (kA_relR e) (kAs_relR z)
theorem kT_relR {K : PySem.W.Frag} {m : Mp} {H : Hp} {v : AV} {k : List Key} {b : Addr} (h : kT v = some k) (hb : H b = some (.tup (k.map kV))) : RV K G m H v (.ref b) := by
  unfold kT at h
  split at h
  · exact .tup hb (kAs_relR h)
  · cases h
theorem keysT_rel {K : PySem.W.Frag} {m : Mp} {H : Hp} {kvs : List (AV × AV)} {us : List (List Key × V)} (q : PrT K G m H kvs us) : ∀ {bs : List Addr}, IsKeys H us bs → RVs K G m H (kvs.map (·.1)) (bs.map V.ref) := by
  induction q with
  | nil => intro bs h; cases h; exact .nil
  | cons h t ih =>
    intro bs hb
    cases hb with
    | cons h1 t1 => exact .cons (kT_relR h.1 h1) (ih t1)
abbrev rListDK : List V → Hp → VK → Prop := fun xs H Q => ∃ (a : Addr) (kvs : List (Key × V)), xs = [.ref a] ∧ Rd H a (.dK kvs) ∧ ∀ p, H p = none → Q (.ref p) (upd H p (.lst (kvs.map fun kv => kV kv.1)))
abbrev rListDT : List V → Hp → VK → Prop := fun xs H Q => ∃ d kvs, xs = [V.ref d] ∧ Rd H d (.dT kvs) ∧ ∀ p bs, H p = none → IsKeys H kvs bs → Q (.ref p) (upd H p (.lst (bs.map V.ref)))
theorem list_ok : OA X.K G pListD (fun xs H Q => rListS X.K xs H Q ∨ (rListDK xs H Q ∨ rListDT xs H Q)) := by
  intro m S H v xs W σ Q s rv p
  unfold pListD at p
  split at p
  · split at p
    · next h1 =>
      obtain ⟨x, rfl, r⟩ := rvs1 rv
      cases r with
      | ref hi =>
        cases s.obj _ _ _ _ hi h1 with
        | dk _ g q => exact .inr (.inl ⟨_, _, rfl, .inl g, fun l hl => post_lst s (keys_rel q) hl p⟩)
        | dt _ g q => exact .inr (.inr ⟨_, _, rfl, .inl g, fun l bs hl hb => post_lst s (keysT_rel q hb) hl p⟩)
        | dkR _ g q => exact .inr (.inl ⟨_, _, rfl, .inr ⟨_, g⟩, fun l hl => post_lst s (keys_rel q) hl p⟩)
        | dtR _ g q _ => exact .inr (.inr ⟨_, _, rfl, .inr ⟨_, g⟩, fun l bs hl hb => post_lst s (keysT_rel q hb) hl p⟩)
    · exact .inl (list_ok0 s rv p)
  · exact .inl (list_ok0 s rv p)
theorem call_listM (hc : X.calm = true) : CallR X (.type "list") (fun xs H Q => rListS X.K xs H Q ∨ (rListDK xs H Q ∨ rListDT xs H Q)) := call_list_of.or ((call_listD hc).or (call_list_dT hc))
theorem tuple_ok : OA X.K G pTuple (fun xs H Q => ∃ p ys, xs = [.ref p] ∧ ((SqL X.K H p ys ∧ ∀ l, H l = none → Q (.ref l) (upd H l (.tup ys))) ∨ (SqT X.K H p ys ∧ Q (.ref p) H))) := by
  intro m S H v xs W σ Q s rv p
  unfold pTuple at p
  split at p
  · obtain ⟨x, rfl, r⟩ := rvs1 rv
    cases r with
    | tup ha ra => exact ⟨_, _, rfl, .inr ⟨.of ha, p.ok s (.tup ha ra)⟩⟩
  · obtain ⟨x, rfl, r⟩ := rvs1 rv
    cases r with
    | ref hi =>
      split at p
      · next h1 =>
        obtain ⟨vs, q, ra⟩ := lst_at s hi h1
        exact ⟨_, _, rfl, .inl ⟨q, fun l hl => post_tup s ra hl p⟩⟩
      · exact p.elim
  · exact p.elim
/-! ### isinstance -/
theorem tyN_rel {K : PySem.W.Frag} {m : Mp} {S : Sto} {H : Hp} {v : AV} {x : V} {n : String} (s : SM K G m S H) (r : RV K G m H v x) (h : tyN S v = some n) : TyX K H x (.type n) := by
  cases r with
  | non => cases h; exact .base .non
  | bl b => cases h; exact .base (.bl _)
  | int i => cases h; exact .base (.int _)
  | str z => cases h; exact .base (.str _)
  | ty n => cases h
  | glo x => cases h
  | tup ha ra => cases h; exact .base (.tup ha)
  | ref hi =>
    simp only [tyN] at h
    split at h
    · next h1 =>
      cases h
      cases s.obj _ _ _ _ hi h1 with
      | lst _ g q => exact .base (.lst g)
      | lstR _ g q =>
        rcases g with g | ⟨o, g⟩
        · exact .base (.lst g)
        · exact .base (.frz g)
    · next h1 =>
      cases h
      cases s.obj _ _ _ _ hi h1 with
      | dk _ g q => exact .base (.dK g)
      | dt _ g q => exact .base (.dT g)
    · cases h
theorem subT_rel : ∀ a, a ∈ (["NoneType", "bool", "int", "str", "tuple", "list", "dict"] : List String) → ∀ b, b ∈ (["int", "bool", "str", "tuple", "list", "dict"] : List String) → kitB a b = subT a b := by decide +kernel
theorem tyN_mem {S : Sto} {v : AV} {n : String} (h : tyN S v = some n) : n ∈ (["NoneType", "bool", "int", "str", "tuple", "list", "dict"] : List String) := by
  cases v with
  | non => cases h; decide
  | bl b => cases h; decide
  | int b => cases h; decide
  | str b => cases h; decide
  | tup b => cases h; decide
  | glo x => cases h
  | ty x => cases h
  | ref a =>
    simp only [tyN] at h
    split at h <;> first | (cases h; decide) | cases h
theorem isi_ok {K : PySem.W.Frag} : OA K G pIsi (rIsi K) := by
  intro m S H v xs W σ Q s rv p
  unfold pIsi at p
  split at p
  · next v n =>
    obtain ⟨x, y, rfl, r1, r2⟩ := rvs2 rv
    cases r2
    split at p
    · next b h =>
      obtain ⟨a, h1, h2⟩ := Option.bind_eq_some_iff.mp h
      refine ⟨_, _, _, _, b, rfl, .ty _, tyN_rel s r1 h1, kit_ty ?_, p.ok s (.bl _)⟩
      by_cases hb : n ∈ (["int", "bool", "str", "tuple", "list", "dict"] : List String)
      · exact (subT_rel a (tyN_mem h1) n hb).trans h2
      · have hc : ¬ ((["int", "bool", "str", "tuple", "list", "dict"] : List String).contains n = true) := fun z => hb (List.contains_iff_mem.mp z)
        unfold subT at h2
        split at h2
        · next e =>
          subst e
          cases h2
          unfold kitB
          rw [if_pos (by simp)]
        · first | (rw [if_neg hc] at h2; cases h2) | cases h2
    · exact p.elim
  · exact p.elim
/-! ### dict(pairs) -/
theorem prs_rel {K : PySem.W.Frag} {m : Mp} {H : Hp} : ∀ {xs : List AV} {vs : List V} {ps : List (AV × AV)}, prsOf xs = some ps → (ps.all fun p => (kA p.1).isSome) = true → RVs K G m H xs vs →
    ∃ (as : List Addr) (us : List (Key × V)), vs = as.map V.ref ∧ Paired (fun p kv => SqT K H p [kV kv.1, kv.2]) as us ∧ PrA K G m H ps us
  | [], _, _, h, _, r => by cases h; cases r; exact ⟨[], [], rfl, .nil, .nil⟩
  | x :: xs, _, _, h, hk, r => by
    cases r with
    | cons r t =>
      unfold prsOf at h
      split at h
      · next e => cases e
      · next k v r0 e =>
        cases e
        cases e2 : prsOf xs with
        | none => rw [e2] at h; cases h
        | some ms =>
          rw [e2] at h
          cases h
          rw [List.all_cons, Bool.and_eq_true] at hk
          obtain ⟨k0, ek⟩ := Option.isSome_iff_exists.mp hk.1
          cases r with
          | tup ha ra =>
            obtain ⟨x1, y1, rfl, q1, q2⟩ := rvs2 ra
            obtain ⟨as, us, h1, h2, h3⟩ := prs_rel e2 hk.2 t
            subst h1
            have e3 := kA_rel ek q1
            subst e3
            exact ⟨_ :: as, (k0, y1) :: us, rfl, .cons (.of ha) h2, .cons ⟨ek, q2⟩ h3⟩
      · cases h
theorem mrg_rel {K : PySem.W.Frag} {m : Mp} {H : Hp} {ps : List (AV × AV)} {us : List (Key × V)} (q : PrA K G m H ps us) : ∀ {kvs : List (AV × AV)} {ws : List (Key × V)}, PrA K G m H kvs ws → PrA K G m H (mrgA kvs ps) (mergeK ws us) := by
  induction q with
  | nil => intro kvs ws h; exact h
  | cons h t ih => intro kvs ws h0; exact ih (put_gen kEq_ok h.1 h.2 h0)
theorem post_dct {K : PySem.W.Frag} {W : WX} {σ : L2.St} {m : Mp} {S : Sto} {H : Hp} {Q : VK} {kvs : List (AV × AV)} {us : List (Key × V)} {q : Addr} (s : SM K G m S H) (r : PrA K G m H kvs us) (hq : H q = none)
    (p : Post K G (RV K G) W σ m H (new S (.dct false kvs)) Q) : Q (.ref q) (upd H q (.dK us)) := by
  obtain ⟨s', e'⟩ := s.push (o := .dct false kvs) (u := .dK us) hq (fun m' H' e hm hH => by subst hH; exact .dk rfl upd_same (paired_mono (F := fun a b => kA a = some b) s e r))
  exact p _ _ _ e' s' (.ref (at_new s))
theorem dict_ok : OA X.K G pDict (fun xs H Q => ∃ (a : Addr) (ps : List Addr) (kvs : List (Key × V)), xs = [.ref a] ∧ SqL X.K H a (ps.map V.ref) ∧ Paired (fun p kv => SqT X.K H p [kV kv.1, kv.2]) ps kvs ∧
    ∀ p, H p = none → Q (.ref p) (upd H p (.dK (mergeK [] kvs)))) := by
  intro m S H v xs W σ Q s rv p
  unfold pDict at p
  split at p
  · obtain ⟨x, rfl, r⟩ := rvs1 rv
    split at p
    · next ps h =>
      split at p
      · next hk =>
        rw [Bool.and_eq_true] at hk
        obtain ⟨ys, h1, h2⟩ := Option.bind_eq_some_iff.mp h
        obtain ⟨a, vs, rfl, q, ra⟩ := lstOf_at s r h1
        obtain ⟨as, us, rfl, e2, e3⟩ := prs_rel h2 hk.1 ra
        exact ⟨_, as, us, rfl, q, e2, fun l hl => post_dct s (mrg_rel e3 .nil) hl p⟩
      · exact p.elim
    · exact p.elim
  · exact p.elim
/-! ### the calls -/
theorem call_sumM (hc : X.calm = true) : CallR X (.builtin "sum") (rSumM X.K) := (cr_sum hc).or (call_sumT hc)
theorem call_maxM (hc : X.calm = true) : CallR X (.builtin "max") (rMaxM X.K) := (call_max2 hc).or (cr_max hc)
theorem call_minM (hc : X.calm = true) : CallR X (.builtin "min") (rMinM X.K) := (call_min2 hc).or (cr_min hc)
section
variable {hpl : True}
theorem se_len (cc : Cy X W k) (ha : SA X G W (e :: es) t) (hm : X.mg "len" = none) (hg : Gl X "len" := by rfl) (he : starEach (e :: es) X.env = (false, eval e X.env) :: starEach es X.env := by rfl) (hpl : (backTo pos (starEach es X.env)).any (·.1) = false := by rfl) :
    SE X G W (.Call (.Name "len" p) (e :: es) [] pos) (eCall pLen t) := se_callB call_lenM len_ok hg hm (by rfl) ha (by decide) (by decide) he hpl
theorem se_abs (cc : Cy X W k) (ha : SA X G W (e :: es) t) (hm : X.mg "abs" = none) (hg : Gl X "abs" := by rfl) (he : starEach (e :: es) X.env = (false, eval e X.env) :: starEach es X.env := by rfl) (hpl : (backTo pos (starEach es X.env)).any (·.1) = false := by rfl) :
    SE X G W (.Call (.Name "abs" p) (e :: es) [] pos) (eCall pAbs t) := se_callB call_abs abs_ok hg hm (by rfl) ha (by decide) (by decide) he hpl
theorem se_sum (cc : Cy X W k) (ha : SA X G W (e :: es) t) (hm : X.mg "sum" = none) (hg : Gl X "sum" := by rfl) (he : starEach (e :: es) X.env = (false, eval e X.env) :: starEach es X.env := by rfl) (hpl : (backTo pos (starEach es X.env)).any (·.1) = false := by rfl) :
    SE X G W (.Call (.Name "sum" p) (e :: es) [] pos) (eCall pSum t) := se_callB (call_sumM cc.calm) sum_ok hg hm (by rfl) ha (by decide) (by decide) he hpl
theorem se_max (cc : Cy X W k) (ha : SA X G W (e :: es) t) (hm : X.mg "max" = none) (hg : Gl X "max" := by rfl) (he : starEach (e :: es) X.env = (false, eval e X.env) :: starEach es X.env := by rfl) (hpl : (backTo pos (starEach es X.env)).any (·.1) = false := by rfl) :
    SE X G W (.Call (.Name "max" p) (e :: es) [] pos) (eCall pMax t) := se_callB (call_maxM cc.calm) max_ok hg hm (by rfl) ha (by decide) (by decide) he hpl
theorem se_min (cc : Cy X W k) (ha : SA X G W (e :: es) t) (hm : X.mg "min" = none) (hg : Gl X "min" := by rfl) (he : starEach (e :: es) X.env = (false, eval e X.env) :: starEach es X.env := by rfl) (hpl : (backTo pos (starEach es X.env)).any (·.1) = false := by rfl) :
    SE X G W (.Call (.Name "min" p) (e :: es) [] pos) (eCall pMin t) := se_callB (call_minM cc.calm) min_ok hg hm (by rfl) ha (by decide) (by decide) he hpl
theorem se_all (cc : Cy X W k) (ha : SA X G W (e :: es) t) (hm : X.mg "all" = none) (hg : Gl X "all" := by rfl) (he : starEach (e :: es) X.env = (false, eval e X.env) :: starEach es X.env := by rfl) (hpl : (backTo pos (starEach es X.env)).any (·.1) = false := by rfl) :
    SE X G W (.Call (.Name "all" p) (e :: es) [] pos) (eCall pAll t) := se_callB (cr_all cc.calm) all_ok hg hm (by rfl) ha (by decide) (by decide) he hpl
theorem se_any (cc : Cy X W k) (ha : SA X G W (e :: es) t) (hm : X.mg "any" = none) (hg : Gl X "any" := by rfl) (he : starEach (e :: es) X.env = (false, eval e X.env) :: starEach es X.env := by rfl) (hpl : (backTo pos (starEach es X.env)).any (·.1) = false := by rfl) :
    SE X G W (.Call (.Name "any" p) (e :: es) [] pos) (eCall pAny t) := se_callB (cr_any cc.calm) any_ok hg hm (by rfl) ha (by decide) (by decide) he hpl
theorem se_isi (cc : Cy X W k) (ha : SA X G W (e :: es) t) (hm : X.mg "isinstance" = none) (hg : Gl X "isinstance" := by rfl) (he : starEach (e :: es) X.env = (false, eval e X.env) :: starEach es X.env := by rfl) (hpl : (backTo pos (starEach es X.env)).any (·.1) = false := by rfl) :
    SE X G W (.Call (.Name "isinstance" p) (e :: es) [] pos) (eCall pIsi t) := se_callB call_isi isi_ok hg hm (by rfl) ha (by decide) (by decide) he hpl
theorem se_cint (cc : Cy X W k) (ha : SA X G W (e :: es) t) (hm : X.mg "int" = none) (hg : Gl X "int" := by rfl) (he : starEach (e :: es) X.env = (false, eval e X.env) :: starEach es X.env := by rfl) (hpl : (backTo pos (starEach es X.env)).any (·.1) = false := by rfl) :
    SE X G W (.Call (.Name "int" p) (e :: es) [] pos) (eCall pInt t) := se_callTy call_int1 int_ok hg hm (by rfl) ha (by decide) (by decide) he hpl
theorem se_cstr (cc : Cy X W k) (ha : SA X G W (e :: es) t) (hm : X.mg "str" = none) (hg : Gl X "str" := by rfl) (he : starEach (e :: es) X.env = (false, eval e X.env) :: starEach es X.env := by rfl) (hpl : (backTo pos (starEach es X.env)).any (·.1) = false := by rfl) :
    SE X G W (.Call (.Name "str" p) (e :: es) [] pos) (eCall pStr t) := se_callTy call_str_int str_ok hg hm (by rfl) ha (by decide) (by decide) he hpl
theorem se_clist (cc : Cy X W k) (ha : SA X G W (e :: es) t) (hm : X.mg "list" = none) (hg : Gl X "list" := by rfl) (he : starEach (e :: es) X.env = (false, eval e X.env) :: starEach es X.env := by rfl) (hpl : (backTo pos (starEach es X.env)).any (·.1) = false := by rfl) :
    SE X G W (.Call (.Name "list" p) (e :: es) [] pos) (eCall pListD t) := se_callTy (call_listM cc.calm) list_ok hg hm (by rfl) ha (by decide) (by decide) he hpl
theorem se_ctuple (cc : Cy X W k) (ha : SA X G W (e :: es) t) (hm : X.mg "tuple" = none) (hg : Gl X "tuple" := by rfl) (he : starEach (e :: es) X.env = (false, eval e X.env) :: starEach es X.env := by rfl) (hpl : (backTo pos (starEach es X.env)).any (·.1) = false := by rfl) :
    SE X G W (.Call (.Name "tuple" p) (e :: es) [] pos) (eCall pTuple t) := se_callTy call_tuple_of tuple_ok hg hm (by rfl) ha (by decide) (by decide) he hpl
theorem se_cdict (cc : Cy X W k) (ha : SA X G W (e :: es) t) (hm : X.mg "dict" = none) (hg : Gl X "dict" := by rfl) (he : starEach (e :: es) X.env = (false, eval e X.env) :: starEach es X.env := by rfl) (hpl : (backTo pos (starEach es X.env)).any (·.1) = false := by rfl) :
    SE X G W (.Call (.Name "dict" p) (e :: es) [] pos) (eCall pDict t) := se_callTy (call_dictP cc.calm) dict_ok hg hm (by rfl) ha (by decide) (by decide) he hpl
/-- the built-in types as values -/
theorem se_tyN {n : String} {y : Str} (hm : X.mg y = none) (hv : bootBuiltins y = some (.type n) := by rfl) (hg : Gl X y := by rfl) (hn : y ≠ "__name__" := by decide) (hd : (y == ("__debug__" : Str)) = false := by decide) : SE X G W (.Name y pos) (eK (.ty n)) := se_ty hg hm hv hn hd
end
/-! ### methods -/
def OM (K : PySem.W.Frag) (G : Str → Addr) (f : AV → List AV → Sto → Res AV) (R : V → List V → Hp → VK → Prop) : Prop :=
  ∀ (m : Mp) (S : Sto) (H : Hp) (v : AV) (x : V) (vs : List AV) (xs : List V) (W : WX) (σ : L2.St) (Q : VK), SM K G m S H → RV K G m H v x → RVs K G m H vs xs → Post K G (RV K G) W σ m H (f v vs S) Q → R x xs H Q
theorem tyA_ok {K : PySem.W.Frag} {m : Mp} {S : Sto} {H : Hp} {T : String} {v : AV} {x : V} (s : SM K G m S H) (r : RV K G m H v x) (h : tyA T S v = true) : tyV K T x H := by
  unfold tyA at h
  cases r with
  | str z => exact eq_of_beq h
  | ref hi =>
    simp only at h
    split at h
    · next h1 =>
      obtain ⟨vs, q, _⟩ := lst_at s hi h1
      exact .inl ⟨eq_of_beq h, _, q⟩
    · next h1 =>
      cases s.obj _ _ _ _ hi h1 with
      | dk _ g q => exact .inr (.inr (.inl ⟨eq_of_beq h, .inl ⟨_, g⟩⟩))
      | dt _ g q => exact .inr (.inr (.inl ⟨eq_of_beq h, .inr ⟨_, g⟩⟩))
    · cases h
  | _ => cases h
theorem se_mt {T id : String} {name : Str} {R : V → List V → Hp → VK → Prop} {f : AV → List AV → Sto → Res AV} {apos cpos : Pos} (pa : PlainAttrs T) (slot : Slot T name id) (hty : typeOf (.builtin id) = pure (.type "method_descriptor")) (hm : MtR X id R) (hf : OM X.K G f R)
    (ho : SE X G W a fa) (ha : SA X G W (e :: es) t) (hbase : attributeBase a name X.env (eval a X.env) = eval a X.env := by rfl)
    (hfew : ((backTo cpos (starEach (e :: es) X.env)).all (fun x => !x.1) && (backToKw cpos (keywordEach [] X.env)).all (fun x => x.1.isSome)
      && decide ((e :: es).length + ([] : List Keyword).length + (if ([] : List Keyword).isEmpty then 0 else 1) < 30)) = true := by rfl)
    (hline : (apos.endLine == cpos.line) = true := by rfl) (hs : starEach (e :: es) X.env = (false, eval e X.env) :: starEach es X.env := by rfl) (hplain : (backTo cpos (starEach es X.env)).any (·.1) = false := by rfl) :
    SE X G W (.Call (.Attribute a name apos) (e :: es) [] cpos) (eMt T f fa t) :=
  pe_imp (pe_bm pa slot hty hm ho ha hbase hfew hline hs hplain) fun σ H Q ⟨m, r, S, s, re, p⟩ => by
    refine ⟨m, r, S, s, re, Post.bind p fun m1 H1 v S1 x e1 s1 rv p1 => ?_⟩
    split at p1
    · next h =>
      refine ⟨tyA_ok s1 rv h, m1, r, S1, s1, re.mono s e1, Post.bind p1 fun m2 H2 vs S2 xs e2 s2 rvs p2 => ?_⟩
      exact hf m2 S2 H2 v x vs xs W σ Q s2 (rv.mono s1 e2) rvs p2
    · exact p1.elim
theorem append_ok {K : PySem.W.Frag} : OM K G mAppend rAppend := by
  intro m S H v x vs xs W σ Q s rv rvs p
  unfold mAppend at p
  split at p
  · obtain ⟨y, rfl, ry⟩ := rvs1 rvs
    cases rv with
    | ref hi =>
      split at p
      · next ys h1 =>
        split at p
        · next hz =>
          cases s.obj _ _ _ _ hi h1 with
          | @lst _ us e g q =>
            obtain ⟨s2, x2⟩ := s.write (o := .lst false (ys ++ [_])) (u := .lst (us ++ [y])) hi e (fun q w => by rw [g]; simp) fun H' eH ex => by
              subst eH
              exact .lst e upd_same ((q.mono s ex).append (.cons (ry.mono s ex) .nil))
            exact ⟨_, _, _, rfl, rfl, g, by rw [← q.length]; exact hz, p m _ _ x2 s2 .non⟩
        · exact p.elim
      · exact p.elim
  · exact p.elim
theorem se_append {apos cpos : Pos} (cc : Cy X W k) (ho : SE X G W a fa) (ha : SA X G W [e] t) (hbase : attributeBase a "append" X.env (eval a X.env) = eval a X.env := by rfl)
    (hfew : ((backTo cpos (starEach [e] X.env)).all (fun x => !x.1) && (backToKw cpos (keywordEach [] X.env)).all (fun x => x.1.isSome)
      && decide ([e].length + ([] : List Keyword).length + (if ([] : List Keyword).isEmpty then 0 else 1) < 30)) = true := by rfl)
    (hline : (apos.endLine == cpos.line) = true := by rfl) (hs : starEach [e] X.env = (false, eval e X.env) :: starEach [] X.env := by rfl) (hplain : (backTo cpos (starEach [] X.env)).any (·.1) = false := by rfl) :
    SE X G W (.Call (.Attribute a "append" apos) [e] [] cpos) (eMt "list" mAppend fa t) := se_mt PySem.F.plainAttrs_list PySem.F.slot_list_append PySem.F.type_list_append mt_append append_ok ho ha hbase hfew hline hs hplain
/-! ### dict displays -/
theorem se_dct0 : SE X G W (.Dict [] [] pos) eDct0 := pe_imp pe_dnewK fun σ H Q ⟨m, r, S, s, re, p⟩ q hq => post_dct s .nil hq p
end
end Mc
end
section
set_option Elab.async false
set_option linter.all false
set_option maxRecDepth 100000
set_option maxHeartbeats 1000000
/-! M12: dict displays, max(d, default=x), walks over dicts, enumerate. -/
namespace Mc
open PySem PySem.Spec PyProof.Rows L2
/-! ### an object beside the store comes to it -/
section
variable {K : PySem.W.Frag} {G : Str → Addr} {m m' : Mp} {H H' H2 : Hp} {S S' : Sto}
theorem SM.beside0 {q : Addr} {w u : HO} (s : SM K G m S H) (nf : ¬ Fp m q) (h : H q = some w) (hw : ∀ xs, w ≠ .tup xs) : SM K G m S (upd H q u) := by
  have ke : ∀ (a : Addr) (vs : List V), H a = some (.tup vs) → upd H q u a = some (.tup vs) := fun a vs e => by
    have : a ≠ q := fun z => by subst z; rw [h] at e; exact hw _ (Option.some.inj e)
    rw [upd_ne this]; exact e
  have pm : ∀ {κ κ' : Type} {F : κ → κ' → Prop} {l : List (κ × AV)} {l' : List (κ' × V)}, Paired (fun (p : κ × AV) (q : κ' × V) => F p.1 q.1 ∧ RV K G m H p.2 q.2) l l' → Paired (fun (a : κ × AV) (b : κ' × V) => F a.1 b.1 ∧ RV K G m (upd H q u) a.2 b.2) l l' :=
    fun h => L2.Paired.mapP h fun _ _ z => ⟨z.1, z.2.keepT ke⟩
  refine ⟨s.len, fun j a e o' h1 h2 => ?_, s.ap⟩
  have na : a ≠ q := fun z => nf (z ▸ ⟨_, List.mem_of_getElem? h1, .inl rfl⟩)
  cases s.obj j a e o' h1 h2 with
  | lst e1 h r => exact .lst e1 (by rw [upd_ne na]; exact h) (r.keepT ke)
  | lstR e1 h r =>
    refine .lstR e1 ?_ (r.keepT ke)
    rcases h with h | ⟨q, h⟩
    · exact .inl (by rw [upd_ne na]; exact h)
    · exact .inr ⟨q, by rw [upd_ne na]; exact h⟩
  | dk e1 h r => exact .dk e1 (by rw [upd_ne na]; exact h) (pm (F := fun a b => kA a = some b) r)
  | dt e1 h r => exact .dt e1 (by rw [upd_ne na]; exact h) (pm (F := fun a b => kT a = some b) r)
  | dkR e1 h r => exact .dkR e1 (by rw [upd_ne na]; exact h) (pm (F := fun a b => kA a = some b) r)
  | dtR e1 h r nn => exact .dtR e1 (by rw [upd_ne na]; exact h) (pm (F := fun a b => kT a = some b) r) nn
theorem SM.come {p : Addr} {o : AO} (s : SM K G m S H) (np : ¬ Fp m p) (r : RO K G m H p p o) : SM K G (m ++ [(p, p)]) (S ++ [o]) H := by
  refine ⟨?_, fun j a e o' h1 h2 => ?_, fun j k w w' h1 h2 hjk => ap_push s.ap np h1 h2 hjk⟩
  · rw [List.length_append, List.length_append, s.len]; rfl
  · by_cases hj : j < m.length
    · rw [List.getElem?_append_left hj] at h1
      rw [List.getElem?_append_left (by rw [← s.len]; exact hj)] at h2
      exact (s.obj j a e o' h1 h2).more (List.prefix_append _ _)
    · have hl : j = m.length := by
        have := (List.getElem?_eq_some_iff.mp h1).1
        rw [List.length_append, List.length_singleton] at this
        omega
      subst hl
      rw [List.getElem?_append_right (Nat.le_refl _), Nat.sub_self] at h1
      rw [s.len, List.getElem?_append_right (Nat.le_refl _), Nat.sub_self] at h2
      cases h1; cases h2
      exact r.more (List.prefix_append _ _)
/-- p, fresh at first, is the store's at the end -/
theorem ex_come {p : Addr} {u : HO} (hp : H p = none) (e : Ex m m' H H2) (np : ¬ Fp m' p) : Ex m (m' ++ [(p, p)]) H (upd H2 p u) := by
  refine ⟨e.pre.trans (List.prefix_append _ _), fun b o h n => ?_, fun b f => ?_, fun b o w h => ?_⟩
  · rw [upd_ne (ne_of_none h hp)]; exact e.keep b o h n
  · obtain ⟨w, hw, ew⟩ := f
    rcases List.mem_append.mp hw with hw | hw
    · exact e.fresh b ⟨w, hw, ew⟩
    · have e3 : w = (p, p) := by simpa using hw
      subst e3
      rcases ew with ew | ew <;> (rw [ew]; exact .inr hp)
  · rw [upd_ne (ne_of_none h hp)]; exact e.frz b o w h
/-- a new object that is not the store's -/
theorem ex_beside {p : Addr} {u : HO} (hp : H p = none) : Ex m m H (upd H p u) := ⟨List.prefix_refl _, fun b o h n => by rw [upd_ne (ne_of_none h hp)]; exact h, fun b f => .inl f, fun b o u h => by rw [upd_ne (ne_of_none h hp)]; exact h⟩
theorem SM.newBeside {p : Addr} {u : HO} (s : SM K G m S H) (hp : H p = none) : SM K G m S (upd H p u) := by
  refine ⟨s.len, fun j a e o' h1 h2 => ?_, s.ap⟩
  exact (s.obj j a e o' h1 h2).keep s (ex_beside hp) (upd_ne fun z => s.none_not hp (z ▸ ⟨_, List.mem_of_getElem? h1, .inl rfl⟩))
theorem ex_stay {p : Addr} {u : HO} (h : H p = some u) (np : ¬ Fp m p) (e : Ex m m' H H2) : H2 p = some u ∧ ¬ Fp m' p := ⟨e.keep _ _ h np, fun f => by
  rcases e.fresh _ f with f | f
  · exact np f
  · rw [h] at f; cases f⟩
end
/-! ### dict displays -/
abbrev DP := Env → Sto → Res (List (AV × AV))
def RPs (K : PySem.W.Frag) (G : Str → Addr) (m : Mp) (H : Hp) (l : List (AV × AV)) (l' : List (V × V)) : Prop := Paired (fun p q => RV K G m H p.1 q.1 ∧ RV K G m H p.2 q.2) l l'
theorem RPs.mono {K : PySem.W.Frag} {G : Str → Addr} {m m' : Mp} {H H' : Hp} {S : Sto} {l : List (AV × AV)} {l' : List (V × V)} (s : SM K G m S H) (e : Ex m m' H H') (h : RPs K G m H l l') : RPs K G m' H' l l' := L2.Paired.mapP h fun _ _ z => ⟨z.1.mono s e, z.2.mono s e⟩
structure SP (X : Cx) (G : Str → Addr) (W : WX) (pos : Pos) (ks : List (Option Expr)) (vs : List Expr) (t : DP) : Prop where
  run : ∃ trs, PPs X pos ks vs trs ∧ ∀ (σ : L2.St) (H : Hp) (Q : List (V × V) → Hp → Prop), (∃ m r S, SM X.K G m S H ∧ RE X.K G m H r σ ∧ Post X.K G (RPs X.K G) W σ m H (t r S) Q) → tPairs trs σ H Q
section
variable {X : Cx} {G : Str → Addr} {W : WX} {pos : Pos} {k : Nat} {a b c d e : Expr} {fa fb fc fd : DE} {es : List Expr} {t : DA} {x : Str} {p : Pos}
theorem sp_nil : SP X G W pos [] [] dNil := ⟨[], pps_nil, fun σ H Q ⟨m, r, S, s, re, p⟩ => Post.ok p s .nil⟩
theorem sp_cons {ks : List (Option Expr)} {vs : List Expr} {t : DP} (ha : SE X G W a fa) (hb : SE X G W b fb) (ht : SP X G W pos ks vs t) : SP X G W pos (some a :: ks) (b :: vs) (dCons fa fb t) := by
  obtain ⟨trs, h1, h2⟩ := ht.run
  refine ⟨_, pps_cons ha hb h1, fun σ H Q ⟨m, r, S, s, re, p⟩ => ?_⟩
  unfold dCons at p
  refine ⟨m, r, S, s, re, Post.bind p fun m1 H1 v S1 x e1 s1 rv p1 => ?_⟩
  refine ⟨m1, r, S1, s1, re.mono s e1, Post.bind p1 fun m2 H2 w S2 y e2 s2 rw p2 => ?_⟩
  refine h2 _ _ _ ⟨m2, r, S2, s2, (re.mono s e1).mono s1 e2, Post.bind p2 fun m3 H3 ps S3 qs e3 s3 rq p3 => ?_⟩
  exact Post.ok p3 s3 (.cons ⟨(rv.mono s1 e2).mono s2 e3, rw.mono s2 e3⟩ rq)
theorem prs_keys {K : PySem.W.Frag} {m : Mp} {H : Hp} {ps : List (AV × AV)} {qs : List (V × V)} (h : RPs K G m H ps qs) : (ps.all fun p => (kA p.1).isSome) = true → ∃ us : List (Key × V), qs = us.map (fun kv => (kV kv.1, kv.2)) ∧ PrA K G m H ps us := by
  induction h with
  | nil => exact fun _ => ⟨[], rfl, .nil⟩
  | @cons p q ps qs h t ih =>
    intro hk
    rw [List.all_cons, Bool.and_eq_true] at hk
    obtain ⟨us, e1, e2⟩ := ih hk.2
    obtain ⟨k0, ek⟩ := Option.isSome_iff_exists.mp hk.1
    refine ⟨(k0, q.2) :: us, ?_, .cons ⟨ek, h.2⟩ e2⟩
    rw [List.map_cons, ← e1, ← kA_rel ek h.1]
theorem se_dct {ks : List (Option Expr)} {vs : List Expr} {t : DP} (ht : SP X G W pos ks vs t) (hall : ks.all (·.isSome) = true := by rfl) (hl : ks.length = vs.length := by rfl) (h0 : ks ≠ [] := by simp) (h15 : ks.length ≤ 15 := by decide) : SE X G W (.Dict ks vs pos) (Mc.eDct t) := by
  obtain ⟨trs, h1, h2⟩ := ht.run
  refine pe_imp (L2.pe_disp h1 hall hl h0 h15) fun σ H Q ⟨m, r, S, s, re, p⟩ q hq => ?_
  unfold Mc.eDct at p
  have nq := s.none_not hq
  have e0 : Ex m m H (upd H q (.dK [])) := ex_beside hq
  refine h2 _ _ _ ⟨m, r, S, s.newBeside hq, re.mono s e0, ?_⟩
  cases ht : t r S with
  | bad => rw [ht] at p; exact p.elim
  | ex c pp S1 => rw [ht] at p; exact fun m2 H2 cls d e2 s2 rx => p m2 H2 cls d (e0.trans e2) s2 rx
  | ok ps S1 =>
    rw [ht] at p
    simp only [Res.bind_ok] at p
    intro m1 H1 qs e1 s1 rq
    obtain ⟨hd, nd⟩ := ex_stay upd_same nq e1
    refine ⟨hd, ?_⟩
    split at p
    · next hk =>
      rw [Bool.and_eq_true] at hk
      obtain ⟨us, e2, pr⟩ := prs_keys rq hk.1
      have hlen : us.length ≤ 15 := by rw [← paired_len pr]; exact of_decide_eq_true hk.2
      refine ⟨us, e2, hlen, ?_⟩
      have sb : SM X.K G m1 S1 (upd H1 q (.dK (mergeK [] us))) := s1.beside0 nd hd fun _ z => by cases z
      have kT : ∀ (a : Addr) (vs : List V), H1 a = some (.tup vs) → upd H1 q (.dK (mergeK [] us)) a = some (.tup vs) := fun a vs e => by
        have : a ≠ q := fun z => by subst z; rw [hd] at e; cases e
        rw [upd_ne this]; exact e
      have pr2 : PrA X.K G m1 (upd H1 q (.dK (mergeK [] us))) ps us := L2.Paired.mapP pr fun _ _ z => ⟨z.1, z.2.keepT kT⟩
      have sc := sb.come (p := q) (o := .dct false (mrgA [] ps)) nd (.dk rfl upd_same (mrg_rel pr2 .nil))
      exact p _ _ _ (ex_come hq (e0.trans e1) nd) sc (.ref (at_new s1))
    · exact p.elim

/-! ### max(d, default=x) -/
def rMaxDf : List V → List V → Hp → VK → Prop := fun vs zs H0 Q => ∃ (a : Addr) (H : Hp) (kvs : List (Key × V)) (is : List Int) (z : V), vs = [V.ref a] ∧ zs = [z] ∧ Alt H0 a H ∧ H a = some (.dK kvs) ∧ kvs.map (·.1) = is.map Sum.inl ∧ (is = [] → Q z H) ∧ ∀ m, m ∈ is → (∀ j ∈ is, j ≤ m) → Q (.int m) H
theorem cr_maxDf (hc : X.calm = true) : CallRK X (.builtin "max") [Str.ofString "default"] rMaxDf := by
  intro pins s σ H0 vs zs us ws Q I0 r rz h
  obtain ⟨a, H, kvs, is, z, rfl, rfl, al, ha, hv, q0, q⟩ := h
  have I := inv_alt I0 al
  rw [Vals.ref1 r]
  obtain ⟨w1, rfl, rw1⟩ := vals1 rz
  obtain ⟨_, hsys, vs, rel, dof⟩ := dk_of I.hok ha
  obtain ⟨ep, dat⟩ := dof.dictAt
  obtain ⟨ob, es, ho, hex, hdat, hko, hpr, hnd⟩ := id dat
  have hlt : a < s.heap.objs.size := Heap.lt_size ho
  have hkeys : vs.map (·.1) = is.map Sum.inl := (KV.keys rel).symm.trans hv
  have hlv : vs.length = is.length := by
    have e1 := congrArg List.length hkeys
    rw [List.length_map, List.length_map] at e1
    exact e1
  have hval : ∀ (i : Nat) (v : Value), (∃ k x, vs[i]? = some (k, x) ∧ (mixKind X.prog X.w).is k v = true) → ∃ t, v = Value.int (is.getD i 0) t := fun i v ⟨k, x, hk, hkey⟩ => by
    have e1 : (vs.map (·.1))[i]? = some k := by rw [List.getElem?_map, hk] <;> rfl
    rw [hkeys, List.getElem?_map] at e1
    obtain ⟨j, hj, e2⟩ := Option.map_eq_some_iff.mp e1
    subst e2
    have hi : Value.isInt j v = true := hkey
    obtain ⟨t, e3⟩ := Value.isInt_shape (k := j) (v := v) hi
    refine ⟨t, ?_⟩
    rw [e3, List.getD_eq_getElem?_getD, hj] <;> rfl
  refine call_max_walkD (wpAny_pyIter_dict (knd := mixKind X.prog X.w) hsys dat ?_)
  have old : ∀ (s' : Shared), Moved [s.heap.objs.size] (fun a b => b = a) { s with heap := s.heap.push { cls := .type "dict_keyiterator", data := .fields #[.ref a, .int 0 0, rawInt vs.length, rawInt ep] } } s' → ∃ h' tk, s' = { s with heap := h', toks := tk } ∧ ∀ b o, s.heap.get? b = some o → h'.get? b = some o :=
    fun s' m => PySem.W.moved_old rfl rfl m
  refine ⟨_, _, _, _, _, _, _, s.heap, _, rfl, (Walks.dictKeys (knd := mixKind X.prog X.w) (A := X.A.in1) (I.ok.hd hc) s.heap.objs.size a (Nat.ne_of_lt hlt) vs ep).toS,
    ⟨⟨_, Heap.get?_push_size _ rfl, rfl, rfl⟩, dat.keep fun b u e => Heap.get?_push_of_some _ e⟩, fun b hb => ?_, fun b o e hb => ?_, fun b o e => Heap.get?_push_of_some _ e, fun hz s' m => ?_, fun hp => ⟨fun i j vi vj s2 Q2 E2 _ h1 h2 h3 => CmpOf.ints_gt (fun i => is.getD i 0) hval i j vi vj s2 Q2 E2 h1 h2 h3, fun v s' hP m => ?_⟩⟩
  · show b < (s.heap.push _).objs.size
    rw [Heap.size_push]
    rcases List.mem_cons.mp hb with e | hb
    · rw [e]
      exact Nat.lt_succ_self _
    · rw [List.mem_singleton.mp hb]
      exact Nat.lt_succ_of_lt hlt
  · exact absurd (Heap.lt_size e) ((List.mem_singleton.mp hb) ▸ Nat.lt_irrefl _)
  · obtain ⟨h', tk, rfl, hk⟩ := PySem.W.moved_old rfl rfl m
    exact ⟨z, H, I.kept hk, rw1, q0 (List.eq_nil_of_length_eq_zero (by omega))⟩
  · obtain ⟨h', tk, rfl, hk⟩ := PySem.W.moved_old rfl rfl m
    obtain ⟨t, rfl⟩ := hval _ v hP
    obtain ⟨b1, b2⟩ := argBest_gt (fun i => is.getD i 0) (vs.length - 1)
    refine ⟨.int _, H, I.kept hk, ⟨t, rfl⟩, q _ ?_ fun j hj => ?_⟩
    · have hb : argBest (fun i j => decide (is.getD i 0 > is.getD j 0)) (vs.length - 1) < is.length := by omega
      rw [List.getD_eq_getElem?_getD, List.getElem?_eq_getElem hb]
      exact List.getElem_mem hb
    · obtain ⟨i, hi, e⟩ := List.mem_iff_getElem.mp hj
      have e2 : is.getD i 0 = j := by rw [List.getD_eq_getElem?_getD, List.getElem?_eq_getElem hi, ← e] <;> rfl
      rw [← e2]
      exact b2 i (by omega)
theorem keys_ints {K : PySem.W.Frag} {m : Mp} {H : Hp} {kvs : List (AV × AV)} {us : List (Key × V)} (q : PrA K G m H kvs us) : ∀ {ns : List Int}, intsOf (kvs.map (·.1)) = some ns → us.map (·.1) = ns.map Sum.inl := by
  induction q with
  | nil => intro ns h; cases h; rfl
  | @cons p q ps qs h t ih =>
    intro ns e
    obtain ⟨k, v⟩ := p
    have h1 : kA k = some q.1 := h.1
    rw [List.map_cons] at e
    cases k with
    | int i =>
      unfold intsOf at e
      cases e2 : intsOf (ps.map (·.1)) with
      | none => rw [e2] at e; cases e
      | some ms =>
        rw [e2] at e
        cases e
        have h2 : Sum.inl i = q.1 := Option.some.inj h1
        rw [List.map_cons, List.map_cons, ih e2, ← h2]
    | _ => cases e
theorem se_maxD {kpos : Pos} {nm : Option Str} (cc : Cy X W k) (ha : SE X G W a fa) (hb : SE X G W b fb) (hm : X.mg "max" = none) (hg : Gl X "max" := by rfl)
    (hs : starEach [a] X.env = (false, eval a X.env) :: starEach [] X.env := by rfl) (he : backTo pos (starEach [a] X.env) = (false, eval a X.env) :: backTo pos (starEach [] X.env) := by rfl) (hpl : (backTo pos (starEach [a] X.env)).any (·.1) = false := by rfl)
    (hall : (backToKw pos (keywordEach [⟨nm, b, kpos⟩] X.env)).all (·.1.isSome) = true := by rfl) (hnone : (backToKw pos (keywordEach [⟨nm, b, kpos⟩] X.env)).any (·.1.isNone) = false := by rfl) (hks : (backToKw pos (keywordEach [⟨nm, b, kpos⟩] X.env)).filterMap (·.1) = [Str.ofString "default"] := by rfl) :
    SE X G W (.Call (.Name "max" p) [a] [⟨nm, b, kpos⟩] pos) (pMaxD fa fb) :=
  pe_imp (pe_callBK (cr_maxDf cc.calm) hg hm (by rfl) (L2.pa_cons ha L2.pa_nil hs) (pk_cons hb pk_nil) (by decide) (by decide) he hpl hall hnone hks) fun σ H Q ⟨m, r, S, s, re, p⟩ => by
    unfold pMaxD at p
    refine ⟨m, r, S, s, re, Post.bind p fun m1 H1 v S1 x e1 s1 rv p1 => ?_⟩
    refine ⟨m1, r, S1, s1, re.mono s e1, Post.bind p1 fun m2 H2 y S2 z e2 s2 ry p2 => ?_⟩
    have rv := rv.mono s1 e2
    split at p2
    · cases rv with
      | ref hi =>
        split at p2
        · next kvs h1 =>
          have fin : ∀ {a : Addr} (H4 : Hp) (us : List (Key × V)), Alt H2 a H4 → SM X.K G m2 S2 H4 → Ex m2 m2 H2 H4 → H4 a = some (.dK us) → PrA X.K G m2 H4 kvs us → rMaxDf [V.ref a] [z] H2 Q := by
            intro a H4 us al s4 e4 g q
            split at p2
            · next h => exact ⟨_, H4, _, [], z, rfl, rfl, al, g, keys_ints q h, fun _ => p2 m2 H4 z e4 s4 (ry.mono s2 e4), fun m hm => by cases hm⟩
            · next i ns h =>
              refine ⟨_, H4, _, i :: ns, z, rfl, rfl, al, g, keys_ints q h, fun e => (by cases e), fun m h1 h2 => ?_⟩
              obtain ⟨k1, k2⟩ := mxI_spec i ns
              rw [mx_le h1 h2 k1 k2]
              exact p2 m2 H4 _ e4 s4 (.int _)
            · exact p2.elim
          cases s2.obj _ _ _ _ hi h1 with
          | dk _ g q => exact fin H2 _ (.inl rfl) s2 .refl g q
          | @dt _ us _ g q =>
            cases q with
            | nil =>
              obtain ⟨s3, x3⟩ := sm_asK s2 hi h1 g
              exact fin _ [] (.inr (.inr ⟨g, rfl⟩)) s3 x3 upd_same .nil
            | @cons p q ps qs h t =>
              obtain ⟨k, v⟩ := p
              have hk := kT_T (x := k) h.1
              cases k with
              | tup xs => exact False.elim p2
              | _ => cases hk
        · exact p2.elim
    · exact p2.elim
end
end Mc
end
section
set_option Elab.async false
set_option linter.all false
set_option maxRecDepth 100000
set_option maxHeartbeats 1000000
/-! M13: locked dicts, walks over them, enumerate. -/
namespace Mc
open PySem PySem.Spec PyProof.Rows L2
section
variable {X : Cx} {G : Str → Addr} {W : WX} {pos : Pos} {k : Nat} {a b c d e : Expr} {fa fb fc fd : DE}
/-! ### locked dicts -/
theorem lkAt_spec {o : DE} {r : Env} {S : Sto} {a : Nat} {kk : Bool} {kvs : List (AV × AV)} (h : lkAt o r S = some (a, kk, kvs)) : S[a]? = some (.dct kk kvs) := by
  unfold lkAt at h
  split at h
  · split at h
    · next h2 => cases h; exact h2
    · cases h
  · cases h
/-- the dict at a is locked: an empty one as a dict of plain keys -/
theorem lock_in {K : PySem.W.Frag} {m : Mp} {S : Sto} {H : Hp} {a : Nat} {kvs : List (AV × AV)} (s : SM K G m S H) (h : S[a]? = some (.dct false kvs)) :
    ∃ d H1 u, m[a]? = some (d, d) ∧ Alt H d H1 ∧ Ex m m H H1 ∧ H1 d = some u ∧ Mut (some u) ∧ (∀ xs, u ≠ .tup xs) ∧ ∀ od, SM K G m (S.set a (.dct true kvs)) (upd H1 d (.frz od u)) ∧ ∀ v x, RV K G m H1 v x → RV K G m (upd H1 d (.frz od u)) v x := by
  have go : ∀ {d : Addr} {H1 : Hp} {us : List (Key × V)}, m[a]? = some (d, d) → SM K G m S H1 → H1 d = some (.dK us) → PrA K G m H1 kvs us → ∀ od, SM K G m (S.set a (.dct true kvs)) (upd H1 d (.frz od (.dK us))) ∧ ∀ v x, RV K G m H1 v x → RV K G m (upd H1 d (.frz od (.dK us))) v x :=
    fun hi s g q od => s.swap hi (fun xs z => by cases z) fun H' hH k => by
      subst hH
      exact .dkR rfl upd_same (L2.Paired.mapP q fun _ _ z => ⟨z.1, k _ _ z.2⟩)
  obtain ⟨d, dx, hi, r⟩ := s.at_ h
  cases r with
  | @dk _ us e1 g q =>
    subst e1
    exact ⟨_, H, _, hi, .inl rfl, .refl, g, trivial, fun _ z => (by cases z), go hi s g q⟩
  | @dt _ us e1 g q =>
    subst e1
    by_cases hn : kvs = []
    · subst hn
      cases q
      obtain ⟨s1, x1⟩ := sm_asK s hi h g
      exact ⟨_, _, _, hi, .inr (.inr ⟨g, rfl⟩), x1, upd_same, trivial, fun _ z => (by cases z), go hi s1 upd_same .nil⟩
    · refine ⟨_, H, _, hi, .inl rfl, .refl, g, trivial, fun _ z => (by cases z), fun od => s.swap hi (fun xs z => by cases z) fun H' hH k => ?_⟩
      subst hH
      exact .dtR rfl upd_same (L2.Paired.mapP q fun _ _ z => ⟨z.1, k _ _ z.2⟩) hn
theorem lock_out {K : PySem.W.Frag} {m : Mp} {S S2 : Sto} {H : Hp} {a : Nat} {d : Addr} {od : Obj} {u : HO} (s : SM K G m S H) (hi : m[a]? = some (d, d)) (hd : H d = some (.frz od u)) (hu : ∀ xs, u ≠ .tup xs) (h : unlk a S = some S2) :
    SM K G m S2 (upd H d u) ∧ ∀ v x, RV K G m H v x → RV K G m (upd H d u) v x := by
  unfold unlk at h
  split at h
  · next kvs hs =>
    cases h
    have r := s.obj _ _ _ _ hi hs
    cases r with
    | dkR e1 g q =>
      rw [hd] at g; cases g
      refine s.swap hi (fun xs z => hu xs z) fun H' hH k => ?_
      subst hH
      exact .dk rfl upd_same (L2.Paired.mapP q fun _ _ z => ⟨z.1, k _ _ z.2⟩)
    | dtR e1 g q _ =>
      rw [hd] at g; cases g
      refine s.swap hi (fun xs z => hu xs z) fun H' hH k => ?_
      subst hH
      exact .dt rfl upd_same (L2.Paired.mapP q fun _ _ z => ⟨z.1, k _ _ z.2⟩)
  · cases h
theorem re_of {K : PySem.W.Frag} {m : Mp} {H H' : Hp} {r : Env} {σ : L2.St} (k : ∀ v x, RV K G m H v x → RV K G m H' v x) (h : RE K G m H r σ) : RE K G m H' r σ := L2.Paired.mapP h fun _ _ z v hv => by
  obtain ⟨x, e1, q⟩ := z v hv
  exact ⟨x, e1, k _ _ q⟩
/-- from the first heap to the freed one -/
theorem lock_ex {m m' : Mp} {H H' : Hp} {a : Nat} {d : Addr} {od : Obj} {u : HO} (hi : m[a]? = some (d, d)) (h0 : H d = some u) (mu : Mut (some u)) (e : Ex m m' (upd H d (.frz od u)) H') : Ex m m' H (upd H' d u) := by
  have fp : Fp m d := ⟨_, List.mem_of_getElem? hi, .inl rfl⟩
  refine ⟨e.pre, fun b o h n => ?_, fun b f => ?_, fun b o w h => ?_⟩
  · have nb : b ≠ d := fun z => n (z ▸ fp)
    rw [upd_ne nb]
    exact e.keep b o (by rw [upd_ne nb]; exact h) n
  · rcases e.fresh b f with f | f
    · exact .inl f
    · by_cases nb : b = d
      · subst nb; rw [upd_same] at f; cases f
      · rw [upd_ne nb] at f; exact .inr f
  · have nb : b ≠ d := fun z => by
      subst z
      rw [h0] at h; cases h
      exact mu
    rw [upd_ne nb]
    exact e.frz b o w (by rw [upd_ne nb]; exact h)
theorem ps_alt {X : Cx} {st : Stmt} {t : TS} (h : PS X st t) : PS X st (fun D σ H => ∃ H1 d, Alt H d H1 ∧ t D σ H1) := ⟨fun pins s σ H D I ⟨H1, d, al, q⟩ => h.run pins s σ H1 D (inv_alt I al) q⟩
theorem pe_alt {X : Cx} {e : Expr} {t : TE} (h : PE X e t) : PE X e (fun σ H Q => ∃ H1 d, Alt H d H1 ∧ t σ H1 Q) := ⟨fun pins s σ H Q I ⟨H1, d, al, q⟩ => h.run pins s σ H1 Q (inv_alt I al) q⟩
theorem ss_lock {st : Stmt} {o : DE} {b : DS} (h : SS X G W st b) : SS X G W st (lkS o b) :=
  ps_imp (ps_orM h (ps_alt (ps_lock h))) fun D σ H ⟨m, r, S, s, re, p⟩ => by
    unfold lkS at p
    cases hl : lkAt o r S with
    | none => rw [hl] at p; exact p.elim
    | some q =>
      obtain ⟨a, kk, kvs⟩ := q
      rw [hl] at p
      cases kk with
      | true => exact .inl ⟨m, r, S, s, re, p⟩
      | false =>
        simp only at p
        obtain ⟨d, Hx, u, hi, al, e0, h0, mu, nt, hs⟩ := lock_in s (lkAt_spec hl)
        have p := PostS.ext e0 p
        refine .inr ⟨Hx, d, al, d, u, h0, mu, fun od => ?_⟩
        obtain ⟨s1, k1⟩ := hs od
        refine ⟨m, r, _, s1, re_of k1 (re.mono s e0), ?_⟩
        have stay : ∀ {m' : Mp} {H' : Hp}, Ex m m' (upd Hx d (.frz od u)) H' → H' d = some (.frz od u) ∧ m'[a]? = some (d, d) := fun e => ⟨e.frz _ _ _ upd_same, pre_get e.pre hi⟩
        cases hb : b r (S.set a (.dct true kvs)) with
        | nx r1 S1 =>
          rw [hb] at p
          intro m1 σ1 H1 e1 s2 re1
          obtain ⟨g1, g2⟩ := stay e1
          simp only at p
          split at p
          · next S2 hu =>
            obtain ⟨s3, k3⟩ := lock_out s2 g2 g1 nt hu
            exact ⟨g1, p m1 σ1 _ (lock_ex hi h0 mu e1) s3 (re_of k3 re1)⟩
          · exact p.elim
        | brk r1 S1 =>
          rw [hb] at p
          intro m1 σ1 H1 e1 s2 re1
          obtain ⟨g1, g2⟩ := stay e1
          simp only at p
          split at p
          · next S2 hu =>
            obtain ⟨s3, k3⟩ := lock_out s2 g2 g1 nt hu
            exact ⟨g1, p m1 σ1 _ (lock_ex hi h0 mu e1) s3 (re_of k3 re1)⟩
          · exact p.elim
        | cnt r1 S1 =>
          rw [hb] at p
          intro m1 σ1 H1 e1 s2 re1
          obtain ⟨g1, g2⟩ := stay e1
          simp only at p
          split at p
          · next S2 hu =>
            obtain ⟨s3, k3⟩ := lock_out s2 g2 g1 nt hu
            exact ⟨g1, p m1 σ1 _ (lock_ex hi h0 mu e1) s3 (re_of k3 re1)⟩
          · exact p.elim
        | ret v S1 =>
          rw [hb] at p
          intro m1 H1 x e1 s2 rv
          obtain ⟨g1, g2⟩ := stay e1
          simp only at p
          split at p
          · next S2 hu =>
            obtain ⟨s3, k3⟩ := lock_out s2 g2 g1 nt hu
            exact ⟨g1, p m1 _ x (lock_ex hi h0 mu e1) s3 (k3 _ _ rv)⟩
          · exact p.elim
        | ex c q r1 S1 => rw [hb] at p; exact p.elim
        | bad => rw [hb] at p; exact p.elim
theorem se_lock {e : Expr} {o b : DE} (h : SE X G W e b) : SE X G W e (lkE o b) :=
  pe_imp (pe_orM h (pe_alt (pe_lock h))) fun σ H Q ⟨m, r, S, s, re, p⟩ => by
    unfold lkE at p
    cases hl : lkAt o r S with
    | none => rw [hl] at p; exact p.elim
    | some q =>
      obtain ⟨a, kk, kvs⟩ := q
      rw [hl] at p
      cases kk with
      | true => exact .inl ⟨m, r, S, s, re, p⟩
      | false =>
        simp only at p
        obtain ⟨d, Hx, u, hi, al, e0, h0, mu, nt, hs⟩ := lock_in s (lkAt_spec hl)
        have p := Post.ext e0 p
        refine .inr ⟨Hx, d, al, d, u, h0, mu, fun od => ?_⟩
        obtain ⟨s1, k1⟩ := hs od
        refine ⟨m, r, _, s1, re_of k1 (re.mono s e0), ?_⟩
        cases hb : b r (S.set a (.dct true kvs)) with
        | ok v S1 =>
          rw [hb] at p
          intro m1 H1 x e1 s2 rv
          simp only at p
          split at p
          · next S2 hu =>
            obtain ⟨s3, k3⟩ := lock_out s2 (pre_get e1.pre hi) (e1.frz _ _ _ upd_same) nt hu
            exact ⟨e1.frz _ _ _ upd_same, p m1 _ x (lock_ex hi h0 mu e1) s3 (k3 _ _ rv)⟩
          · exact p.elim
        | ex c q S1 => rw [hb] at p; exact p.elim
        | bad => rw [hb] at p; exact p.elim

/-! ### walks over a locked dict -/
/-- the dict is locked, its keys plain -/
def dkP (d : Addr) (o : Obj) (us : List (Key × V)) (p : Nat) : Mp → Sto → Hp → Prop := fun m _ H => m[p]? = some (d, d) ∧ H d = some (.frz o (.dK us))
theorem dkP_at {K : PySem.W.Frag} {m : Mp} {S : Sto} {H : Hp} {d : Addr} {o : Obj} {us : List (Key × V)} {p : Nat} (s : SM K G m S H) (h : dkP d o us p m S H) : ∃ kvs, S[p]? = some (.dct true kvs) ∧ PrA K G m H kvs us := by
  obtain ⟨hi, g⟩ := h
  have hl : p < S.length := by rw [← s.len]; exact (List.getElem?_eq_some_iff.mp hi).1
  have e := List.getElem?_eq_getElem hl
  have r := s.obj _ _ _ _ hi e
  generalize S[p] = ob at e r
  cases r with
  | dkR _ g2 q =>
    rw [g] at g2
    cases g2
    exact ⟨_, e, q⟩
  | lst _ g2 _ => rw [g] at g2; cases g2
  | lstR _ g2 _ => rcases g2 with g2 | ⟨_, g2⟩ <;> (rw [g] at g2; cases g2)
  | dk _ g2 _ => rw [g] at g2; cases g2
  | dt _ g2 _ => rw [g] at g2; cases g2
  | dtR _ g2 _ _ => rw [g] at g2; cases g2
theorem uDct_at {f : AV × AV → AV} {S : Sto} {p i : Nat} {kvs : List (AV × AV)} {o : Option AV} (h : S[p]? = some (.dct true kvs)) (e : uDct f p S i = some o) : kvs[i]?.map f = o := by
  unfold uDct at e
  rw [h] at e
  exact Option.some.inj e
theorem pr_at {κ κ' : Type} {F : κ → κ' → Prop} {l : List κ} {l' : List κ'} (q : Paired F l l') {i : Nat} {x : κ} (h : l[i]? = some x) : ∃ y, l'[i]? = some y ∧ F x y := paired_get q h
theorem dkP_keep {K : PySem.W.Frag} {d : Addr} {o : Obj} {us : List (Key × V)} {p : Nat} : ∀ m S H m' S' H', SM K G m S H → dkP d o us p m S H → Ex m m' H H' → SM K G m' S' H' → dkP d o us p m' S' H' :=
  fun m S H m' S' H' s ⟨h1, h2⟩ ex s' => ⟨pre_get ex.pre h1, ex.frz _ _ _ h2⟩
theorem dkP_keepD {d : Addr} {o : Obj} {us : List (Key × V)} {p : Nat} : ∀ (m : Mp) (S : Sto) (H : Hp) q ys zs, dkP d o us p m S H → ¬ Fp m q → H q = some (.lst ys) → dkP d o us p m S (upd H q (.lst zs)) :=
  fun m S H q ys zs ⟨h1, h2⟩ nf hq => ⟨h1, by
    have : d ≠ q := fun z => by subst z; rw [h2] at hq; cases hq
    rw [upd_ne this]; exact h2⟩
theorem dk_len {K : PySem.W.Frag} {m : Mp} {H : Hp} {kvs : List (AV × AV)} {us : List (Key × V)} {f : AV × AV → AV} {i : Nat} (q : PrA K G m H kvs us) (e : kvs[i]?.map f = none) : us.length ≤ i := by
  rw [← paired_len q]
  exact List.getElem?_eq_none_iff.mp (Option.map_eq_none_iff.mp e)
theorem dk_go {K : PySem.W.Frag} {m : Mp} {H : Hp} {kvs : List (AV × AV)} {us : List (Key × V)} {f : AV × AV → AV} {i : Nat} {v : AV} (q : PrA K G m H kvs us) (e : kvs[i]?.map f = some v) : ∃ kv ku, kvs[i]? = some kv ∧ us[i]? = some ku ∧ f kv = v ∧ kA kv.1 = some ku.1 ∧ RV K G m H kv.2 ku.2 := by
  obtain ⟨kv, h1, h2⟩ := Option.map_eq_some_iff.mp e
  obtain ⟨ku, h3, h4⟩ := pr_at q h1
  exact ⟨kv, ku, h1, h3, h2, h4.1, h4.2⟩
theorem lt_of_some {α : Type} {l : List α} {i : Nat} {x : α} (h : l[i]? = some x) : i < l.length := (List.getElem?_eq_some_iff.mp h).1
theorem tk_keys {K : PySem.W.Frag} {d : Addr} {o : Obj} {us : List (Key × V)} {p : Nat} : Tk K G (uKeys p) (Itk d o us) (dkP d o us p) where
  go := fun m S H i v s h e => by
    obtain ⟨kvs, hs, q⟩ := dkP_at s h
    obtain ⟨_, _, _, h3, _⟩ := dk_go q (uDct_at hs e)
    exact ⟨h.2, lt_of_some h3⟩
  yld := fun m S H i v x H' s h e y => by
    obtain ⟨rfl, k, z, h1, rfl⟩ := y
    obtain ⟨kvs, hs, q⟩ := dkP_at s h
    obtain ⟨kv, ku, _, h3, h4, h5, _⟩ := dk_go q (uDct_at hs e)
    rw [h1] at h3
    cases h3
    exact ⟨m, .refl, s, by rw [← h4]; exact kA_relR h5⟩
  stop := fun m S H i s h e => by
    obtain ⟨kvs, hs, q⟩ := dkP_at s h
    exact ⟨h.2, dk_len q (uDct_at hs e)⟩
  keep := dkP_keep
  keepD := dkP_keepD
theorem tk_vals {K : PySem.W.Frag} {d : Addr} {o : Obj} {us : List (Key × V)} {p : Nat} : Tk K G (uVals p) (Itd d o us) (dkP d o us p) where
  go := fun m S H i v s h e => by
    obtain ⟨kvs, hs, q⟩ := dkP_at s h
    obtain ⟨_, _, _, h3, _⟩ := dk_go q (uDct_at hs e)
    exact ⟨h.2, lt_of_some h3⟩
  yld := fun m S H i v x H' s h e y => by
    obtain ⟨rfl, k, h1⟩ := y
    obtain ⟨kvs, hs, q⟩ := dkP_at s h
    obtain ⟨kv, ku, _, h3, h4, _, h6⟩ := dk_go q (uDct_at hs e)
    rw [h1] at h3
    cases h3
    exact ⟨m, .refl, s, by rw [← h4]; exact h6⟩
  stop := fun m S H i s h e => by
    obtain ⟨kvs, hs, q⟩ := dkP_at s h
    exact ⟨h.2, dk_len q (uDct_at hs e)⟩
  keep := dkP_keep
  keepD := dkP_keepD
theorem tk_items {K : PySem.W.Frag} {d : Addr} {o : Obj} {us : List (Key × V)} {p : Nat} : Tk K G (uItems p) (Iti d o us) (dkP d o us p) where
  go := fun m S H i v s h e => by
    obtain ⟨kvs, hs, q⟩ := dkP_at s h
    obtain ⟨_, _, _, h3, _⟩ := dk_go q (uDct_at hs e)
    exact ⟨h.2, lt_of_some h3⟩
  yld := fun m S H i v x H' s h e y => by
    obtain ⟨T, k, z, h1, rfl, hT, rfl⟩ := y
    obtain ⟨kvs, hs, q⟩ := dkP_at s h
    obtain ⟨kv, ku, _, h3, h4, h5, h6⟩ := dk_go q (uDct_at hs e)
    rw [h1] at h3
    cases h3
    obtain ⟨s2, x2⟩ := s.newTup (vs := [kV k, z]) hT
    exact ⟨m, x2, s2, by rw [← h4]; exact .tup upd_same (.cons (kA_relR h5) (.cons (h6.mono s x2) .nil))⟩
  stop := fun m S H i s h e => by
    obtain ⟨kvs, hs, q⟩ := dkP_at s h
    exact ⟨h.2, dk_len q (uDct_at hs e)⟩
  keep := dkP_keep
  keepD := dkP_keepD
/-- .. of tuple keys -/
def dtP (K : PySem.W.Frag) (G : Str → Addr) (d : Addr) (o : Obj) (us : List (List Key × V)) (p : Nat) : Mp → Sto → Hp → Prop := fun m _ H => m[p]? = some (d, d) ∧ H d = some (.frz o (.dT us))
theorem dtP_at {K : PySem.W.Frag} {m : Mp} {S : Sto} {H : Hp} {d : Addr} {o : Obj} {us : List (List Key × V)} {p : Nat} (s : SM K G m S H) (h : dtP K G d o us p m S H) : ∃ kvs, S[p]? = some (.dct true kvs) ∧ PrT K G m H kvs us := by
  obtain ⟨hi, g⟩ := h
  have hl : p < S.length := by rw [← s.len]; exact (List.getElem?_eq_some_iff.mp hi).1
  have e := List.getElem?_eq_getElem hl
  have r := s.obj _ _ _ _ hi e
  generalize S[p] = ob at e r
  cases r with
  | dtR _ g2 q _ =>
    rw [g] at g2
    cases g2
    exact ⟨_, e, q⟩
  | lst _ g2 _ => rw [g] at g2; cases g2
  | lstR _ g2 _ => rcases g2 with g2 | ⟨_, g2⟩ <;> (rw [g] at g2; cases g2)
  | dk _ g2 _ => rw [g] at g2; cases g2
  | dt _ g2 _ => rw [g] at g2; cases g2
  | dkR _ g2 _ => rw [g] at g2; cases g2
theorem tk_keysT {K : PySem.W.Frag} {d : Addr} {o : Obj} {us : List (List Key × V)} {p : Nat} : Tk K G (uKeys p) (Itkt d o us) (dtP K G d o us p) where
  go := fun m S H i v s h e => by
    obtain ⟨kvs, hs, q⟩ := dtP_at s h
    obtain ⟨kv, h1, _⟩ := Option.map_eq_some_iff.mp (uDct_at hs e)
    obtain ⟨ku, h3, _⟩ := pr_at q h1
    exact ⟨h.2, lt_of_some h3⟩
  yld := fun m S H i v x H' s h e y => by
    obtain ⟨rfl, k, z, b, h1, rfl, hb⟩ := y
    obtain ⟨kvs, hs, q⟩ := dtP_at s h
    obtain ⟨kv, h0, h4⟩ := Option.map_eq_some_iff.mp (uDct_at hs e)
    obtain ⟨ku, h3, h5⟩ := pr_at q h0
    rw [h1] at h3
    cases h3
    exact ⟨m, .refl, s, by rw [← h4]; exact kT_relR h5.1 hb⟩
  stop := fun m S H i s h e => by
    obtain ⟨kvs, hs, q⟩ := dtP_at s h
    exact ⟨h.2, by rw [← paired_len q]; exact List.getElem?_eq_none_iff.mp (Option.map_eq_none_iff.mp (uDct_at hs e))⟩
  keep := fun m S H m' S' H' s ⟨h1, h2⟩ ex s' => ⟨pre_get ex.pre h1, ex.frz _ _ _ h2⟩
  keepD := fun m S H q ys zs ⟨h1, h2⟩ nf hq => ⟨h1, by
    have : d ≠ q := fun z => by subst z; rw [h2] at hq; cases hq
    rw [upd_ne this]; exact h2⟩
/-- for x in d -/
theorem si_dict {tg : Expr} (ha : SE X G W a fa) : SI X G W tg a (iDct true uKeys fa) :=
  pi_imp (pi_keys ha) fun σ H R ⟨m, r, S, s, re, p⟩ => by
    unfold iDct at p
    refine ⟨m, r, S, s, re, PostI.bind p fun m1 H1 v S1 x e1 s1 rv p1 => ?_⟩
    split at p1
    · cases rv with
      | ref hi =>
        split at p1
        · next kvs h1 =>
          split at p1
          · cases s1.obj _ _ _ _ hi h1 with
            | dkR e g q => subst e; exact ⟨_, _, rfl, .inl ⟨_, g, p1.ok s1 tk_keys ⟨hi, g⟩⟩⟩
            | dtR e g q _ => subst e; exact ⟨_, _, rfl, .inr ⟨_, g, p1.ok s1 tk_keysT ⟨hi, g⟩⟩⟩
          · exact p1.elim
        · exact p1.elim
    · exact p1.elim
theorem dk_of_plain {K : PySem.W.Frag} {m : Mp} {S : Sto} {H : Hp} {p : Nat} {q d : Addr} {kvs : List (AV × AV)} (s : SM K G m S H) (hi : m[p]? = some (q, d)) (h : S[p]? = some (.dct true kvs)) (hk : (kvs.all fun p => !isTK p.1) = true) :
    d = q ∧ ∃ o us, H q = some (.frz o (.dK us)) ∧ PrA K G m H kvs us := by
  cases s.obj _ _ _ _ hi h with
  | dkR e g q => exact ⟨e, _, _, g, q⟩
  | dtR e g q nn =>
    cases q with
    | nil => exact absurd rfl nn
    | cons h0 t =>
      rw [List.all_cons, Bool.and_eq_true, kT_T h0.1] at hk
      exact absurd hk.1 (by decide)
theorem si_values {tg : Expr} {apos cpos : Pos} (ha : SE X G W a fa) (hbase : attributeBase a "values" X.env (eval a X.env) = eval a X.env := by rfl) (hline : (apos.endLine == cpos.line) = true := by rfl) :
    SI X G W tg (.Call (.Attribute a "values" apos) [] [] cpos) (iDct false uVals fa) :=
  pi_imp (pi_values ha hbase hline) fun σ H R ⟨m, r, S, s, re, p⟩ => by
    unfold iDct at p
    refine ⟨m, r, S, s, re, PostI.bind p fun m1 H1 v S1 x e1 s1 rv p1 => ?_⟩
    split at p1
    · cases rv with
      | ref hi =>
        split at p1
        · next kvs h1 =>
          split at p1
          · next hk =>
            rw [Bool.false_or] at hk
            obtain ⟨e, o, us, g, q⟩ := dk_of_plain s1 hi h1 hk
            subst e
            exact ⟨_, _, _, rfl, g, p1.ok s1 tk_vals ⟨hi, g⟩⟩
          · exact p1.elim
        · exact p1.elim
    · exact p1.elim
theorem si_items {elts : List Expr} {kk : Nat} {tpos apos cpos : Pos} (ha : SE X G W a fa) (hbase : attributeBase a "items" X.env (eval a X.env) = eval a X.env := by rfl) (hline : (apos.endLine == cpos.line) = true := by rfl) :
    SI X G W (.Tuple elts kk tpos) (.Call (.Attribute a "items" apos) [] [] cpos) (iDct false uItems fa) :=
  pi_imp (pi_items ha hbase hline) fun σ H R ⟨m, r, S, s, re, p⟩ => by
    unfold iDct at p
    refine ⟨m, r, S, s, re, PostI.bind p fun m1 H1 v S1 x e1 s1 rv p1 => ?_⟩
    split at p1
    · cases rv with
      | ref hi =>
        split at p1
        · next kvs h1 =>
          split at p1
          · next hk =>
            rw [Bool.false_or] at hk
            obtain ⟨e, o, us, g, q⟩ := dk_of_plain s1 hi h1 hk
            subst e
            exact ⟨_, _, _, rfl, g, p1.ok s1 tk_items ⟨hi, g⟩⟩
          · exact p1.elim
        · exact p1.elim
    · exact p1.elim
end
end Mc
end
section
set_option Elab.async false
set_option linter.all false
set_option maxRecDepth 100000
set_option maxHeartbeats 1000000
/-! M14: enumerate over lists and tuples, from any number. -/
namespace Mc
open PySem PySem.Spec PyProof.Rows L2
/-- the items of a sequence in new pairs with their numbers -/
def IeQ (Sq : Hp → List V → Prop) (k : Int) : It :=
  ⟨fun i H => ∃ (xs : List V) (x : V), Sq H xs ∧ xs[i]? = some x, fun i H v H' => ∃ T x, v = .ref T ∧ H T = none ∧ H' = upd H T (.tup [.int (k + (i : Int)), x]) ∧ ∀ xs, Sq H xs → xs[i]? = some x, fun i H => ∃ xs : List V, Sq H xs ∧ xs.length ≤ i⟩
section
variable {prog : Program} {w : World} {A : Around} {E : Value → Shared → Prop} {s : Shared}
/-- the end of an enumerate whose own walk has ended -/
theorem en_endG {e it : Addr} {k : Int} {old : Value} {Q : Option Value → Shared → Prop} (he : IsEnum s.heap e it k old)
    (hend : ∀ (Q : Value → Shared → Prop) (E : Value → Shared → Prop), (∀ h' e, Heap.ExtBut it s.heap h' → (∃ o, h'.get? e = some o ∧ o.cls = .type "StopIteration") → E (.ref e) { s with heap := h' }) → wpAny (model prog w) A.in1 (Builtin.SmallTypes.nextOf (.ref it)) Q E s)
    (hQ : ∀ h', Heap.ExtBut it s.heap h' → Q none { s with heap := h' }) : wpAny (model prog w) A (pyNext (.ref e)) Q E s := by
  have ty : s.TypeIs (.ref e) "enumerate" := ⟨_, he, rfl⟩
  unfold pyNext
  refine wpAny_bind (wpAny_attempt (wpAny_callSpecial?_slot (name := Str.ofString "__next__") ty F.slot_enumerate_next (wpAny_call_entry F.slot_enumerate_next ty F.entry_enumerate_next ?_ (F.args_enumerate_next_1 _))))
  show wpAny _ _ (field (.ref e) 2 >>= _) _ _ _
  refine wpAny_bind (wpAny_field he rfl (x := .ref it) rfl ?_)
  refine wpAny_bind (hend _ _ fun h' x he' ⟨o, ho, hc⟩ => ?_)
  exact wpAny_bind (wpAny_isInstance (T := "StopIteration") (b := true) ⟨o, ho, hc⟩ isSubtype_stop (wpAny_pure (hQ _ he')))
theorem en_endL {e it l : Addr} {i : Nat} {k : Int} {items : Array Value} {old : Value} {Q : Option Value → Shared → Prop} (hh : A.handled = none) (he : IsEnum s.heap e it k old) (hit : s.heap.IsListIter it l i) (hne : l ≠ it) (hl : PlainL s.heap l items) (hx : items.size ≤ i)
    (hQ : ∀ h', Heap.ExtBut it s.heap h' → Q none { s with heap := h' }) : wpAny (model prog w) A (pyNext (.ref e)) Q E s :=
  en_endG he (fun Q E h => wpAny_nextOf_list_end (A := A.in1) hh hit hl.isList (Array.getElem?_eq_none hx) h) hQ
theorem en_endT {e it l : Addr} {i : Nat} {k : Int} {items : Array Value} {old : Value} {Q : Option Value → Shared → Prop} (hh : A.handled = none) (he : IsEnum s.heap e it k old) (hit : s.heap.IsTupleIter it l i) (hne : l ≠ it) (hl : IsTup s.heap l items) (hx : items.size ≤ i)
    (hQ : ∀ h', Heap.ExtBut it s.heap h' → Q none { s with heap := h' }) : wpAny (model prog w) A (pyNext (.ref e)) Q E s :=
  en_endG he (fun Q E h => wpAny_nextOf_tuple_end (A := A.in1) hh hit hl (Array.getElem?_eq_none hx) h) hQ
end

theorem turn_enQL {P : Program} {w : World} {K : PySem.W.Frag} {elts : List Expr} {kk : Nat} {tpos : Pos} (k : Int) (a e it : Addr) :
    Turn P w K (.Tuple elts kk tpos) (IeQ (fun H xs => SqL K H a xs) k) [e, it] e (fun i h => (∃ old, IsEnum h e it (k + ((i : Nat) : Int)) old) ∧ h.IsListIter it a i ∧ e ≠ it) where
  mem := List.mem_cons_self
  obj := fun i h ⟨⟨old, he⟩, ⟨o, ho, _, hd⟩, _⟩ b hb => by
    rcases List.mem_cons.mp hb with z | z
    · subst z; exact ⟨_, he, fun v q => nomatch q⟩
    · rw [List.mem_singleton.mp z]; exact ⟨o, ho, fun v q => by rw [hd] at q; cases q⟩
  keep := fun i h h' ⟨⟨old, he⟩, hi, hne⟩ ks => ⟨⟨old, ks e List.mem_cons_self _ he⟩, hi.at fun o q => ks it (List.mem_cons_of_mem _ (List.mem_singleton.mpr rfl)) o q, hne⟩
  item := by
    intro X hP hw hK hc i pins s σ H E I hf ⟨⟨old, he⟩, hit, hne⟩ ⟨xs, x, hq, hx⟩
    subst hP hw hK
    obtain ⟨its, rv, p, hz⟩ := I.list hq
    obtain ⟨u, hu, ru⟩ := rv.get hx
    have hel : e < s.heap.objs.size := Heap.lt_size he
    have hil : it < s.heap.objs.size := by obtain ⟨_, q, _⟩ := hit; exact Heap.lt_size q
    have hea : a ≠ it := fun z => by
      subst z
      obtain ⟨o1, h1, c1, _⟩ := hit
      obtain ⟨o2, h2, c2, _⟩ := p.isList
      rw [h1] at h2
      cases h2
      rw [c1] at c2
      exact absurd (Value.type.inj c2) (by decide)
    have hea2 : e ∉ [it, a] := fun z => by
      rcases List.mem_cons.mp z with z | z
      · exact hne z
      · have z := List.mem_singleton.mp z
        subst z
        obtain ⟨o2, h2, c2, _⟩ := p.isList
        rw [he] at h2
        cases h2
        exact absurd (Value.type.inj c2) (by decide)
    have hlt : i < its.toArray.size := by rw [List.size_toArray]; exact (List.getElem?_eq_some_iff.mp hu).1
    refine PySem.wpAny_pyNext_enum_itemC (Draws.list (prog := X.prog) (w := X.w) (A := X.A.in1) (I.ok.hd hc) it a hea its.toArray) he ⟨hit, p.isList⟩ hlt hne hea2 fun x' h' tk hP' ho hit' hT hsz hk => ?_
    have hxu : x' = u := by
      have h1 : its.toArray[i]? = some x' := hP'
      rw [List.getElem?_toArray, hu] at h1
      exact (Option.some.inj h1).symm
    subst hxu
    refine ⟨_, rfl, wpAny_letOwnedTupleGo_enum (s := { s with heap := h', toks := tk + 1 }) ho fun h2 he' sb => ?_⟩
    have hT2 : h2.get? s.heap.objs.size = some { cls := .type "tuple", data := .seq #[.int (k + (i : Int)) tk, x'] } := (sb.2 _ (Nat.ne_of_gt hel)).trans hT
    have new : ObjOk X.prog X.w (upd H s.heap.objs.size (.tup [.int (k + (i : Int)), x])) h2 s.heap.objs.size (.tup [.int (k + (i : Int)), x]) :=
      ⟨by show 2 ≤ sizeLine; decide, [.int (k + (i : Int)) tk, x'], .cons ⟨_, rfl⟩ (.cons ru .nil), ⟨_, hT2, rfl, _, rfl⟩⟩
    have I1 : Inv X pins σ (upd H s.heap.objs.size (.tup [.int (k + (i : Int)), x])) { s with heap := h2, toks := tk + 1 } :=
      I.turnedNew (ch := [e, it]) (fun b ob hb q => (sb.2 b (fun z => hb (z ▸ List.mem_cons_self))).trans (hk b ob (fun z => hb (z ▸ List.mem_cons_self)) (fun z => hb (z ▸ List.mem_cons_of_mem _ (List.mem_singleton.mpr rfl))) q)) hf (Nat.le_refl _) new
    refine ⟨.ref s.heap.objs.size, _, I1, rfl, ⟨_, x, rfl, I.hok.fresh (Nat.le_refl _), rfl, fun ys hy => by rw [I.list_inj hy hq]; exact hx⟩, ⟨⟨x', ?_⟩, hit'.1.at fun o q => (sb.2 it (Ne.symm hne)).trans q, hne⟩, fun b hb => ?_⟩
    · have e1 : k + ((i + 1 : Nat) : Int) = k + (i : Int) + 1 := by omega
      rw [e1]; exact he'
    · have hb' : b < s.heap.objs.size := by
        rcases List.mem_cons.mp hb with z | z
        · rw [z]; exact hel
        · rw [List.mem_singleton.mp z]; exact hil
      rw [upd_ne (Nat.ne_of_lt hb')]
      exact (hf b hb).1
  done := by
    intro X hP hw hK hc i pins s σ H E I hf ⟨⟨old, he⟩, hit, hne⟩ ⟨xs, hq, hx⟩
    subst hP hw hK
    obtain ⟨its, rv, p, hz⟩ := I.list hq
    have hea : a ≠ it := fun z => by
      subst z
      obtain ⟨o1, h1, c1, _⟩ := hit
      obtain ⟨o2, h2, c2, _⟩ := p.isList
      rw [h1] at h2
      cases h2
      rw [c1] at c2
      exact absurd (Value.type.inj c2) (by decide)
    have hl := rv.length
    obtain ⟨f0, f1, f2, f3, f4, f5⟩ := hf it (List.mem_cons_of_mem _ (List.mem_singleton.mpr rfl))
    refine en_endL (I.ok.hd hc) he hit hea p (by rw [List.size_toArray]; omega) fun h' eb => ⟨rfl, I.turned (t' := s.toks) (fun b o hb q => eb b o hb q) f0 f1 f3 f4 f5⟩
  self := fun A i s Q E ⟨⟨_, he⟩, _⟩ h => wpAny_pyIter_enum he h

theorem turn_enQT {P : Program} {w : World} {K : PySem.W.Frag} {elts : List Expr} {kk : Nat} {tpos : Pos} (k : Int) (a e it : Addr) :
    Turn P w K (.Tuple elts kk tpos) (IeQ (fun H xs => SqT K H a xs) k) [e, it] e (fun i h => (∃ old, IsEnum h e it (k + ((i : Nat) : Int)) old) ∧ h.IsTupleIter it a i ∧ e ≠ it) where
  mem := List.mem_cons_self
  obj := fun i h ⟨⟨old, he⟩, ⟨o, ho, _, hd⟩, _⟩ b hb => by
    rcases List.mem_cons.mp hb with z | z
    · subst z; exact ⟨_, he, fun v q => nomatch q⟩
    · rw [List.mem_singleton.mp z]; exact ⟨o, ho, fun v q => by rw [hd] at q; cases q⟩
  keep := fun i h h' ⟨⟨old, he⟩, hi, hne⟩ ks => ⟨⟨old, ks e List.mem_cons_self _ he⟩, hi.at fun o q => ks it (List.mem_cons_of_mem _ (List.mem_singleton.mpr rfl)) o q, hne⟩
  item := by
    intro X hP hw hK hc i pins s σ H E I hf ⟨⟨old, he⟩, hit, hne⟩ ⟨xs, x, hq, hx⟩
    subst hP hw hK
    obtain ⟨its, rv, p, hz⟩ := I.tuple hq
    obtain ⟨u, hu, ru⟩ := rv.get hx
    have hel : e < s.heap.objs.size := Heap.lt_size he
    have hil : it < s.heap.objs.size := by obtain ⟨_, q, _⟩ := hit; exact Heap.lt_size q
    have hea : a ≠ it := fun z => by
      subst z
      obtain ⟨o1, h1, c1, _⟩ := hit
      obtain ⟨o2, h2, c2, _⟩ := p
      rw [h1] at h2
      cases h2
      rw [c1] at c2
      exact absurd (Value.type.inj c2) (by decide)
    have hea2 : e ∉ [it, a] := fun z => by
      rcases List.mem_cons.mp z with z | z
      · exact hne z
      · have z := List.mem_singleton.mp z
        subst z
        obtain ⟨o2, h2, c2, _⟩ := p
        rw [he] at h2
        cases h2
        exact absurd (Value.type.inj c2) (by decide)
    have hlt : i < its.toArray.size := by rw [List.size_toArray]; exact (List.getElem?_eq_some_iff.mp hu).1
    refine PySem.wpAny_pyNext_enum_itemC (Draws.tuple (prog := X.prog) (w := X.w) (A := X.A.in1) (I.ok.hd hc) it a hea its.toArray) he ⟨hit, p⟩ hlt hne hea2 fun x' h' tk hP' ho hit' hT hsz hk => ?_
    have hxu : x' = u := by
      have h1 : its.toArray[i]? = some x' := hP'
      rw [List.getElem?_toArray, hu] at h1
      exact (Option.some.inj h1).symm
    subst hxu
    refine ⟨_, rfl, wpAny_letOwnedTupleGo_enum (s := { s with heap := h', toks := tk + 1 }) ho fun h2 he' sb => ?_⟩
    have hT2 : h2.get? s.heap.objs.size = some { cls := .type "tuple", data := .seq #[.int (k + (i : Int)) tk, x'] } := (sb.2 _ (Nat.ne_of_gt hel)).trans hT
    have new : ObjOk X.prog X.w (upd H s.heap.objs.size (.tup [.int (k + (i : Int)), x])) h2 s.heap.objs.size (.tup [.int (k + (i : Int)), x]) :=
      ⟨by show 2 ≤ sizeLine; decide, [.int (k + (i : Int)) tk, x'], .cons ⟨_, rfl⟩ (.cons ru .nil), ⟨_, hT2, rfl, _, rfl⟩⟩
    have I1 : Inv X pins σ (upd H s.heap.objs.size (.tup [.int (k + (i : Int)), x])) { s with heap := h2, toks := tk + 1 } :=
      I.turnedNew (ch := [e, it]) (fun b ob hb q => (sb.2 b (fun z => hb (z ▸ List.mem_cons_self))).trans (hk b ob (fun z => hb (z ▸ List.mem_cons_self)) (fun z => hb (z ▸ List.mem_cons_of_mem _ (List.mem_singleton.mpr rfl))) q)) hf (Nat.le_refl _) new
    refine ⟨.ref s.heap.objs.size, _, I1, rfl, ⟨_, x, rfl, I.hok.fresh (Nat.le_refl _), rfl, fun ys hy => by rw [I.tuple_inj hy hq]; exact hx⟩, ⟨⟨x', ?_⟩, hit'.1.at fun o q => (sb.2 it (Ne.symm hne)).trans q, hne⟩, fun b hb => ?_⟩
    · have e1 : k + ((i + 1 : Nat) : Int) = k + (i : Int) + 1 := by omega
      rw [e1]; exact he'
    · have hb' : b < s.heap.objs.size := by
        rcases List.mem_cons.mp hb with z | z
        · rw [z]; exact hel
        · rw [List.mem_singleton.mp z]; exact hil
      rw [upd_ne (Nat.ne_of_lt hb')]
      exact (hf b hb).1
  done := by
    intro X hP hw hK hc i pins s σ H E I hf ⟨⟨old, he⟩, hit, hne⟩ ⟨xs, hq, hx⟩
    subst hP hw hK
    obtain ⟨its, rv, p, hz⟩ := I.tuple hq
    have hea : a ≠ it := fun z => by
      subst z
      obtain ⟨o1, h1, c1, _⟩ := hit
      obtain ⟨o2, h2, c2, _⟩ := p
      rw [h1] at h2
      cases h2
      rw [c1] at c2
      exact absurd (Value.type.inj c2) (by decide)
    have hl := rv.length
    obtain ⟨f0, f1, f2, f3, f4, f5⟩ := hf it (List.mem_cons_of_mem _ (List.mem_singleton.mpr rfl))
    refine en_endT (I.ok.hd hc) he hit hea p (by rw [List.size_toArray]; omega) fun h' eb => ⟨rfl, I.turned (t' := s.toks) (fun b o hb q => eb b o hb q) f0 f1 f3 f4 f5⟩
  self := fun A i s Q E ⟨⟨_, he⟩, _⟩ h => wpAny_pyIter_enum he h

/-! ### the calls -/
theorem meets_en1 {v : Value} {o : Obj} {Hh : Heap → Prop} (B : Begins v o Hh) :
    Meets (Builtin.«enumerate.__new__» ⟨[.type "enumerate", v], []⟩) (fun _ R s => Hh s.heap ∧
      R (.ok (.ret (.ref (s.heap.push o).objs.size))) { s with heap := (s.heap.push o).push { cls := .type "enumerate", data := .fields #[.none, .bool false, .ref s.heap.objs.size, rawInt 0, .none, .none] } }) :=
  .of_wp fun prog w A R s h => by
    obtain ⟨hp, g, d, tk, os⟩ := s
    obtain ⟨h1, h⟩ := h
    have hsub := sub_enumerate
    have q1 : ∀ {A' : Around} {E : Value → Shared → Prop} {Q : Value → Shared → Prop}, Q (.ref hp.objs.size) ⟨hp.push o, g, d, tk, os⟩ → wpAny (model prog w) A' (pyIter v) Q E ⟨hp, g, d, tk, os⟩ := fun q => B.iter prog w _ _ ⟨hp, g, d, tk, os⟩ _ h1 q
    wp_walk using q1
    refine wpAny_stack_any fun st => wpAny_pure ?_
    split
    · next c _ _ _ _ _ =>
      cases (c == Value.type "enumerate") <;> (wp_walk using q1; exact ⟨_, rfl, h⟩)
    · wp_walk using q1
      exact ⟨_, rfl, h⟩
section
variable {prog : Program} {w : World} {A : Around} {E : Value → Shared → Prop} {s : Shared}
theorem en_begins1 {v : Value} {o : Obj} {Hh : Heap → Prop} {Q : Value → Shared → Prop} (B : Begins v o Hh) (h1 : Hh s.heap)
    (h : ∀ h', IsEnum h' (s.heap.objs.size + 1) s.heap.objs.size 0 .none → h'.get? s.heap.objs.size = some o → (∀ b o, s.heap.get? b = some o → h'.get? b = some o) → Q (.ref (s.heap.objs.size + 1)) { s with heap := h' }) :
    wpAny (model prog w) A (call (.type "enumerate") [v]) Q E s := by
  refine callType_new F.called_enumerate (by decide) (F.typeCall_enumerate_1 _) (F.newCall_enumerate_1 _) (fun obj => F.args_object_init_2 obj _) F.entry_enumerate_new (meets_en1 B) ⟨h1, ?_⟩
  have hz : (s.heap.push o).objs.size = s.heap.objs.size + 1 := Heap.size_push ..
  show _ ∧ _
  rw [hz]
  have he : IsEnum ((s.heap.push o).push { cls := .type "enumerate", data := .fields #[.none, .bool false, .ref s.heap.objs.size, rawInt 0, .none, .none] }) (s.heap.objs.size + 1) s.heap.objs.size 0 .none := by
    have e := Heap.get?_push_size (s.heap.push o) (o := { cls := .type "enumerate", data := .fields #[.none, .bool false, .ref s.heap.objs.size, rawInt 0, .none, .none] }) rfl
    rw [hz] at e; exact e
  exact ⟨⟨_, he, rfl⟩, h _ he (Heap.get?_push_of_some _ (Heap.get?_push_size _ B.free)) fun b o x => Heap.get?_push_of_some _ (Heap.get?_push_of_some _ x)⟩
end
/-- what an enumerate walks: a list or a tuple -/
def EnR (K : PySem.W.Frag) (R : It → Hp → Prop) (v : V) (k : Int) (H : Hp) : Prop := ∃ a xs, v = .ref a ∧ ((SqL K H a xs ∧ R (IeQ (fun H xs => SqL K H a xs) k) H) ∨ (SqT K H a xs ∧ R (IeQ (fun H xs => SqT K H a xs) k) H))
section
variable {X : Cx} {pins : List (Addr × Obj)} {σ : L2.St} {H : Hp} {s : Shared}
theorem en_come {elts : List Expr} {kk : Nat} {tpos : Pos} {R : It → Hp → Prop} {a : Addr} {xs : List V} {k : Int} {h' : Heap} (I : Inv X pins σ H s) (he : IsEnum h' (s.heap.objs.size + 1) s.heap.objs.size k .none) (hk : ∀ b o, s.heap.get? b = some o → h'.get? b = some o)
    (q : (SqL X.K H a xs ∧ h'.IsListIter s.heap.objs.size a 0 ∧ R (IeQ (fun H xs => SqL X.K H a xs) k) H) ∨ (SqT X.K H a xs ∧ h'.IsTupleIter s.heap.objs.size a 0 ∧ R (IeQ (fun H xs => SqT X.K H a xs) k) H)) :
    wpAny (model X.prog X.w) X.A (pyIter (.ref (s.heap.objs.size + 1))) (PIE X pins σ (.Tuple elts kk tpos) R) X.xe { s with heap := h' } := by
  refine wpAny_pyIter_enum he ?_
  have I2 : Inv X pins σ H { s with heap := h' } := I.kept (t' := s.toks) hk
  have fp : ∀ b, b ∈ [s.heap.objs.size + 1, s.heap.objs.size] → FpOk X pins H b := fun b hb => by
    have hle : s.heap.objs.size ≤ b := by
      rcases List.mem_cons.mp hb with z | z
      · rw [z]; exact Nat.le_add_right _ _
      · rw [List.mem_singleton.mp z]; exact Nat.le_refl _
    exact I.fpOk hle (I.hok.fresh hle)
  have he0 : IsEnum h' (s.heap.objs.size + 1) s.heap.objs.size (k + ((0 : Nat) : Int)) .none := by
    rw [show k + ((0 : Nat) : Int) = k by omega]
    exact he
  rcases q with ⟨hq, hit, q⟩ | ⟨hq, hit, q⟩
  · exact ⟨_, _, _, _, H, rfl, I2, turn_enQL k a (s.heap.objs.size + 1) s.heap.objs.size, ⟨⟨.none, he0⟩, hit, Nat.succ_ne_self _⟩, fp, q⟩
  · exact ⟨_, _, _, _, H, rfl, I2, turn_enQT k a (s.heap.objs.size + 1) s.heap.objs.size, ⟨⟨.none, he0⟩, hit, Nat.succ_ne_self _⟩, fp, q⟩
end
section
variable {X : Cx} {G : Str → Addr} {W : WX} {pos : Pos} {k : Nat} {a b c d e : Expr} {fa fb fc fd : DE} {p pos tpos : Pos} {elts : List Expr} {kk : Nat} {t : DA}
theorem pi_en1 {ta : TA} (hg : Gl X "enumerate") (hm : X.mg "enumerate" = none) (ha : PA X [e] ta) (hs : starEach [e] X.env = (false, eval e X.env) :: starEach [] X.env) :
    PI X (.Tuple elts kk tpos) (.Call (.Name "enumerate" p) [e] [] pos) (fun σ H R => ta σ H fun vs H1 => ∃ v, vs = [v] ∧ EnR X.K R v 0 H1) := by
  refine ⟨fun pins s σ H R I h => ?_⟩
  refine Call_ (ld_blt I hg hm boot_enumerate (PyProof.Rows.callWith_type1 (thn (ha.run pos pins s σ H _ I h) fun us s1 ⟨vs, H1, I1, r1, q1⟩ => ?_) hs rfl))
  obtain ⟨v, ev, a0, xs, ex, q⟩ := q1
  subst ev ex
  obtain rfl := Vals.ref1 r1
  rcases q with ⟨hq, q⟩ | ⟨hq, q⟩
  · obtain ⟨its, rv, pl, hz⟩ := I1.list hq
    exact en_begins1 (begins_list a0 its.toArray) pl.isList fun h' he hit hk => en_come I1 he hk (.inl ⟨hq, ⟨_, hit, rfl, rfl⟩, q⟩)
  · obtain ⟨its, rv, pl, hz⟩ := I1.tuple hq
    exact en_begins1 (begins_tuple a0 its.toArray) pl fun h' he hit hk => en_come I1 he hk (.inr ⟨hq, ⟨_, hit, rfl, rfl⟩, q⟩)
theorem pi_en2 {ta : TA} (hg : Gl X "enumerate") (hm : X.mg "enumerate" = none) (ha : PA X [e, b] ta) (hs : starEach [e, b] X.env = (false, eval e X.env) :: starEach [b] X.env) (hpl : (backTo pos (starEach [b] X.env)).any (·.1) = false) :
    PI X (.Tuple elts kk tpos) (.Call (.Name "enumerate" p) [e, b] [] pos) (fun σ H R => ta σ H fun vs H1 => ∃ v i, vs = [v, .int i] ∧ -(2 ^ 63) ≤ i ∧ i < 2 ^ 63 ∧ EnR X.K R v i H1) := by
  refine ⟨fun pins s σ H R I h => ?_⟩
  refine Call_ (ld_blt I hg hm boot_enumerate (PyProof.Rows.callWith_type1 (thn (ha.run pos pins s σ H _ I h) fun us s1 ⟨vs, H1, I1, r1, q1⟩ => ?_) hs hpl))
  obtain ⟨v, i, ev, l1, l2, a0, xs, ex, q⟩ := q1
  subst ev ex
  obtain ⟨u1, u2, rfl, e1, e2⟩ := vals2 r1
  obtain rfl : u1 = Value.ref a0 := e1
  obtain ⟨tk, rfl⟩ := e2
  rcases q with ⟨hq, q⟩ | ⟨hq, q⟩
  · obtain ⟨its, rv, pl, hz⟩ := I1.list hq
    exact enum_begins (begins_list a0 its.toArray) pl.isList l1 l2 fun h' he hit _ hk => en_come I1 he hk (.inl ⟨hq, ⟨_, hit, rfl, rfl⟩, q⟩)
  · obtain ⟨its, rv, pl, hz⟩ := I1.tuple hq
    exact enum_begins (begins_tuple a0 its.toArray) pl l1 l2 fun h' he hit _ hk => en_come I1 he hk (.inr ⟨hq, ⟨_, hit, rfl, rfl⟩, q⟩)
theorem tk_enF {K : PySem.W.Frag} {q : Addr} {xs : List AV} {vs : List V} {k : Int} : Tk K G (uEnF k xs) (IeQ (fun H xs => SqT K H q xs) k) (fun m S H => H q = some (.tup vs) ∧ RVs K G m H xs vs) where
  go := fun m S H i v s ⟨h, r⟩ e => by
    obtain ⟨y, hy, _⟩ := Option.map_eq_some_iff.mp (Option.some.inj e)
    obtain ⟨x, hx, _⟩ := r.get hy
    exact ⟨vs, x, .of h, hx⟩
  yld := fun m S H i v x H' s ⟨h, r⟩ e y => by
    obtain ⟨T, z, rfl, hT, rfl, y⟩ := y
    obtain ⟨w, hw, ew⟩ := Option.map_eq_some_iff.mp (Option.some.inj e)
    obtain ⟨u, hu, ru⟩ := r.get hw
    have e2 := y vs (.of h)
    rw [hu] at e2
    have e3 := Option.some.inj e2
    subst e3
    obtain ⟨s2, x2⟩ := s.newTup (vs := [V.int (k + (i : Int)), u]) hT
    exact ⟨m, x2, s2, by rw [← ew]; exact .tup upd_same (.cons (.int _) (.cons (ru.mono s x2) .nil))⟩
  stop := fun m S H i s ⟨h, r⟩ e => ⟨vs, .of h, by rw [← r.length]; exact List.getElem?_eq_none_iff.mp (Option.map_eq_none_iff.mp (Option.some.inj e))⟩
  keep := fun m S H m' S' H' s ⟨h, r⟩ ex s' => ⟨ex.keep _ _ h (s.tup_not (.inl h)), r.mono s ex⟩
  keepD := fun m S H p ys zs ⟨h, r⟩ _ hd => by
    have kT : ∀ (a : Addr) (vs : List V), H a = some (.tup vs) → upd H p (.lst zs) a = some (.tup vs) := fun a vs e => by
      have : a ≠ p := fun z => by subst z; rw [hd] at e; cases e
      rw [upd_ne this]; exact e
    exact ⟨kT _ _ h, r.keepT kT⟩
theorem tk_enL {K : PySem.W.Frag} {p : Nat} {q d : Addr} {k : Int} : Tk K G (uEnL k p) (IeQ (fun H xs => SqL K H q xs) k) (fun m S H => m[p]? = some (q, d)) where
  go := fun m S H i v s h e => by
    unfold uEnL at e
    split at e
    · next lk xs hs =>
      obtain ⟨y, hy, _⟩ := Option.map_eq_some_iff.mp (Option.some.inj e)
      obtain ⟨vs, sq, r⟩ := lst_at s h hs
      obtain ⟨x, hx, _⟩ := r.get hy
      exact ⟨_, x, sq, hx⟩
    · cases e
  yld := fun m S H i v x H' s h e y => by
    obtain ⟨T, z, rfl, hT, rfl, y⟩ := y
    unfold uEnL at e
    split at e
    · next lk xs hs =>
      obtain ⟨w, hw, ew⟩ := Option.map_eq_some_iff.mp (Option.some.inj e)
      obtain ⟨vs, sq, r⟩ := lst_at s h hs
      obtain ⟨u, hu, ru⟩ := r.get hw
      have e2 := y vs sq
      rw [hu] at e2
      have e3 := Option.some.inj e2
      subst e3
      obtain ⟨s2, x2⟩ := s.newTup (vs := [V.int (k + (i : Int)), u]) hT
      exact ⟨m, x2, s2, by rw [← ew]; exact .tup upd_same (.cons (.int _) (.cons (ru.mono s x2) .nil))⟩
    · cases e
  stop := fun m S H i s h e => by
    unfold uEnL at e
    split at e
    · next lk xs hs =>
      obtain ⟨vs, sq, r⟩ := lst_at s h hs
      exact ⟨_, sq, by rw [← r.length]; exact List.getElem?_eq_none_iff.mp (Option.map_eq_none_iff.mp (Option.some.inj e))⟩
    · cases e
  keep := fun m S H m' S' H' s h ex s' => pre_get ex.pre h
  keepD := fun _ _ _ _ _ _ h _ _ => h
theorem enOf_ok {K : PySem.W.Frag} {m : Mp} {S : Sto} {H : Hp} {v : AV} {x : V} {k : Int} {σ : L2.St} {R : It → Hp → Prop} (s : SM K G m S H) (rv : RV K G m H v x) (p : PostI K G W σ m H (enOf k v S) R) : EnR K R x k H := by
  unfold enOf at p
  split at p
  · cases rv with
    | tup ha ra => exact ⟨_, _, rfl, .inr ⟨.of ha, p.ok s tk_enF ⟨ha, ra⟩⟩⟩
  · cases rv with
    | ref hi =>
      split at p
      · next h1 =>
        obtain ⟨vs, sq, r⟩ := lst_at s hi h1
        exact ⟨_, _, rfl, .inl ⟨sq, p.ok s tk_enL hi⟩⟩
      · exact p.elim
  · exact p.elim
theorem si_enum1 (ha : SA X G W [e] t) (hm : X.mg "enumerate" = none) (hg : Gl X "enumerate" := by rfl) (hs : starEach [e] X.env = (false, eval e X.env) :: starEach [] X.env := by rfl) :
    SI X G W (.Tuple elts kk tpos) (.Call (.Name "enumerate" p) [e] [] pos) (iEnum1 t) :=
  pi_imp (pi_en1 hg hm ha hs) fun σ H R ⟨m, r, S, s, re, p⟩ => by
    unfold iEnum1 at p
    refine ⟨m, r, S, s, re, PostI.bind p fun m1 H1 v S1 x e1 s1 rv p1 => ?_⟩
    split at p1
    · obtain ⟨y, rfl, ry⟩ := rvs1 rv
      exact ⟨y, rfl, enOf_ok s1 ry p1⟩
    · exact p1.elim
theorem si_enum2 (ha : SA X G W [e, b] t) (hm : X.mg "enumerate" = none) (hg : Gl X "enumerate" := by rfl) (hs : starEach [e, b] X.env = (false, eval e X.env) :: starEach [b] X.env := by rfl) (hpl : (backTo pos (starEach [b] X.env)).any (·.1) = false := by rfl) :
    SI X G W (.Tuple elts kk tpos) (.Call (.Name "enumerate" p) [e, b] [] pos) (iEnum2 t) :=
  pi_imp (pi_en2 hg hm ha hs hpl) fun σ H R ⟨m, r, S, s, re, p⟩ => by
    unfold iEnum2 at p
    refine ⟨m, r, S, s, re, PostI.bind p fun m1 H1 v S1 x e1 s1 rv p1 => ?_⟩
    split at p1
    · obtain ⟨y, z, rfl, ry, rz⟩ := rvs2 rv
      cases rz
      split at p1
      · next h =>
        rw [Bool.and_eq_true, decide_eq_true_eq, decide_eq_true_eq] at h
        exact ⟨y, _, rfl, h.1, h.2, enOf_ok s1 ry p1⟩
      · exact p1.elim
    · exact p1.elim
end
end Mc
end
section
set_option Elab.async false
set_option linter.all false
set_option maxRecDepth 100000
set_option maxHeartbeats 2000000
/-! M15: own exception classes whose __init__ says super().__init__('..') and keeps its argument. -/
namespace Mc
open PySem PySem.Spec PyProof.Rows L2
/-- the two statements of such an __init__ -/
def xiBody (z f pn : Str) (p0 p1 p2 p3 p4 p5 q1 q2 q3 q4 : Pos) (j : Nat) : List Stmt :=
  [.Expr (.Call (.Attribute (.Call (.Name "super" p0) [] [] p1) "__init__" p2) [.Constant (.str z) j p3] [] p4) p5, .Assign [.Attribute (.Name "self" q1) f q2] (.Name pn q3) q4]
/-- what the written part says of the class at C -/
structure XiK (P : Program) (K : PySem.W.Frag) (B newId initId : String) (bmB : List Value) (C fI : Addr) (f : Str) (params : Arguments) (body : List Stmt) (scope : Scope) : Prop where
  cls : ∃ nm q N bs bm sn sub ab col dd k0 k1 k2 k3 k5, K.lookup C = some (excClassObj nm q C N bs bm true sn sub ab col dd k0 k1 k2 k3 k5 newId) ∧ PySem.W.excTail bmB bm = true
  iC : PySem.W.findIn K (.ref C) "__init__" = some (some (.ref fI))
  sa : PySem.W.findIn K (.ref C) "__setattr__" = some (some (.builtin "object.__setattr__"))
  noF : PySem.W.findIn K (.ref C) f = some none
  fn : ∃ oc od qual kV doc pm an ct osl cda cc ccl cdd vs ccs file tf cl cld csl, K.lookup fI = some ⟨oc, od, .func (PySem.W.ksFn "__init__" qual params body scope .none kV doc pm an (.ref cda) ct cc), osl⟩ ∧ PySem.W.codeIn K (.ref cda) qual = true ∧
    K.lookup cda = some ⟨ccl, cdd, .fields vs, ccs⟩ ∧ vs[2]? = some (.str file tf) ∧ ((P.main.file : Str) == file) = true ∧ K.lookup cc = some ⟨cl, cld, .cell (some (.ref C)), csl⟩
  tI : PySem.W.typeIn K (.ref fI) = some (.type "function")
  sup : PySem.W.ks_superIn K C C "__init__" = some (some (.builtin initId))
  subB : PySem.W.subIn K (.ref C) (.type B) = some true
  stt : PySem.W.nsIn K cStatics "thirdparty.any" = some none
  exC : PySem.W.subIn K (.ref C) (.type "BaseException") = some true
  tyC : PySem.W.typeIn K (.ref C) = some (.type "type")
  kC : PySem.W.keepIn K (.ref C) = true
/-- what the text says of the def -/
structure XiT (z f pn : Str) (p0 p1 p2 p3 p4 p5 q1 q2 q3 q4 : Pos) (j : Nat) (params : Arguments) (scope : Scope) : Prop where
  hp : ∃ ar : Arg, (params.posonlyargs ++ params.args).head? = some ar ∧ ar.arg = "self"
  bd : ∀ (qual : Str) (kV doc pm : Value) (an : Option Addr) (cdv ct : Value) (cc : Addr) (u v : Value), bindArgs (PySem.W.ksFn "__init__" qual params (xiBody z f pn p0 p1 p2 p3 p4 p5 q1 q2 q3 q4 j) scope .none kV doc pm an cdv ct cc) ⟨[u, v], []⟩ = pure [(("self" : Str), u), (pn, v)]
  kind : scope.kind = .function
  co : scope.isCoroutine = false
  gen : scope.isGenerator = false
  sup : scope.names.lookup ("super" : Str) = some .globalImplicit
  cl : scope.names.lookup ("__class__" : Str) = some .free
  self : scope.names.lookup ("self" : Str) = some .local
  arg : scope.names.lookup pn = some .local
  cells : ∀ x ∈ scope.names, x.2 ≠ .cell
  ne : (pn == ("self" : Str)) = false
  nd : (pn == ("__debug__" : Str)) = false
  ei : ∀ (qual : Str) (kV doc pm : Value) (an : Option Addr) (cdv ct : Value) (cc L fI : Addr), interactive (callEnv (PySem.W.ksFn "__init__" qual params (xiBody z f pn p0 p1 p2 p3 p4 p5 q1 q2 q3 q4 j) scope .none kV doc pm an cdv ct cc) L fI) = false
  ev : ∀ (qual : Str) (kV doc pm : Value) (an : Option Addr) (cdv ct : Value) (cc L fI : Addr), ∃ pl, (fun env => eval (.Call (.Attribute (.Call (.Name "super" p0) [] [] p1) "__init__" p2) [.Constant (.str z) j p3] [] p4) env = (do
      let ov ← attributeBase (.Call (.Name "super" p0) [] [] p1) "__init__" env (eval (.Call (.Name "super" p0) [] [] p1) env)
      standAt p2.atName
      let (f, first) ← holding [ov] (getMethod ov "__init__" pl)
      callWith p4 f first (backTo p4 (starEach [.Constant (.str z) j p3] env)) [])) (callEnv (PySem.W.ksFn "__init__" qual params (xiBody z f pn p0 p1 p2 p3 p4 p5 q1 q2 q3 q4 j) scope .none kV doc pm an cdv ct cc) L fI)
  sw : ∀ (qual : Str) (kV doc pm : Value) (an : Option Addr) (cdv ct : Value) (cc L fI : Addr), swapsWith (.Name pn q3) (some (.Attribute (.Name "self" q1) f q2)) q4.line (callEnv (PySem.W.ksFn "__init__" qual params (xiBody z f pn p0 p1 p2 p3 p4 p5 q1 q2 q3 q4 j) scope .none kV doc pm an cdv ct cc) L fI) = pure false
  st : ∀ (qual : Str) (kV doc pm : Value) (an : Option Addr) (cdv ct : Value) (cc L fI : Addr), (fun env => backTo p4 (starEach [.Constant (.str z) j p3] env) = [(false, eval (.Constant (.str z) j p3) env)]) (callEnv (PySem.W.ksFn "__init__" qual params (xiBody z f pn p0 p1 p2 p3 p4 p5 q1 q2 q3 q4 j) scope .none kV doc pm an cdv ct cc) L fI)
section
open Builtin Builtin.ObjectAttr
variable {prog : Program} {w : World} {A : Around} {E : Value → Shared → Prop} {R : Result → Shared → Prop} {hp : Heap} {g : Array GenState} {d : Drawn} {t : Nat} {os : OsState}
/-- the first field of an exception -/
theorem xi_osa {K : PySem.W.Frag} {B : String} {bmB : List Value} {name : Str} {tk : Tok} {v : Value} {x C : Addr} {fv : Array Value} {cd : ClassData} (SF : StoreFacts B bmB "object.__setattr__" "object")
    (X : K.In hp) (hx : hp.get? x = some { cls := .ref C, data := .fields fv }) (hcd : PySem.W.clsIn K C = some cd) (hm : PySem.W.excTail bmB cd.mro = true) (hh : cd.hasDict = true) (ha : PySem.W.findIn K (.ref C) name = some none)
    (hq : ∀ h' tk' dx, (∀ b o, b ≠ x → hp.get? b = some o → h'.get? b = some o) → hp.objs.size ≤ dx → dx ≠ x → h'.get? x = some { cls := .ref C, dict := some dx, data := .fields fv } →
      h'.Ns1 dx (fun y => if y = name then some v else none) → R (.ok (.ret .none)) ⟨h', g, d, tk', os⟩) :
    codeAny (model prog w) A (.call (.builtin "object.__setattr__") ⟨[.ref x, .str name tk, v], []⟩) R ⟨hp, g, d, t, os⟩ := by
  have I : PySem.W.InstAt hp x { cls := .ref C, data := .fields fv } C none := ⟨hx, rfl, rfl, trivial⟩
  have hob : cd.mro.contains (.type "object") = true := (PySem.W.excTail_contains "object" _ hm).trans SF.hasOwner
  have ne : cd.mro.isEmpty = false := by
    cases e : cd.mro with
    | nil => rw [e] at hob; cases hob
    | cons _ _ => rfl
  have hxs : x ≠ hp.objs.size := Nat.ne_of_lt (Heap.lt_size hx)
  have sub : PySem.W.Looks (model prog w) hp (isInstance (.ref x) (.type "object")) true := I.type.andThen (PySem.W.looks_mroIn X (by unfold PySem.W.mroIn; rw [hcd, Option.bind_some, if_neg (by rw [ne]; decide), hob]))
  refine codeAny_call_builtin F.store_object.slot.plain F.store_object.entry (@PySem.W.check_slot (model prog w) _ _ ⟨hp, g, d, t, os⟩ "object.__setattr__" "object" "__setattr__" (.ref x) [.str name tk, v] [] _ F.store_object.kind F.store_object.split sub (F.store_object.args (.ref x) (.str name tk) v) ?_)
  have hmr : PySem.W.Looks (model prog w) hp (mroOf (.ref C)) cd.mro := (PySem.W.looks_clsIn X hcd).andThen .now
  have L3 : PySem.W.Looks (model prog w) hp (storeTaker? none) none := .now
  have hcls : PySem.W.Looks (model prog w) hp (classData C) cd := PySem.W.looks_clsIn X hcd
  rw [PySem.W.osa_eq, refuse_eq]
  refine wpAny_bind (wpAny_bind (I.type.at (wpAny_bind (hmr.at ?_))))
  rw [PySem.W.excTail_pass (.ref x) (SF.passes _) _ hm]
  refine wpAny_pure (wpAny_bind (I.type.at (wpAny_bind ((PySem.W.looks_findIn X ha).at (wpAny_bind (L3.at ?_))))))
  show wpAny _ _ (storeInOwnDict (.ref x) (.ref C) (.str name tk) name v false) _ _ _
  obtain ⟨nm, bs, mro, ns, qn, hd, sn, sb, ab, col, del⟩ := cd
  dsimp only at hh
  subst hh
  unfold storeInOwnDict ownDictForStores
  repeat (first | with_reducible refine PySem.HandSPX.store_in_new ?_ ?_ | with_reducible refine wpAny_loadPart_at hx ?_ | with_reducible refine hcls.at ?_ | wp_step)
  · exact ⟨_, #[], _, (Heap.get?_update_ne _ _ _ _ hxs.symm).trans (Heap.get?_push_at rfl rfl), rfl, fun e he => absurd he (by simp), fun _ => rfl⟩
  · intro h' tk' hn' hs
    have hx1 : (hp.push { cls := .type "dict", data := .dict #[] }).get? x = some { cls := .ref C, data := .fields fv } := Heap.get?_push_of_some _ hx
    refine hq h' tk' hp.objs.size (fun b o hb ho => ?_) (Nat.le_refl _) hxs.symm ?_ hn'
    · exact (hs.2 b (Nat.ne_of_lt (Heap.lt_size ho))).trans ((Heap.get?_update_ne _ _ _ _ hb).trans (Heap.get?_push_of_some _ ho))
    · exact (hs.2 x hxs).trans (Heap.get?_update_self _ hx1 rfl)
end
section
open PySem.W PySem.Calls
variable {P : Program} {w : World} {A : Around} {R : Result → Shared → Prop} {s : Shared}
theorem xi_mw {h : Heap} {g : Array GenState} {d : Drawn} {t : Nat} {os : OsState} {E : Value → Shared → Prop} {B newId initId : String} {bmB : List Value} {nm q : Str} {C N u x t0 : Addr} {bs bm : List Value} {sn : List Str} {sub : List Value} {ab : Bool} {col : Option Bool} {dd : Option Addr} {k0 k1 k2 k3 k5 : Option Value} {rest : List Value} {Q : Value → Shared → Prop}
    (FB : ExcBaseFacts B newId initId bmB) (hC : h.get? C = some (excClassObj nm q C N bs bm true sn sub ab col dd k0 k1 k2 k3 k5 newId)) (he : h.get? x = some (PySem.HandSPX.excO C t0)) (hu : h.get? u = some (kxs_mw initId x)) (hz : rest.length ≤ sizeLine)
    (hq : ∀ h', (∀ b o, b ≠ x → h.get? b = some o → h'.get? b = some o) → (∃ t1, h'.get? x = some (PySem.HandSPX.excO C t1)) → h.objs.size ≤ h'.objs.size → Q .none ⟨h', g, d, t, os⟩) :
    wpAny (model P w) A (call (.ref u) rest) Q E ⟨h, g, d, t, os⟩ := by
  refine wpAny_call (codeAny_of_tree ?_)
  show wpAny _ A.in1 (callAny (.ref u) ⟨rest, []⟩) _ _ _
  simp only [callAny]
  refine wpAny_bind (wpAny_load hu ?_)
  simp only [kxs_mw, show (Value.type "method-wrapper" == Value.type "method" || Value.type "method-wrapper" == Value.type "builtin_function_or_method" || Value.type "method-wrapper" == Value.type "method-wrapper") = true by decide, if_true]
  refine KFB.if_so (by decide) ?_
  refine wpAny_bind (check_bound_init FB.toExcCallFacts hC he rfl ?_)
  refine wpAny_bind (wpAny_pure (wpAny_pure ?_))
  refine ⟨plainId_quiet FB.init.plain _, codeAny_builtin FB.initEntry ?_⟩
  refine exc_init_tree (cls := .ref C) (t0 := t0) (dv := none) (c2 := .none) (c3 := .none) (b4 := .bool false) he hz fun h' k e1 e2 => ?_
  exact hq h' k ⟨_, e1⟩ (Nat.le_of_lt (Heap.lt_size e2))
/-- the def, run on the exception at x -/
theorem xi_run {K : PySem.W.Frag} {B newId initId : String} {bmB : List Value} {C fI x t0 : Addr} {f pn z : Str} {params : Arguments} {scope : Scope} {p0 p1 p2 p3 p4 p5 q1 q2 q3 q4 : Pos} {j : Nat} {mg mb : Str → Option Value} {v : Value} {args : Args} {fd : FuncData} {oc : Value} {od : Option Addr} {osl : Array (Option Value)}
    (FB : ExcBaseFacts B newId initId bmB) (SF : StoreFacts B bmB "object.__setattr__" "object") (KF : KxsFacts B initId)
    (T : XiK P K B newId initId bmB C fI f params (xiBody z f pn p0 p1 p2 p3 p4 p5 q1 q2 q3 q4 j) scope) (S : XiT z f pn p0 p1 p2 p3 p4 p5 q1 q2 q3 q4 j params scope)
    (hroom : A.depth < recursionLimit) (lim : s.heap.NoLimit) (X : K.In s.heap) (hg : s.heap.Ns mainGlobals mg) (hm : mg "super" = none) (hb : s.heap.Ns builtinsNs mb) (hbs : mb "super" = some (.type "super")) (htop : (P.main.scope.names.lookup ("super" : Str)).isSome = false)
    (hx : s.heap.get? x = some (PySem.HandSPX.excO C t0)) (hKx : K.lookup x = none) (hl : K.lookup fI = some ⟨oc, od, .func fd, osl⟩) (hbind : BindsTo s fd args [(("self" : Str), .ref x), (pn, v)])
    (h : ∀ h' tk dx t1, (∀ b o, b ≠ x → s.heap.get? b = some o → h'.get? b = some o) → s.heap.objs.size ≤ dx → dx ≠ x → h'.get? x = some { cls := .ref C, dict := some dx, data := .fields #[.ref t1, .none, .none, .none, .bool false, .none] } →
      h'.Ns1 dx (fun y => if y = f then some v else none) → R (.ok (.ret .none)) { s with heap := h', toks := tk }) : codeAny (model P w) A (.call (.ref fI) args) R s := by
  obtain ⟨hh, g, d, t, os⟩ := s
  obtain ⟨oc', od', qual, kV, doc, pm, an, ct, osl', cda, cc, ccl, cdd, vs, ccs, file, tf, cl, cld, csl, e1, hcd, e2, hvs, hfile, e3⟩ := T.fn
  rw [e1] at hl
  cases hl
  obtain ⟨nm, q, N, bs, bm, sn, sub, ab, col, dd, k0, k1, k2, k3, k5, hC, hbm⟩ := T.cls
  have hcl : PySem.W.clsIn K C = some { name := nm, bases := bs, mro := .ref C :: bm, ns := N, qualname := q, hasDict := true, slotNames := sn, subclasses := sub, abstract := ab, collection := col, hasDel := false } := by unfold PySem.W.clsIn; rw [hC] <;> rfl
  have hsubC : PySem.W.mroIn K C (.ref C) = some true := by
    unfold PySem.W.mroIn
    rw [hcl, Option.bind_some, if_neg (show ¬ ((Value.ref C :: bm).isEmpty = true) from Bool.false_ne_true)]
    simp
  have hne : pn ≠ "self" := by
    have := S.ne
    simpa using this
  have hne2 : ((Str.ofString "self") == pn) = false := by simpa using fun z => hne z.symm
  refine ks_codeAny_call_defAt hroom (X _ _ e1) rfl lim (PySem.W.codeRec_of X hcd) rfl hbind S.cells (fun y hy => ?_) (fun h0 hns keep => ?_) S.co S.gen S.kind
  · rcases List.mem_cons.mp hy with z | z
    · rw [z]; exact S.self
    · rw [List.mem_singleton.mp z]; exact S.arg
  have X0 : K.In h0 := X.keeps keep
  have hx0 := keep _ _ hx
  obtain ⟨ar, har, hself⟩ := S.hp
  have hns1 : h0.Ns hh.objs.size (fun y => [((pn : Str), v), (("self" : Str), .ref x)].lookup y) := hns
  have lk1 : ([((pn : Str), v), (("self" : Str), .ref x)] : List (Str × Value)).lookup (Str.ofString "self") = some (Value.ref x) := by simp [List.lookup, hne2]
  have lk2 : ([((pn : Str), v), (("self" : Str), .ref x)] : List (Str × Value)).lookup pn = some v := by simp [List.lookup]
  obtain ⟨pl, hev⟩ := S.ev qual kV doc pm an (.ref cda) ct cc hh.objs.size fI
  have hst := S.st qual kV doc pm an (.ref cda) ct cc hh.objs.size fI
  have hsw := S.sw qual kV doc pm an (.ref cda) ct cc hh.objs.size fI
  have hei := S.ei qual kV doc pm an (.ref cda) ct cc hh.objs.size fI
  have ek : (callEnv (PySem.W.ksFn "__init__" qual params (xiBody z f pn p0 p1 p2 p3 p4 p5 q1 q2 q3 q4 j) scope .none kV doc pm an (.ref cda) ct cc) hh.objs.size fI).scope.kind = .function := S.kind
  have es : (callEnv (PySem.W.ksFn "__init__" qual params (xiBody z f pn p0 p1 p2 p3 p4 p5 q1 q2 q3 q4 j) scope .none kV doc pm an (.ref cda) ct cc) hh.objs.size fI).kindOf "super" = some .globalImplicit := S.sup
  have ec : (callEnv (PySem.W.ksFn "__init__" qual params (xiBody z f pn p0 p1 p2 p3 p4 p5 q1 q2 q3 q4 j) scope .none kV doc pm an (.ref cda) ct cc) hh.objs.size fI).kindOf "__class__" = some .free := S.cl
  have e_self : (callEnv (PySem.W.ksFn "__init__" qual params (xiBody z f pn p0 p1 p2 p3 p4 p5 q1 q2 q3 q4 j) scope .none kV doc pm an (.ref cda) ct cc) hh.objs.size fI).kindOf "self" = some .local := S.self
  have e_arg : (callEnv (PySem.W.ksFn "__init__" qual params (xiBody z f pn p0 p1 p2 p3 p4 p5 q1 q2 q3 q4 j) scope .none kV doc pm an (.ref cda) ct cc) hh.objs.size fI).kindOf pn = some .local := S.arg
  have eL : (callEnv (PySem.W.ksFn "__init__" qual params (xiBody z f pn p0 p1 p2 p3 p4 p5 q1 q2 q3 q4 j) scope .none kV doc pm an (.ref cda) ct cc) hh.objs.size fI).locals = hh.objs.size := rfl
  have eG : (callEnv (PySem.W.ksFn "__init__" qual params (xiBody z f pn p0 p1 p2 p3 p4 p5 q1 q2 q3 q4 j) scope .none kV doc pm an (.ref cda) ct cc) hh.objs.size fI).globals = mainGlobals := rfl
  have eB : (callEnv (PySem.W.ksFn "__init__" qual params (xiBody z f pn p0 p1 p2 p3 p4 p5 q1 q2 q3 q4 j) scope .none kV doc pm an (.ref cda) ct cc) hh.objs.size fI).builtins = builtinsNs := rfl
  have eF : (callEnv (PySem.W.ksFn "__init__" qual params (xiBody z f pn p0 p1 p2 p3 p4 p5 q1 q2 q3 q4 j) scope .none kV doc pm an (.ref cda) ct cc) hh.objs.size fI).func = some fI := rfl
  have eD : (callEnv (PySem.W.ksFn "__init__" qual params (xiBody z f pn p0 p1 p2 p3 p4 p5 q1 q2 q3 q4 j) scope .none kV doc pm an (.ref cda) ct cc) hh.objs.size fI).code = .ref cda := rfl
  have eC : (callEnv (PySem.W.ksFn "__init__" qual params (xiBody z f pn p0 p1 p2 p3 p4 p5 q1 q2 q3 q4 j) scope .none kV doc pm an (.ref cda) ct cc) hh.objs.size fI).cells.lookup (Str.ofString "__class__") = some cc := rfl
  generalize callEnv (PySem.W.ksFn "__init__" qual params (xiBody z f pn p0 p1 p2 p3 p4 p5 q1 q2 q3 q4 j) scope .none kV doc pm an (.ref cda) ct cc) hh.objs.size fI = env at *
  refine ks_wpAt_execs_cons (ks_wpAt_Expr_any (ks_wpAt_MethodCall (pl := pl) ?_ hev) hei)
  refine ks_wpAt_super_base es ec (by decide) eF (X0 _ _ e1) rfl har eD (X0 _ _ e2) rfl hvs hfile htop ?_
  refine PySem.W.ks_loadName_global ek es (loadGlobal_builtin (by rw [eG]; exact hg.keeps keep) hm (by rw [eB]; exact hb.keeps keep) hbs ⟨rfl, ?_⟩)
  refine wpAny_loadName_free ek ec eC ⟨_, X0 _ _ e3, rfl⟩ ?_
  rw [hself]
  refine wpAny_loadName_local ek e_self (by rw [eL]; exact hns1) lk1 ?_
  refine ks_wpAny_isType_cls (X0 _ _ hC) rfl ⟨rfl, ?_⟩
  refine ks_wpAny_call_super (X0 _ _ hC) rfl hx0 rfl (fun c z => by cases z) (looks_mroIn X0 hsubC) fun h1 hso keep1 => ?_
  have X1 : K.In h1 := X0.keeps keep1
  have hx1 := keep1 _ _ hx0
  have I1 : InstAt h1 x (PySem.HandSPX.excO C t0) C none := ⟨hx1, rfl, rfl, trivial⟩
  have hmr : Looks (model P w) h1 (mroOf (.ref C)) (.ref C :: bm) := (looks_clsIn X1 hcl).andThen .now
  have hsup : alongIn K "__init__" (((Value.ref C :: bm).dropWhile (· != .ref C)).drop 1) = some (some (.builtin initId)) := by
    have z := T.sup
    unfold ks_superIn at z
    rw [hcl] at z
    exact z
  refine kxs_getMethod KF hso (looks_opaque X1 T.stt) hmr rfl X1 hsup (I1.type.andThen (looks_subIn X1 T.subB)) (ks_ne X1 I1 hcl) (by decide) ?_
  have keep2 : ∀ b o, h1.get? b = some o → (h1.push (kxs_mw initId x)).get? b = some o := fun b o y => Heap.get?_push_of_some _ y
  show wpAny _ _ (callWith p4 (.ref h1.objs.size) [] (backTo p4 (starEach [.Constant (.str z) j p3] env)) []) _ _ _
  rw [hst]
  refine kxs_callWith (i := initId) (x := x) rfl (evalArgs_plain ?_)
  refine spliced_cons (wpAny_Constant_str (spliced_nil ⟨Heap.get?_push_at rfl rfl, ?_⟩))
  refine xi_mw FB (keep2 _ _ (X1 _ _ hC)) (keep2 _ _ hx1) (Heap.get?_push_at rfl rfl) (by rw [sizeLine_eq]; exact Nat.le_of_ble_eq_true rfl) fun h3 keep3 ⟨t3, hx3⟩ sz3 => ?_
  -- self.f = v
  have nx : ∀ {b : Addr} {o : Obj}, hh.get? b = some o → b ≠ x → h3.get? b = some o := fun e n => keep3 _ _ n (keep2 _ _ (keep1 _ _ (keep _ _ e)))
  have X3 : K.In h3 := fun b o e => keep3 b o (fun z => by rw [z, hKx] at e; cases e) (keep2 _ _ (X1 _ _ e))
  have hxL : hh.objs.size ≠ x := Nat.ne_of_gt (Heap.lt_size hx)
  have hns3 : h3.Ns hh.objs.size (fun y => [((pn : Str), v), (("self" : Str), .ref x)].lookup y) := by
    obtain ⟨oL, es4, ep, hL, r⟩ := hns1
    exact ⟨oL, es4, ep, keep3 _ _ hxL (keep2 _ _ (keep1 _ _ hL)), r⟩
  refine ks_wpAt_execs_cons (ks_wpAt_Assign_Attr (wpAt_of_wpAny ?_) hsw)
  refine wpAny_Name (wpAny_loadName_local ek e_arg (by rw [eL]; exact hns3) lk2 ?_) S.nd
  refine wpAny_Name (wpAny_loadName_local ek e_self (by rw [eL]; exact hns3) lk1 ?_) (by decide)
  refine set_plain X3 (ox := { cls := .ref C, dict := none, data := .fields #[.ref t3, .none, .none, .none, .bool false, .none] }) (od := none) ⟨hx3, rfl, rfl, trivial⟩ T.sa ?_
  refine xi_osa SF X3 hx3 hcl (by
    show excTail bmB (.ref C :: bm) = true
    exact hbm) rfl T.noF fun h4 tk4 dx keep4 le4 ne4 hx4 hns4 => ?_
  have sz1 : hh.objs.size ≤ h1.objs.size := Nat.le_of_lt (Nat.lt_of_lt_of_le (Heap.lt_size (show h0.get? hh.objs.size = _ from hns1.choose_spec.choose_spec.choose_spec.1)) (Nat.le_of_lt (Heap.lt_size hso)))
  have fin := h h4 tk4 dx t3 (fun b o n e => keep4 b o n (nx e n)) (by
    have z1 : h1.objs.size < (h1.push (kxs_mw initId x)).objs.size := by rw [Heap.size_push]; exact Nat.lt_succ_self _
    exact Nat.le_trans sz1 (Nat.le_trans (Nat.le_of_lt z1) (Nat.le_trans sz3 le4))) ne4 hx4 hns4
  exact wpAt_of_wpAny (wpAny_execs_nil fin)
end
/-- C(e) -/
theorem pmk_xi {X : Cx} {B newId initId : String} {bmB : List Value} {C fI : Addr} {f pn z x : Str} {params : Arguments} {scope : Scope} {p0 p1 p2 p3 p4 p5 q1 q2 q3 q4 p pos : Pos} {j : Nat} {e : Expr} {ta : TA}
    (FB : ExcBaseFacts B newId initId bmB) (SF : StoreFacts B bmB "object.__setattr__" "object") (KF : PySem.W.KxsFacts B initId)
    (T : XiK X.prog X.K B newId initId bmB C fI f params (xiBody z f pn p0 p1 p2 p3 p4 p5 q1 q2 q3 q4 j) scope) (S : XiT z f pn p0 p1 p2 p3 p4 p5 q1 q2 q3 q4 j params scope)
    (hr : Room 1 X.A) (hg : Gl X x) (hm : X.mg x = some (.ref C)) (hms : X.mg "super" = none) (htop : (X.prog.main.scope.names.lookup ("super" : Str)).isSome = false) (ha : PA X [e] ta)
    (hdb : (x == ("__debug__" : Str)) = false := by decide) (he : starEach [e] X.env = (false, eval e X.env) :: starEach [] X.env := by rfl) (hpl : (backTo pos (starEach [] X.env)).any (·.1) = false := by rfl) :
    PMk X (.Call (.Name x p) [e] [] pos) (fun σ H Q => ta σ H fun vs H1 => ∃ y, vs = [y] ∧ ∀ dx, H1 dx = none → Q (.ref C) (some dx) (upd H1 dx (.xd [(f, y)]))) := by
  intro pins s σ H Q I h
  obtain ⟨nm, q, N, bs, bm, sn, sub, ab, col, dd, k0, k1, k2, k3, k5, hC, hbm⟩ := T.cls
  refine wpAny_Call_Name_kw (ld_glob I hg hm ?_ hdb)
  refine PySem.W.callWith_K (h₀ := X.base) I.ok.mod.kin T.kC (thn (ha.run pos pins s σ H _ I h) fun us s1 ⟨vs, H1, I1, r1, y, ev, q1⟩ => ⟨I1.kIn, ?_⟩) he hpl
  show wpAny _ _ (call (.ref C) us) _ _ _
  subst ev
  obtain ⟨u, rfl, ry⟩ := vals1 r1
  obtain ⟨hp, g, dr, tk, os⟩ := s1
  have kk : ∀ b o, hp.get? b = some o → ((hp.push (PySem.W.kdv_tup [u])).push (PySem.HandSPX.excO C hp.objs.size)).get? b = some o := fun b o e => Heap.get?_push_of_some _ (Heap.get?_push_of_some _ e)
  have hget : ((hp.push (PySem.W.kdv_tup [u])).push (PySem.HandSPX.excO C hp.objs.size)).get? (hp.objs.size + 1) = some (PySem.HandSPX.excO C hp.objs.size) := by heap_get
  have hsz2 : ((hp.push (PySem.W.kdv_tup [u])).push (PySem.HandSPX.excO C hp.objs.size)).objs.size = hp.objs.size + 2 := by rw [Heap.size_push, Heap.size_push]
  obtain ⟨oc, od, qual, kV, doc, pm, an, ct, osl, cda, cc, ccl, cdd, vs, ccs, file, tf, cl, cld, csl, e1, hcd, e2, hvs, hfile, e3⟩ := id T.fn
  obtain ⟨mb, hb1, hb2⟩ := I1.mod.blt
  have X2 : X.K.In ((hp.push (PySem.W.kdv_tup [u])).push (PySem.HandSPX.excO C hp.objs.size)) := I1.kIn.keeps kk
  have bk : ∀ b o, X.base.get? b = some o → hp.get? b = some o := I1.bk
  have hKx : X.K.lookup (hp.objs.size + 1) = none := by
    cases z : X.K.lookup (hp.objs.size + 1) with
    | none => rfl
    | some o => exact absurd (Heap.lt_size (I1.kIn _ _ z)) (by show ¬ (hp.objs.size + 1 < hp.objs.size); omega)
  refine wpAny_call (PySem.HandSPX.call_own FB (fun Y => PySem.W.excTail_contains Y bm hbm) (I1.kIn _ _ hC) (PySem.W.looks_findIn I1.kIn T.iC) (fun self => PySem.W.bind_fn I1.kIn self T.tI) (by rw [sizeLine_eq]; exact Nat.le_of_ble_eq_true rfl) ?_)
  refine xi_run (x := hp.objs.size + 1) (t0 := hp.objs.size) (v := u) FB SF KF T S (hr.make C [u] []).depth (I1.mod.nolimit.keeps fun b o e => kk b o (bk b o e)) X2 (I1.mod.glob.keeps fun b o e => kk b o (bk b o e)) hms (hb1.keeps fun b o e => kk b o (bk b o e))
    ((hb2 "super" (by decide)).trans (by decide +kernel)) htop hget hKx e1 (BindsTo.of_eq (S.bd qual kV doc pm an (.ref cda) ct cc _ _)) fun h' tk' dx t1 keep le ne hx hns => ?_
  refine ⟨rfl, ?_⟩
  have hnd : H1 dx = none := I1.hok.fresh (by show hp.objs.size ≤ dx; have le : ((hp.push (PySem.W.kdv_tup [u])).push (PySem.HandSPX.excO C hp.objs.size)).objs.size ≤ dx := le; omega)
  obtain ⟨G, g1, g2⟩ := restrict h' fun b => decide (b ≠ hp.objs.size + 1)
  have gk : ∀ b, b ≠ hp.objs.size + 1 → G.get? b = h'.get? b := fun b hb => g1 b (decide_eq_true hb)
  have ge : G.get? (hp.objs.size + 1) = none := g2 _ (by simp)
  have kG : ∀ b o, hp.get? b = some o → G.get? b = some o := fun b o e => by
    have lt := Heap.lt_size e
    have nb : b ≠ hp.objs.size + 1 := Nat.ne_of_lt (Nat.lt_succ_of_lt lt)
    rw [gk b nb]
    exact keep b o nb (kk b o e)
  have J : Inv X pins σ (upd H1 dx (.xd [(f, y)])) ⟨G, g, dr, tk', os⟩ := I1.laid (t' := tk') (a := dx) (o := .xd [(f, y)]) (h' := G) kG (by show hp.objs.size ≤ dx; have le : ((hp.push (PySem.W.kdv_tup [u])).push (PySem.HandSPX.excO C hp.objs.size)).objs.size ≤ dx := le; omega)
    ⟨_, hns.at fun o z => (gk dx ne).trans z, relO_put (fs := []) ry fun g => True.intro⟩
  have na : (upd H1 dx (.xd [(f, y)])) (hp.objs.size + 1) = none := by
    rw [upd_ne (Ne.symm ne)]
    exact I1.hok.fresh (Nat.le_succ _)
  exact ⟨hp.objs.size + 1, _, _, ⟨G, g, dr, tk', os⟩, _, .ref C, some dx, rfl, J, (fun b o z => by
    by_cases hb : b = hp.objs.size + 1
    · rw [hb, ge] at z; cases z
    · exact (gk b hb).symm.trans z), ge, hx, ⟨rfl, rfl⟩, rfl, rfl, na, rfl, I1.bare, raises_own T.exC T.tyC, q1 dx hnd⟩
end Mc
end
section
set_option Elab.async false
set_option linter.all false
set_option maxRecDepth 100000
set_option maxHeartbeats 1000000
/-! M16: raise, try .. except with named and unnamed clauses. -/
namespace Mc
open PySem PySem.Spec PyProof.Rows L2
/-! ### several clauses, some with a name -/
/-- a clause: its class, its name's slot, its suite's reading -/
abbrev Cl : Type := Value × Option Nat × (Addr → Value → Option Addr → TS)
def goneD (D : Ends) (i : Nat) : Ends := { nx := fun σ' H' => D.nx (σ'.set i none) H', rt := D.rt, bk := fun σ' H' => D.bk (σ'.set i none) H', ct := fun σ' H' => D.ct (σ'.set i none) H' }
def wMix (K : PySem.W.Frag) (Wout : WX) (D : Ends) : List Cl → WX
  | [] => Wout
  | (c, o, ts) :: r => fun cls d σ H => ∃ b, PySem.W.exmOne K cls c = some b ∧
      (b = true → ∀ a, H a = none → match o with
        | none => ts a cls d D σ H
        | some i => ts a cls d (goneD D i) (σ.set i (some (.ref a))) H) ∧ (b = false → wMix K Wout D r cls d σ H)
inductive MxOk (X : Cx) : List ExceptHandler → List Cl → Prop
  | nil : MxOk X [] []
  | cons {x : Str} {c : Value} {ts : Addr → Value → Option Addr → TS} {b0 : Stmt} {suite : List Stmt} {np pos' : Pos} {hds : List ExceptHandler} {l : List Cl} (hc : Names X x c)
      (hsu : ∀ (a : Addr) (oe : Obj) (cls : Value) (d : Option Addr) (pn : List (Addr × Obj)), Zc cls d oe → (∃ vs, oe.data = .fields vs) → PSs (X.suite a ((a, oe) :: pn)) (b0 :: suite) (ts a cls d)) (r : MxOk X hds l) :
      MxOk X (.ExceptHandler (some (.Name x np)) none (b0 :: suite) pos' :: hds) ((c, none, ts) :: l)
  | as {x n : Str} {i : Nat} {c : Value} {ts : Addr → Value → Option Addr → TS} {b0 : Stmt} {suite : List Stmt} {np pos' : Pos} {hds : List ExceptHandler} {l : List Cl} (hi : X.N[i]? = some n) (hln : X.env.kindOf n = some .local) (hc : Names X x c)
      (hsu : ∀ (a : Addr) (oe : Obj) (cls : Value) (d : Option Addr) (pn : List (Addr × Obj)), Zc cls d oe → (∃ vs, oe.data = .fields vs) → PSs (X.suite a ((a, oe) :: pn)) (b0 :: suite) (ts a cls d)) (r : MxOk X hds l) :
      MxOk X (.ExceptHandler (some (.Name x np)) (some n) (b0 :: suite) pos' :: hds) ((c, some i, ts) :: l)
section
variable {X : Cx} {body : List Stmt} {h0 : ExceptHandler} {hds : List ExceptHandler} {l : List Cl} {pos : Pos} {tb : WX → TS} {Wout : WX}
theorem ps_try_mix (hs : X.stack = X.env :: X.outer) (hf : X.env.frame = some X.env.locals) (hN : X.N.Nodup) (tk : Takes X Wout)
    (hb : ∀ (W : WX) (pn : List (Addr × Obj)) (xe : Value → Shared → Prop), Takes (X.tr pn xe) W → PassesOwn (model X.prog X.w) X.A X.env xe → PSs (X.tr pn xe) body (tb W))
    (hh : MxOk X (h0 :: hds) l) : PS X (.Try body (h0 :: hds) [] [] pos) (fun D σ H => tb (wMix X.K Wout D l) D σ H) := by
  refine ⟨fun pins s σ H D I h => ?_⟩
  have ok := I.ok
  have hfr : X.A.frames = some (X.env :: X.outer) := by rw [ok.frames, hs]
  refine wpAny_Try_except ?_
  refine wpAny_mono ((hb (wMix X.K Wout D l) (X.pn ++ pins) (fun e s₁ => wpAny (model X.prog X.w) X.A (noteFrame e X.env) (fun _ s₂ => wpAny (model X.prog X.w) X.A (setFlight e none) (fun _ s₃ =>
    wpAny (model X.prog X.w) X.A (handleBy e X.env (h0 :: hds)) (L2.SP X pins D) X.xe s₃) X.xe s₂) X.xe s₁) (fun u s' xx => ?_) PassesOwn.looking).run [] s σ H D (I.toTry _) h) (fun f s1 hsp => ?_) (fun e s1 he => he)
  · obtain ⟨a, B, sI, pins', σ', H', cls, d, rfl, J', nb, up, sky, na, os, ag, w⟩ := xx
    have J : Inv X pins σ' H' sI := J'.ofTry ok
    have sky' : Sky B (X.env :: X.outer) a (Zc cls d) X.env.locals s'.heap := by rw [← hs]; exact sky
    show wpAny (model X.prog X.w) X.A (noteFrame (.ref a) X.env) _ _ _
    refine Sky.land Zc.steady hfr hf sky' fun h3 fl3 up3 => ?_
    have J3 : Inv X pins σ' H' { s' with heap := h3 } := J.landed nb fl3.1 (up.trans up3) os ag
    obtain ⟨oe3, vs3, he3, hz3, hd3⟩ := fl3.there
    have nfr : a ∉ frs (X.env :: X.outer) := fun hm => by
      obtain ⟨_, o', e', hnf⟩ := fl3.2.2.1.mem hm
      rw [he3] at e'; cases e'
      exact hnf _ hd3
    have nL : a ≠ X.env.locals := fun z => nfr (List.mem_filterMap.mpr ⟨X.env, List.mem_cons_self, by rw [hf, z]⟩)
    have nF : a ∉ X.fs := fun hm => by
      obtain ⟨e, he, q⟩ := List.mem_filterMap.mp hm
      exact nfr (List.mem_filterMap.mpr ⟨e, List.mem_cons_of_mem _ he, q⟩)
    have S3 := J3.suite he3 hd3 na nL nF
    have LT : PySem.W.Looks (model X.prog X.w) h3 (typeOf (.ref a)) cls := fun A Q E s k q => wpAny_typeOf_ref (k _ _ he3) (by rw [hz3.1]; exact q)
    have test : ∀ {x : Str} {c : Value} {np : Pos} {Q : Value → Shared → Prop} {E : Value → Shared → Prop}, Names X x c → Q c { s' with heap := h3 } → wpAny (model X.prog X.w) (X.A.mark (some (.ref a))) (eval (.Name x np) X.env) Q E { s' with heap := h3 } := fun {x c np Q E} hc q => by
      obtain ⟨hg, hdbg, hm | ⟨hm, hv, hnn⟩⟩ := hc
      · exact ld_glob (X := X.suite a ((a, oe3) :: (X.pn ++ pins))) S3 hg hm q hdbg
      · exact ld_blt (X := X.suite a ((a, oe3) :: (X.pn ++ pins))) S3 hg hm hv q hnn hdbg
    have go : ∀ {hds' : List ExceptHandler} {l' : List Cl}, MxOk X hds' l' → wMix X.K Wout D l' cls d σ' H' →
        wpAny (model X.prog X.w) X.A (handleBy (.ref a) X.env hds') (L2.SP X pins D) X.xe { s' with heap := h3 } := by
      intro hds' l' hk
      induction hk with
      | nil =>
        intro w
        refine wpAny_handleBy_nil ?_
        obtain ⟨k1, k2, k3, oe, vs, T, oT, ts', he, hz, hd, h1, hr⟩ := id fl3
        unfold PySem.passOn
        refine wpAny_bind (wpAny_field he hd h1 ?_)
        rw [if_neg (show ¬ ((Value.ref T == Value.none) = true) from by simp)]
        have fin : wpAny (model X.prog X.w) X.A (setFlight (.ref a) X.env.frame) (fun _ s4 => wpAny (model X.prog X.w) X.A (throw (.ref a) : Sem Flow) (L2.SP X pins D) X.xe s4) X.xe { s' with heap := h3 } := by
          rw [hf]
          refine HandSPX.setFlight_upZ fl3 fun h4 hh4 up4 => wpAny_throw (tk _ _ ?_)
          exact ⟨a, B, sI, pins, σ', H', cls, d, rfl, J, nb, (up.trans up3).trans up4, .inr (.inr (by rw [hs]; exact hh4)), na, os, ag, w⟩
        first
          | exact wpAny_bind (wpAny_pure (wpAny_bind fin))
          | exact wpAny_bind fin
      | @cons x c ts b0 suite np pos' hds2 l2 hc hsu r ih =>
        intro w
        obtain ⟨b, hb1, hyes, hno⟩ := w
        refine wpAny_handleBy_cons (codeAny_handlers_test ?_) (by intro q; cases q)
        have LM := PySem.W.exm_one (M := model X.prog X.w) (J3.kIn) LT hb1
        refine test hc (LM.here ?_)
        cases b with
        | true =>
          refine codeAny_handlers_suite ?_
          refine HandSPX.lands_againZ fl3 fun h4 fl4 up4 => ?_
          have J4 : Inv X pins σ' H' { s' with heap := h4 } := J.landed nb fl4.1 ((up.trans up3).trans up4) os ag
          obtain ⟨oe4, vs4, he4, hz4, hd4⟩ := fl4.there
          have S4 := J4.suite he4 hd4 na nL nF
          refine wpAny_mono ((hsu a oe4 cls d (X.pn ++ pins) hz4 ⟨_, hd4⟩).run [] _ _ H' _ S4 (hyes rfl a na)) (fun f s6 hsp => ?_) (fun _ _ z => False.elim z)
          cases f with
          | next =>
            obtain ⟨σ6, H6, S6, q6⟩ := hsp
            exact ⟨_, _, S6.unsuite ok, q6⟩
          | brk =>
            obtain ⟨σ6, H6, S6, q6⟩ := hsp
            exact ⟨_, _, S6.unsuite ok, q6⟩
          | cont =>
            obtain ⟨σ6, H6, S6, q6⟩ := hsp
            exact ⟨_, _, S6.unsuite ok, q6⟩
          | ret u =>
            obtain ⟨v6, σ6, H6, S6, r6, q6⟩ := hsp
            exact ⟨_, _, _, S6.unsuite ok, r6, q6⟩
        | false =>
          show wpAny _ X.A (handleBy (.ref a) X.env hds2) _ _ _
          exact ih (hno rfl)
      | @as x n i c ts b0 suite np pos' hds2 l2 hi hln hc hsu r ih =>
        intro w
        obtain ⟨b, hb1, hyes, hno⟩ := w
        refine wpAny_handleBy_cons (codeAny_handlers_test ?_) (by intro q; cases q)
        have LM := PySem.W.exm_one (M := model X.prog X.w) (J3.kIn) LT hb1
        refine test hc (LM.here ?_)
        cases b with
        | true =>
          refine codeAny_handlers_suite_as ?_
          refine HandSPX.lands_againZ fl3 fun h4 fl4 up4 => ?_
          have J4 : Inv X pins σ' H' { s' with heap := h4 } := J.landed nb fl4.1 ((up.trans up3).trans up4) os ag
          obtain ⟨oe4, vs4, he4, hz4, hd4⟩ := fl4.there
          have S4 := J4.suite he4 hd4 na nL nF
          refine store_ok (X := X.suite a ((a, oe4) :: (X.pn ++ pins))) (v := .ref a) S4 hN hi (.inl hln) rfl (fun s5 S5 => ?_) (.inr hln)
          refine wpAny_mono ((hsu a oe4 cls d (X.pn ++ pins) hz4 ⟨_, hd4⟩).run [] s5 _ H' _ S5 (hyes rfl a na)) (fun f s6 hsp => ?_) (fun _ _ z => False.elim z)
          have end_ : ∀ {σ6 : L2.St} {H6 : Hp} {Q : Shared → Prop}, Inv (X.suite a ((a, oe4) :: (X.pn ++ pins))) [] σ6 H6 s6 → (∀ s7, Inv X pins (σ6.set i none) H6 s7 → Q s7) →
              wpAny (model X.prog X.w) X.A (do bindName X.env n .none; unbindBehindTheSuite X.env n pos') (fun _ s7 => Q s7) X.xe s6 := fun {σ6 H6 Q} S6 hq => gone_ok (S6.unsuite ok) hN hi hln hq
          cases f with
          | next =>
            obtain ⟨σ6, H6, S6, q6⟩ := hsp
            exact end_ S6 fun s7 J7 => ⟨_, _, J7, q6⟩
          | brk =>
            obtain ⟨σ6, H6, S6, q6⟩ := hsp
            exact end_ S6 fun s7 J7 => ⟨_, _, J7, q6⟩
          | cont =>
            obtain ⟨σ6, H6, S6, q6⟩ := hsp
            exact end_ S6 fun s7 J7 => ⟨_, _, J7, q6⟩
          | ret u =>
            obtain ⟨v6, σ6, H6, S6, r6, q6⟩ := hsp
            exact end_ S6 fun s7 J7 => ⟨_, _, _, J7, r6, q6⟩
        | false =>
          show wpAny _ X.A (handleBy (.ref a) X.env hds2) _ _ _
          exact ih (hno rfl)
    exact go hh w
  · cases f with
    | next =>
      obtain ⟨σ', H', J', q⟩ := hsp
      exact wpAny_execs_nil ⟨σ', H', J'.ofTry ok, q⟩
    | brk =>
      obtain ⟨σ', H', J', q⟩ := hsp
      exact ⟨σ', H', J'.ofTry ok, q⟩
    | cont =>
      obtain ⟨σ', H', J', q⟩ := hsp
      exact ⟨σ', H', J'.ofTry ok, q⟩
    | ret u =>
      obtain ⟨v, σ', H', J', r, q⟩ := hsp
      exact ⟨v, σ', H', J'.ofTry ok, r, q⟩
end
/-! ### raise -/
def veB : List Value := [.type "ValueError", .type "Exception", .type "BaseException", .type "object"]
/-- an own class without an own __init__, over ValueError -/
structure ExN (K : PySem.W.Frag) (mg : Str → Option Value) (G : Str → Addr) (c : Str) : Prop where
  mg : mg c = some (.ref (G c))
  q : PySem.W.excIn K (G c) veB "ValueError.__new__" = true
  kC : PySem.W.keepIn K (.ref (G c)) = true
  exC : PySem.W.subIn K (.ref (G c)) (.type "BaseException") = some true
  tyC : PySem.W.typeIn K (.ref (G c)) = some (.type "type")
section
variable {X : Cx} {G : Str → Addr} {W : WX} {pos : Pos} {k : Nat} {a b e : Expr} {fa fb : DE} {es : List Expr} {t : DA} {c : Str} {p : Pos}
theorem ss_raise {rpos : Pos} (cc : Cy X W k) (E : ExN X.K X.mg G c) (ha : SA X G W (e :: es) t) (hg : Gl X c := by rfl) (hdb : (c == ("__debug__" : Str)) = false := by decide)
    (he : starEach (e :: es) X.env = (false, eval e X.env) :: starEach es X.env := by rfl) (hpl : (backTo pos (starEach es X.env)).any (·.1) = false := by rfl) : SS X G W (.Raise (some (.Call (.Name c p) (e :: es) [] pos)) none rpos) (Mc.sRaise c t) :=
  ps_imp (ps_raise cc.calm cc.tk (pmk_ownA F.excBase_ValueError E.q E.mg E.kC (raises_own E.exC E.tyC) hg ha hdb he hpl)) fun D σ H ⟨m, r, S, s, re, p⟩ => ⟨m, r, S, s, re, PostS.thn s re p fun m1 H1 vs S1 ys e1 s1 rvs p1 => by
    split at p1
    · next h => exact ⟨by rw [← rvs.length]; exact h, p1 m1 σ H1 _ none .refl s1 (re.mono s e1) ⟨rfl, fun f v z => by cases z⟩⟩
    · exact p1.elim⟩
/-- an own class whose __init__ keeps its argument -/
theorem ss_raiseV {B newId initId : String} {bmB : List Value} {fI : Addr} {f pn z : Str} {params : Arguments} {scope : Scope} {p0 p1 p2 p3 p4 p5 q1 q2 q3 q4 rpos : Pos} {j : Nat} (cc : Cy X W (k + 1))
    (FB : ExcBaseFacts B newId initId bmB) (SF : StoreFacts B bmB "object.__setattr__" "object") (KF : PySem.W.KxsFacts B initId)
    (T : XiK X.prog X.K B newId initId bmB (G c) fI f params (xiBody z f pn p0 p1 p2 p3 p4 p5 q1 q2 q3 q4 j) scope) (S : XiT z f pn p0 p1 p2 p3 p4 p5 q1 q2 q3 q4 j params scope) (hm : X.mg c = some (.ref (G c))) (hms : X.mg "super" = none)
    (htop : (X.prog.main.scope.names.lookup ("super" : Str)).isSome = false) (ha : SE X G W e fa) (hg : Gl X c := by rfl) (hdb : (c == ("__debug__" : Str)) = false := by decide) (he : starEach [e] X.env = (false, eval e X.env) :: starEach [] X.env := by rfl) (hpl : (backTo pos (starEach [] X.env)).any (·.1) = false := by rfl) :
    SS X G W (.Raise (some (.Call (.Name c p) [e] [] pos)) none rpos) (Mc.sRaiseV c f fa) :=
  ps_imp (ps_raise cc.calm cc.tk (pmk_xi FB SF KF T S (cc.rm.mono (Nat.succ_le_succ (Nat.zero_le k))) hg hm hms htop (L2.pa_cons ha L2.pa_nil he) hdb he hpl)) fun D σ H ⟨m, r, S, s, re, p⟩ => ⟨m, r, S, s, re, PostS.thn s re p fun m1 H1 v S1 y e1 s1 rv p1 => by
    refine ⟨y, rfl, fun dx hd => ?_⟩
    have ex := ex_beside (m := m1) (u := .xd [(f, y)]) hd
    have s2 := s1.newBeside (u := .xd [(f, y)]) hd
    exact p1 m1 σ _ _ (some dx) ex s2 ((re.mono s e1).mono s1 ex) ⟨rfl, fun g w z => by
      cases z
      exact ⟨dx, y, rfl, upd_same, rv.mono s1 ex⟩⟩⟩

/-- what the text says of such a def, wherever it stands -/
def XiTx (z f pn : Str) (params : Arguments) (body : List Stmt) (scope : Scope) : Prop := ∃ (p0 p1 p2 p3 p4 p5 q1 q2 q3 q4 : Pos) (j : Nat), body = xiBody z f pn p0 p1 p2 p3 p4 p5 q1 q2 q3 q4 j ∧ XiT z f pn p0 p1 p2 p3 p4 p5 q1 q2 q3 q4 j params scope
theorem ss_raiseX {B newId initId : String} {bmB : List Value} {fI : Addr} {f pn z : Str} {params : Arguments} {body : List Stmt} {scope : Scope} {rpos : Pos} (cc : Cy X W (k + 1))
    (FB : ExcBaseFacts B newId initId bmB) (SF : StoreFacts B bmB "object.__setattr__" "object") (KF : PySem.W.KxsFacts B initId)
    (T : XiK X.prog X.K B newId initId bmB (G c) fI f params body scope) (S : XiTx z f pn params body scope) (hm : X.mg c = some (.ref (G c))) (hms : X.mg "super" = none)
    (htop : (X.prog.main.scope.names.lookup ("super" : Str)).isSome = false) (ha : SE X G W e fa) (hg : Gl X c := by rfl) (hdb : (c == ("__debug__" : Str)) = false := by decide) (he : starEach [e] X.env = (false, eval e X.env) :: starEach [] X.env := by rfl) (hpl : (backTo pos (starEach [] X.env)).any (·.1) = false := by rfl) :
    SS X G W (.Raise (some (.Call (.Name c p) [e] [] pos)) none rpos) (Mc.sRaiseV c f fa) := by
  obtain ⟨p0, p1, p2, p3, p4, p5, q1, q2, q3, q4, j, rfl, S⟩ := S
  exact ss_raiseV cc FB SF KF T S hm hms htop ha hg hdb he hpl

/-! ### try -/
/-- the clauses, as the machine has them -/
inductive MHd (X : Cx) (G : Str → Addr) : List ExceptHandler → List Hd → Prop
  | nil : MHd X G [] []
  | cons {c : Str} {e : Expr} {f : DE} {pr np pos' : Pos} {hds : List ExceptHandler} {l : List Hd} (hg : Gl X c) (hm : X.mg c = some (.ref (G c))) (hdb : (c == ("__debug__" : Str)) = false)
      (he : ∀ (a : Addr) (oe : Obj) (pn : List (Addr × Obj)), PE (X.suite a ((a, oe) :: pn)) e (mE X.K G W0 f)) (r : MHd X G hds l) :
      MHd X G (.ExceptHandler (some (.Name c np)) none [.Return (some e) pr] pos' :: hds) (⟨c, none, xK f⟩ :: l)
  | as {c n fl : Str} {i : Nat} {e : Expr} {k : AV → Sto → Res AV} {pr np pos' : Pos} {hds : List ExceptHandler} {l : List Hd} (hi : X.N[i]? = some n) (hln : X.env.kindOf n = some .local) (hg : Gl X c) (hm : X.mg c = some (.ref (G c))) (hdb : (c == ("__debug__" : Str)) = false)
      (he : ∀ (a : Addr) (oe : Obj) (d : Option Addr) (pn : List (Addr × Obj)), Zc (.ref (G c)) d oe → (∃ vs, oe.data = .fields vs) → PE (X.suite a ((a, oe) :: pn)) e (fun σ H Q => σ[i]? = some (some (.ref a)) ∧ ∃ m S v, SM X.K G m S H ∧
        (∃ b x, d = some b ∧ H b = some (.xd [(fl, x)]) ∧ RV X.K G m H v x) ∧ Post X.K G (RV X.K G) W0 σ m H (k v S) Q)) (r : MHd X G hds l) :
      MHd X G (.ExceptHandler (some (.Name c np)) (some n) [.Return (some e) pr] pos' :: hds) (⟨c, some i, xF fl k⟩ :: l)
/-- what catches what -/
def CtOk (K : PySem.W.Frag) (G : Str → Addr) (T : CT) : Prop := ∀ c c' b, T c c' = some b → PySem.W.exmOne K (.ref (G c)) (.ref (G c')) = some b
theorem hd_ok {T : CT} (hT : CtOk X.K G T) {hds : List ExceptHandler} {l : List Hd} (h : MHd X G hds l) : ∃ ls : List Cl, MxOk X hds ls ∧ ∀ (D : Ends) (c0 : Str) (p : Option (Str × AV)) (m : Mp) (r : Env) (S : Sto) (cls : Value) (d : Option Addr) (σ : L2.St) (H : Hp),
    SM X.K G m S H → RE X.K G m H r σ → RX X.K G m H c0 p cls d → PostS X.K G W D m H (hdG T c0 p r S l) → wMix X.K W D ls cls d σ H := by
  induction h with
  | nil => exact ⟨[], .nil, fun D c0 p m r S cls d σ H s re rx q => q m σ H cls d .refl s re rx⟩
  | @cons c e f pr np pos' hds l hg hm hdb he r ih =>
    obtain ⟨ls, h1, h2⟩ := ih
    refine ⟨(.ref (G c), none, fun _ _ _ => fun D σ H => (mE X.K G W0 f) σ H D.rt) :: ls, .cons ⟨hg, hdb, .inl hm⟩ (fun a oe cls d pn hz hf => pss_one (ps_ret (he a oe pn))) h1, fun D c0 p m r S cls d σ H s re rx q => ?_⟩
    unfold hdG at q
    cases ht : T c0 c with
    | none => simp only [ht] at q; exact q.elim
    | some b =>
      simp only [ht] at q
      refine ⟨b, ?_, fun hb a ha => ?_, fun hb => ?_⟩
      · rw [rx.1]; exact hT _ _ _ ht
      · subst hb
        simp only [if_true] at q
        refine ⟨m, r, S, s, re, ?_⟩
        unfold xK at q
        cases hx : f r S with
        | ok v S1 => rw [hx] at q; exact fun m' H' x e1 s1 rv => q m' H' x e1 s1 rv
        | ex _ _ _ => rw [hx] at q; exact q.elim
        | bad => rw [hx] at q; exact q.elim
      · subst hb
        exact h2 D c0 p m r S cls d σ H s re rx q
  | @as c n fl i e kf pr np pos' hds l hi hln hg hm hdb he r ih =>
    obtain ⟨ls, h1, h2⟩ := ih
    refine ⟨(.ref (G c), some i, fun a cls d => fun D σ H => cls = .ref (G c) ∧ (σ[i]? = some (some (.ref a)) ∧ ∃ m S v, SM X.K G m S H ∧ (∃ b x, d = some b ∧ H b = some (.xd [(fl, x)]) ∧ RV X.K G m H v x) ∧ Post X.K G (RV X.K G) W0 σ m H (kf v S) D.rt)) :: ls,
      .as hi hln ⟨hg, hdb, .inl hm⟩ (fun a oe cls d pn hz hf => ?_) h1, fun D c0 p m r S cls d σ H s re rx q => ?_⟩
    · refine ⟨fun pins s σ H D I ⟨ec, q⟩ => ?_⟩
      subst ec
      exact (pss_one (ps_ret (he a oe d pn hz hf))).run pins s σ H D I q
    unfold hdG at q
    cases ht : T c0 c with
    | none => simp only [ht] at q; exact q.elim
    | some b =>
      simp only [ht] at q
      refine ⟨b, ?_, fun hb a ha => ?_, fun hb => ?_⟩
      · rw [rx.1]; exact hT _ _ _ ht
      · subst hb
        simp only at q
        split at q
        · next hc =>
          rw [Bool.and_eq_true, decide_eq_true_eq, decide_eq_true_eq] at hc
          obtain ⟨hc, hlt⟩ := hc
          subst hc
          have hlt : i < σ.length := by rw [← paired_len re]; exact hlt
          refine ⟨rx.1, by rw [List.getElem?_set_self hlt], ?_⟩
          unfold xF at q
          cases p with
          | none => exact q.elim
          | some gv =>
            obtain ⟨g, v⟩ := gv
            simp only at q
            by_cases hg2 : g = fl
            · subst hg2
              rw [if_pos rfl] at q
              refine ⟨m, S, v, s, rx.2 _ _ rfl, ?_⟩
              cases hx : kf v S with
              | ok v S1 => rw [hx] at q; exact fun m' H' x e1 s1 rv => q m' H' x e1 s1 rv
              | ex _ _ _ => rw [hx] at q; exact q.elim
              | bad => rw [hx] at q; exact q.elim
            · rw [if_neg hg2] at q
              exact q.elim
        · exact q.elim
      · subst hb
        exact h2 D c0 p m r S cls d σ H s re rx q
theorem ss_try {T : CT} {body : List Stmt} {b : DS} {h0 : ExceptHandler} {hds : List ExceptHandler} {l : List Hd} (cc : Cy X W k) (hT : CtOk X.K G T) (hs : X.stack = X.env :: X.outer) (hf : X.env.frame = some X.env.locals)
    (hb : ∀ (W' : WX) (pn : List (Addr × Obj)) (xe : Value → Shared → Prop), Cy (X.tr pn xe) W' k → SSs (X.tr pn xe) G W' body b) (hh : MHd X G (h0 :: hds) l) : SS X G W (.Try body (h0 :: hds) [] [] pos) (sTry T b l) := by
  obtain ⟨ls, h1, h2⟩ := hd_ok (W := W) hT hh
  refine ps_imp (ps_try_mix (tb := fun W' => mS X.K G W' b) hs hf cc.nd cc.tk (fun W' pn xe tk po => hb W' pn xe ⟨tk, cc.rm, cc.calm, cc.nd, po⟩) h1) fun D σ H ⟨m, r, S, s, re, p⟩ => ?_
  unfold sTry at p
  refine ⟨m, r, S, s, re, ?_⟩
  cases hr : b r S with
  | ex c q r1 S1 =>
    rw [hr] at p
    exact fun m1 σ1 H1 cls d e1 s1 re1 rx => h2 D c q m1 r1 S1 cls d σ1 H1 s1 re1 rx (PostS.ext e1 p)
  | nx r1 S1 => rw [hr] at p; exact p
  | ret v S1 => rw [hr] at p; exact p
  | brk r1 S1 => rw [hr] at p; exact p
  | cnt r1 S1 => rw [hr] at p; exact p
  | bad => rw [hr] at p; exact p
/-- 'z' + str(e.f) in a suite -/
theorem hd_str {c n f z : Str} {i : Nat} {j : Nat} {p1 p2 p3 p4 p5 p6 : Pos} (XC : XfC X.K (G c)) (hno : PySem.W.findIn X.K (.ref (G c)) f = some none) (hi : X.N[i]? = some n) (hv : Vis X.env.scope n) (hms : X.mg "str" = none) (hgs : Gl X "str")
    (hd : (n == ("__debug__" : Str)) = false) (hcd : (n == ("__classdict__" : Str)) = false) (hab : attributeBase (.Name n p3) f X.env (eval (.Name n p3) X.env) = eval (.Name n p3) X.env)
    (he : starEach [.Attribute (.Name n p3) f p4] X.env = (false, eval (.Attribute (.Name n p3) f p4) X.env) :: starEach [] X.env) (hpl : (backTo p5 (starEach [] X.env)).any (·.1) = false)
    (a : Addr) (oe : Obj) (d : Option Addr) (pn : List (Addr × Obj)) (hz : Zc (.ref (G c)) d oe) (hfd : ∃ vs, oe.data = .fields vs) :
    PE (X.suite a ((a, oe) :: pn)) (.BinOp (.Constant (.str z) j p1) .Add (.Call (.Name "str" p2) [.Attribute (.Name n p3) f p4] [] p5) p6)
      (fun σ H Q => σ[i]? = some (some (.ref a)) ∧ ∃ m S v, SM X.K G m S H ∧ (∃ b x, d = some b ∧ H b = some (.xd [(f, x)]) ∧ RV X.K G m H v x) ∧ Post X.K G (RV X.K G) W0 σ m H (kStr z v S) Q) := by
  have hv1 : PE (X.suite a ((a, oe) :: pn)) (.Name n p3) (tVar i) := pe_var hi hv hd hcd
  have hx := pe_xf (X := X) (pos := p4) XC hno hz hfd hv1 hab
  refine pe_imp (pe_op op_add_str pe_str (pe_callTy (X := X.suite a ((a, oe) :: pn)) call_str_int hgs hms (by rfl) (L2.pa_cons hx L2.pa_nil he) (by decide) (by decide) he hpl)) fun σ H Q ⟨h1, m, S, v, s, ⟨b, x, ed, hb, rv⟩, p⟩ => ?_
  unfold kStr at p
  cases v with
  | int n =>
    cases rv
    simp only [pStr] at p
    split at p
    · next hl =>
      simp only [Res.bind_ok, oAdd] at p
      split at p
      · next hz2 =>
        refine ⟨.ref a, h1, rfl, rfl, b, _, _, ed, hb, (by simp [List.lookup]), n, rfl, hl, _, _, rfl, rfl, hz2, p.ok s (.str _)⟩
      · exact p.elim
    · exact p.elim
  | _ => exact p.elim
end
end Mc
end
section
set_option Elab.async false
set_option linter.all false
set_option maxRecDepth 100000
set_option maxHeartbeats 1000000
/-! M17: the head: what the top's run says of the defs, the classes, the names. -/
namespace Mc
open PySem PySem.Spec PyProof.Rows L2 He LamX
/-! ### classes whose __init__ keeps its argument -/
/-- such a class: its name, its built-in base, its field, its def -/
structure IniD where
  cls : Str
  B : String
  bmB : List Value
  qual : Str
  f : Str
  params : Arguments
  body : List Stmt
  scope : Scope
abbrev FnI : Type := Option (Str × Str × Arguments × FuncBody × Scope × Addr × List Str × Addr)
def fnI (K : PySem.W.Frag) (C : Str) : FnI := match K.lookup (ma K (ga K C) "__init__") with
  | some ⟨_, _, .func fd, _⟩ => some (fd.name, fd.qualname, fd.params, fd.body, fd.scope, fd.globals, fd.closure.map (·.1), fd.builtins)
  | _ => none
def IniD.val (d : IniD) : FnI := some ("__init__", d.qual, d.params, .stmts d.body, d.scope, mainGlobals, ["__class__"], builtinsNs)
/-- the cell of a closure, the file of a code -/
def cellB (K : PySem.W.Frag) (C : Addr) (cl : List (Str × Addr)) : Bool := match cl with
  | [(_, cc)] => (match K.lookup cc with
    | some ⟨_, _, .cell (some (.ref D)), _⟩ => decide (D = C)
    | _ => false)
  | _ => false
def fileB (P : Program) (K : PySem.W.Frag) (cdv : Value) : Bool := match cdv with
  | .ref a => (match K.lookup a with
    | some ⟨_, _, .fields vs, _⟩ => (match (vs[2]? : Option Value) with
      | some (Value.str file _) => (P.main.file : Str) == file
      | _ => false)
    | _ => false)
  | _ => false
def clsB (K : PySem.W.Frag) (C : Addr) (newId : String) (bmB : List Value) : Bool := match K.lookup C with
  | some ⟨.type "type", _, .cls cd, sl⟩ => (match cd.mro, sl.toList with
    | .ref C' :: bm, [_, _, _, _, some (.builtin n), _] => C' == C && n == newId && !cd.hasDel && cd.hasDict && PySem.W.excTail bmB bm
    | _, _ => false)
  | _ => false
def xfnB (P : Program) (K : PySem.W.Frag) (d : IniD) : Bool := match K.lookup (ma K (ga K d.cls) "__init__") with
  | some ⟨_, _, .func fd, _⟩ => (match fd.defaults with | .none => true | _ => false) && (PySem.W.codeIn K fd.code d.qual && (fileB P K fd.code && cellB K (ga K d.cls) fd.closure))
  | _ => false
def IniD.ok (P : Program) (K : PySem.W.Frag) (d : IniD) : Bool := clsB K (ga K d.cls) (d.B ++ ".__new__") d.bmB && (eqO (PySem.W.findIn K (.ref (ga K d.cls)) "__init__") (some (some (.ref (ma K (ga K d.cls) "__init__")))) &&
  (eqO (PySem.W.findIn K (.ref (ga K d.cls)) "__setattr__") (some (some (.builtin "object.__setattr__"))) && (eqO (PySem.W.findIn K (.ref (ga K d.cls)) d.f) (some none) && (xfnB P K d &&
  (decide (PySem.W.typeIn K (.ref (ma K (ga K d.cls) "__init__")) = some (.type "function")) && (eqO (PySem.W.ks_superIn K (ga K d.cls) (ga K d.cls) "__init__") (some (some (.builtin (d.B ++ ".__init__")))) &&
  (decide (PySem.W.subIn K (.ref (ga K d.cls)) (.type d.B) = some true) && (eqO (PySem.W.nsIn K cStatics "thirdparty.any") (some none) && (decide (PySem.W.subIn K (.ref (ga K d.cls)) (.type "BaseException") = some true) &&
  (decide (PySem.W.typeIn K (.ref (ga K d.cls)) = some (.type "type")) && (PySem.W.keepIn K (.ref (ga K d.cls)) && xfB K (ga K d.cls))))))))))))
theorem clsB_ok {K : PySem.W.Frag} {C : Addr} {newId : String} {bmB : List Value} (q : clsB K C newId bmB = true) :
    ∃ nm q N bs bm sn sub ab col dd k0 k1 k2 k3 k5, K.lookup C = some (excClassObj nm q C N bs bm true sn sub ab col dd k0 k1 k2 k3 k5 newId) ∧ PySem.W.excTail bmB bm = true := by
  unfold clsB at q
  split at q
  · next dd cd sl ho =>
    split at q
    · next C' bm k0 k1 k2 k3 n k5 hm hs =>
      simp only [Bool.and_eq_true, beq_iff_eq, Bool.not_eq_true'] at q
      obtain ⟨⟨⟨⟨rfl, rfl⟩, hdel⟩, hd⟩, ht⟩ := q
      obtain ⟨nm, bs, mro, ns, qn, hd0, sn, sub, ab, col, del⟩ := cd
      dsimp only at hm hdel hd
      subst hm hdel hd
      have hsl : sl = #[k0, k1, k2, k3, some (.builtin n), k5] := by
        obtain ⟨l⟩ := sl
        simp only at hs
        rw [hs]
      subst hsl
      exact ⟨nm, qn, ns, bs, bm, sn, sub, ab, col, dd, k0, k1, k2, k3, k5, ho, ht⟩
    · cases q
  · cases q
theorem xi_ok {P : Program} {K : PySem.W.Frag} {d : IniD} {newId initId : String} (e : fnI K d.cls = d.val) (c : d.ok P K = true) (hn : d.B ++ ".__new__" = newId) (hi : d.B ++ ".__init__" = initId) :
    XiK P K d.B newId initId d.bmB (ga K d.cls) (ma K (ga K d.cls) "__init__") d.f d.params d.body d.scope ∧ XfC K (ga K d.cls) := by
  subst hn hi
  obtain ⟨c1, c⟩ := ba c
  obtain ⟨c2, c⟩ := ba c
  obtain ⟨c3, c⟩ := ba c
  obtain ⟨c4, c⟩ := ba c
  obtain ⟨c5, c⟩ := ba c
  obtain ⟨c6, c⟩ := ba c
  obtain ⟨c7, c⟩ := ba c
  obtain ⟨c8, c⟩ := ba c
  obtain ⟨c9, c⟩ := ba c
  obtain ⟨c10, c⟩ := ba c
  obtain ⟨c11, c⟩ := ba c
  obtain ⟨c12, c13⟩ := ba c
  refine ⟨⟨clsB_ok c1, eqO_ok c2, eqO_ok c3, eqO_ok c4, ?_, of_decide_eq_true c6, eqO_ok c7, of_decide_eq_true c8, eqO_ok c9, of_decide_eq_true c10, of_decide_eq_true c11, c12⟩, xfB_ok c13⟩
  unfold xfnB at c5
  unfold fnI at e
  split at c5
  · next oc od fd osl ho =>
    rw [ho] at e
    obtain ⟨d1, dA⟩ := ba c5
    obtain ⟨d2, dB⟩ := ba dA
    obtain ⟨d3, d4⟩ := ba dB
    clear dA dB c5
    obtain ⟨n1, n2, n3, n4, n5, n6, n7, n8, n9, n10, n11, n12, n13, n14, n15⟩ := fd
    have e2 : (some (n1, n2, n3, n4, n5, n6, n7.map (·.1), n15) : FnI) = some (("__init__" : Str), d.qual, d.params, FuncBody.stmts d.body, d.scope, mainGlobals, [("__class__" : Str)], builtinsNs) := e
    simp only [Option.some.injEq, Prod.mk.injEq] at e2
    obtain ⟨h1, h2, h3, h4, h5, h6, h7, h8⟩ := e2
    subst h1 h2 h3 h4 h5 h6 h8
    unfold cellB at d4
    dsimp only at d1 d2 d3 d4
    split at d4
    · next x cc =>
      have h7 : [x] = [("__class__" : Str)] := h7
      cases h7
      split at d4
      · next cl cld D csl hcc =>
        have d4 := of_decide_eq_true d4
        subst d4
        unfold fileB at d3
        split at d3
        · next cda =>
          split at d3
          · next ccl cdd vs ccs hcd =>
            split at d3
            · next file tf hv =>
              split at d1
              · exact ⟨_, _, _, _, _, _, _, _, _, _, _, _, _, _, _, _, _, _, _, _, ho, d2, hcd, hv, d3, hcc⟩
              · cases d1
            · cases d3
          · cases d3
        · cases d3
      · cases d4
    · cases d4
  · cases c5
/-! ### the Hook -/
/-- without lists: the law's script is none of it -/
def noL (K : PySem.W.Frag) : PySem.W.Frag := K.filter fun p => !(p.2.cls == .type "list")
theorem noL_at {K : PySem.W.Frag} {a : Addr} {o : Obj} : (noL K).lookup a = some o → ∃ b, (b, o) ∈ K ∧ b = a ∧ o.cls ≠ .type "list" := by
  intro h
  have : (a, o) ∈ noL K := by
    have key : ∀ l : List (Addr × Obj), l.lookup a = some o → (a, o) ∈ l := by
      intro l
      induction l with
      | nil => intro h; cases h
      | cons p l ih =>
        intro h
        obtain ⟨b, u⟩ := p
        simp only [List.lookup] at h
        split at h
        · next e =>
          cases h
          rw [eq_of_beq e]
          exact List.mem_cons_self
        · exact List.mem_cons_of_mem _ (ih h)
    exact key _ h
  obtain ⟨h1, h2⟩ := List.mem_filter.mp this
  exact ⟨a, h1, rfl, by simpa using h2⟩
theorem frG_mem {g : Addr → Option Obj} {as : List Addr} {a : Addr} {o : Obj} (h : (a, o) ∈ frG g as) : g a = some o := by
  unfold frG at h
  obtain ⟨b, _, e⟩ := List.mem_filterMap.mp h
  obtain ⟨u, hu, e2⟩ := Option.map_eq_some_iff.mp e
  cases e2
  exact hu
abbrev AlM : Type := Bool × List FnW × List FnI
def obsM (P : Program) (fa : List Fa) (fn : List DefD) (ini : List IniD) (K : PySem.W.Frag) : AlM :=
  ((fa.all fun f => f.ok K) && ((fn.all fun d => d.ok K) && ini.all fun d => d.ok P K), fn.map fun d => fnW K d.at_, ini.map fun d => fnI K d.cls)
def valM (fn : List DefD) (ini : List IniD) : AlM := (true, fn.map DefD.val, ini.map IniD.val)
def SaysM (P : Program) (fa : List Fa) (fn : List DefD) (ini : List IniD) (K : PySem.W.Frag) : Prop := obsM P fa fn ini K = valM fn ini
def obsMG (P : Program) (n : Nat) (fa : List Fa) (fn : List DefD) (ini : List IniD) (g : Addr → Option Obj) : AlM := obsM P fa fn ini (noL (frG g (cStatics :: asD g n)))
def NoL (K : PySem.W.Frag) : Prop := ∀ a o, K.lookup a = some o → o.cls ≠ .type "list"
def hookM (P : Program) (n : Nat) (fa : List Fa) (fn : List DefD) (ini : List IniD) : PySem.W.Hook where
  α := AlM
  obs := fun s => obsMG P n fa fn ini s.heap.get?
  val := fun _ => valM fn ini
  says := fun _ h => ∃ K : PySem.W.Frag, K.In h ∧ NoL K ∧ SaysM P fa fn ini K
  of := fun _ _ e => ⟨_, fun a o z => by
    obtain ⟨b, hb, rfl, _⟩ := noL_at z
    exact frG_mem hb, fun a o z => by
    obtain ⟨b, _, _, h⟩ := noL_at z
    exact h, e⟩
  keeps := fun _ _ _ ⟨K, hK, hL, c⟩ k => ⟨K, PySem.W.Frag.In.keeps hK k, hL, c⟩
theorem obsMG_eq {P : Program} {n : Nat} {fa : List Fa} {fn : List DefD} {ini : List IniD} {g : Addr → Option Obj} {s : Shared} (h : ∀ a, g a = s.heap.get? a) : obsMG P n fa fn ini g = (hookM P n fa fn ini).obs s := by
  have e : g = s.heap.get? := funext h
  rw [e] <;> rfl
section
variable {P : Program} {fa : List Fa} {fn : List DefD} {ini : List IniD} {K : PySem.W.Frag}
theorem SaysM.bools (c : SaysM P fa fn ini K) : ((fa.all fun f => f.ok K) && ((fn.all fun d => d.ok K) && ini.all fun d => d.ok P K)) = true := congrArg (fun z : AlM => z.1) c
theorem SaysM.fact (c : SaysM P fa fn ini K) (i : Nat) {f : Fa} (h : fa[i]? = some f := by rfl) : f.ok K = true :=
  List.all_eq_true.mp (ba c.bools).1 f (List.mem_of_getElem? h)
theorem SaysM.def_ (c : SaysM P fa fn ini K) (i : Nat) {d : DefD} (h : fn[i]? = some d := by rfl) : ∃ fd, FunD K d.name d.qual d.params d.body d.scope (d.dvs K) (d.kws K) (fAd K d.at_) fd := by
  have c2 := (ba (ba c.bools).2).1
  have e : fn.map (fun d => fnW K d.at_) = fn.map DefD.val := congrArg (fun z : AlM => z.2.1) c
  have e2 : (fn.map fun d => fnW K d.at_)[i]? = (fn.map DefD.val)[i]? := by rw [e]
  rw [List.getElem?_map, List.getElem?_map, h] at e2
  exact DefD.funD (Option.some.inj e2) (List.all_eq_true.mp c2 d (List.mem_of_getElem? h))
theorem SaysM.ini_ (c : SaysM P fa fn ini K) (i : Nat) {d : IniD} {newId initId : String} (h : ini[i]? = some d) (hn : d.B ++ ".__new__" = newId) (hi : d.B ++ ".__init__" = initId) :
    XiK P K d.B newId initId d.bmB (ga K d.cls) (ma K (ga K d.cls) "__init__") d.f d.params d.body d.scope ∧ XfC K (ga K d.cls) := by
  have c2 := (ba (ba c.bools).2).2
  have e : ini.map (fun d => fnI K d.cls) = ini.map IniD.val := congrArg (fun z : AlM => z.2.2) c
  have e2 : (ini.map fun d => fnI K d.cls)[i]? = (ini.map IniD.val)[i]? := by rw [e]
  rw [List.getElem?_map, List.getElem?_map, h] at e2
  exact xi_ok (Option.some.inj e2) (List.all_eq_true.mp c2 d (List.mem_of_getElem? h)) hn hi
end
/-- what a law's defs lean on -/
structure Fx (P : Program) (fa : List Fa) (fn : List DefD) (ini : List IniD) (K : PySem.W.Frag) (mg : Str → Option Value) (base : Heap) : Prop where
  c : SaysM P fa fn ini K
  kin : K.In base
  g : base.Ns mainGlobals mg
section
variable {P : Program} {fa : List Fa} {fn : List DefD} {ini : List IniD} {K : PySem.W.Frag} {mg : Str → Option Value} {base : Heap} {w : World}
theorem Fx.glo (Z : Fx P fa fn ini K mg base) (i : Nat) {x : Str} (h : fa[i]? = some (.glo x) := by rfl) : mg x = some (.ref (ga K x)) := glo_ok Z.kin Z.g (Z.c.fact i h)
theorem Fx.free (Z : Fx P fa fn ini K mg base) (i : Nat) {x : Str} (h : fa[i]? = some (.free x) := by rfl) : mg x = none := free_ok Z.kin Z.g (Z.c.fact i h)
theorem Fx.exn (Z : Fx P fa fn ini K mg base) (i j : Nat) {x : Str} (h : fa[i]? = some (.exc x) := by rfl) (h2 : fa[j]? = some (.glo x) := by rfl) : ExN K mg (ga K) x := by
  obtain ⟨h3, h4, h5, h6⟩ := exc_ok (Z.c.fact i h)
  exact ⟨Z.glo j h2, h3, h4, h5, h6⟩
end
/-! ### a global's number -/
section
variable {X : Cx} {G : Str → Addr} {W : WX} {pos : Pos}
theorem se_gi {x : Str} {i : Int} (h : ∃ t, X.mg x = some (.int i t)) (hg : Gl X x := by rfl) (hd : (x == ("__debug__" : Str)) = false := by decide) : SE X G W (.Name x pos) (eK (.int i)) := by
  obtain ⟨t, e⟩ := h
  exact se_gint hg e ⟨t, rfl⟩ hd
theorem se_gs {x z : Str} (h : ∃ t, X.mg x = some (.str z t)) (hg : Gl X x := by rfl) (hd : (x == ("__debug__" : Str)) = false := by decide) : SE X G W (.Name x pos) (eK (.str z)) := by
  obtain ⟨t, e⟩ := h
  exact se_gstr hg e ⟨t, rfl⟩ hd
end
theorem Fx.int {P : Program} {fa : List Fa} {fn : List DefD} {ini : List IniD} {K : PySem.W.Frag} {mg : Str → Option Value} {base : Heap} (Z : Fx P fa fn ini K mg base) (i : Nat) {x : Str} {n : Int} (h : fa[i]? = some (.int x n) := by rfl) : ∃ t, mg x = some (.int n t) := He.int_ok Z.kin Z.g (Z.c.fact i h)
/-! ### the end -/
/-- the law's promise from its machine: True, whatever the script -/
theorem sp_law {K : PySem.W.Frag} {F : DF} {N : Nat} (hL : NoL K) (hF : ∀ ns : List Int, ns.length ≤ N → ∃ S', F [.ref 0] [.lst true (ns.map .int)] = .ok (.bl true) S') (H : Hp) (a : Addr) (ns : List Int) (hl : ns.length ≤ N) (hS : SqL K H a (ns.map V.int)) :
    spM K (ga K) 1 F [.ref a] H (fun v _ => v = .bl true) fun _ _ _ => False := by
  rcases hS with h | ⟨o, its, n, hk, hc, _⟩
  · have rv : ∀ (m : Mp) (l : List Int), RVs K (ga K) m H (l.map .int) (l.map V.int) := fun m l => by
      induction l with
      | nil => exact .nil
      | cons i l ih => exact .cons (.int i) ih
    obtain ⟨S', e⟩ := hF ns hl
    refine ⟨[(a, a)], [.lst true (ns.map .int)], [.ref 0], rfl, ⟨rfl, fun i b d o h1 h2 => ?_, fun i j p q h1 h2 hij => ?_⟩, .cons (.ref rfl) .nil, ?_⟩
    · cases i with
      | zero =>
        cases h1; cases h2
        exact .lstR rfl h (rv _ _)
      | succ i => simp at h1
    · cases i with
      | zero => cases j with
        | zero => exact absurd rfl hij
        | succ j => simp at h2
      | succ i => simp at h1
    · rw [e]
      intro m1 H1 x _ _ r
      cases r
      rfl
  · exact absurd hc (hL a o hk)
theorem cx_none {P : Program} {w : World} {H : Hp} {s : Shared} {e : Value} {s' : Shared} (h : L2.CX P w [] H s (fun _ _ _ => False) e s') : False := by
  obtain ⟨_, _, _, _, _, _, _, _, _, _, _, _, h⟩ := h
  exact h
/-- the law, from its machine -/
theorem law_at {l : PySem.W.OpenLaw} {w : World} {K : PySem.W.Frag} {fa : List Fa} {fn : List DefD} {ini : List IniD} {k N i : Nat} {D : DefD} {F : DF} {x : Str} {mg : Str → Option Value} {f : Addr} {h : Heap} (KX : K.In h) (G : h.Ns mainGlobals mg) (hL : NoL K) (c : SaysM l.prog fa fn ini K) (hf : mg "law" = some (.ref f)) (hi : fn[i]? = some D)
    (ha : D.at_ = (("law" : Str), none)) (hd : D.dfl = []) (hF : ∀ ns : List Int, ns.length ≤ N → ∃ S', F [.ref 0] [.lst true (ns.map .int)] = .ok (.bl true) S') (hg : ∃ j : Nat, fa[j]? = some (.glo "law"))
    (hb : ∀ (kV doc pm : Value) (an : Option Addr) (cdv ct : Value) (us : List Value), us.length = 1 → bindArgs (PySem.W.fnOf D.name D.qual D.params D.body D.scope .none kV doc pm an cdv ct) ⟨us, []⟩ = pure ([x].zip us))
    (ok : ∀ (mg : Str → Option Value) (base : Heap) (fd : FuncData), Fx l.prog fa fn ini K mg base → FunD K D.name D.qual D.params D.body D.scope (D.dvs K) (D.kws K) (fAd K D.at_) fd → FnOk l.prog w K mg base (L2.CX l.prog w) k (ga K "law") fd [x] (spM K (ga K) 1 F)) :
    LawAtS l w K (L2.CX l.prog w) k N x mg f h := by
  obtain ⟨fd, FD⟩ := c.def_ i hi
  obtain ⟨j, hj⟩ := hg
  have e := hf.symm.trans (glo_ok KX G (c.fact j hj))
  cases e
  have FD2 : FunD K D.name D.qual D.params D.body D.scope [] (D.kws K) (fAd K D.at_) fd := by
    have e : D.dvs K = [] := by unfold DefD.dvs; rw [hd]; rfl
    rw [← e]
    exact FD
  refine ⟨fd, [], spM K (ga K) 1 F, fun p hp => (by cases hp), fun p hp => (by cases hp), fun p hp => (by cases hp), fun s u => ?_, fun H a ns hl _ _ hS => sp_law hL hF H a ns hl hS, fun base kb gb _ => ok mg base fd ⟨c, kb, gb⟩ FD⟩
  exact FD2.bindsA (ps := [x]) hb s [u] rfl
end Mc
end
section
set_option Elab.async false
set_option linter.all false
set_option maxRecDepth 100000
set_option maxHeartbeats 1000000
/-! M18: list(d.values()), x += y of ints. -/
namespace Mc
open PySem PySem.Spec PyProof.Rows L2
section
variable {X : Cx} {G : Str → Addr} {W : WX} {k : Nat} {o : Expr} {p pos apos mpos : Pos} {td : TE} {fo : DE}
def tListV (td : TE) : TE := fun σ H0 Q => td σ H0 fun x H1 => ∃ a H2 kvs, x = V.ref a ∧ Alt H1 a H2 ∧ H2 a = some (.dK kvs) ∧ ∀ q, H2 q = none → Q (.ref q) (upd H2 q (.lst (kvs.map (·.2))))
theorem pe_listV (hc : X.calm = true) (hg : Gl X "list") (hm : X.mg "list" = none) (hd : PE X o td) (hbase : attributeBase o "values" X.env (eval o X.env) = eval o X.env) (hline : (apos.endLine == mpos.line) = true)
    (hse : starEach [Expr.Call (.Attribute o "values" apos) [] [] mpos] X.env = (false, eval (Expr.Call (.Attribute o "values" apos) [] [] mpos) X.env) :: starEach [] X.env) :
    PE X (.Call (.Name "list" p) [.Call (.Attribute o "values" apos) [] [] mpos] [] pos) (tListV td) := by
  refine ⟨fun pins s σ H Q I h => ?_⟩
  refine Call_ (ld_blt I hg hm (u := .type "list") (by rfl) (PyProof.Rows.callWith_type1 ?_ hse rfl))
  rw [hse]
  show wpAny _ _ (spliced ((false, eval (Expr.Call (.Attribute o "values" apos) [] [] mpos) X.env) :: backTo pos (starEach [] X.env))) _ _ s
  refine Calls.spliced_cons (wpAny_Call_method0_late hbase hline (thn (hd.run pins s σ H _ I h) fun v s1 ⟨x, H1, I0, r1, a, H2, kvs, ex, al, ha, q⟩ => ?_))
  subst ex
  obtain rfl : v = Value.ref a := r1
  have I1 := inv_alt I0 al
  obtain ⟨z, hsys, vs, rel, dof⟩ := dk_of I1.hok ha
  obtain ⟨ep, dat⟩ := dof.dictAt
  obtain ⟨ob, es, ho, ex, hdat, hko, hpr, hnd⟩ := id dat
  refine ⟨"dict", "dict.values", F.plainAttrs_dict, F.slot_dict_values, F.type_dict_values, ⟨ob, ho, ex.1⟩, fun b e => ?_, Calls.callWith_builtin rfl (PySem.evalArgs_none ?_)⟩
  · cases e
    exact ⟨ob, ho, ex.2.1⟩
  refine call_meetsIn F.slot_dict_values ⟨ob, ho, ex.1⟩ F.entry_dict_values (F.args_dict_values_1 _) (meets_dict_values (mixKind X.prog X.w) a hsys) ⟨⟨vs, dof⟩, ?_⟩
  have k1 : ∀ b u, s1.heap.get? b = some u → (s1.heap.push { cls := .type "dict_values", data := .fields #[.ref a] }).get? b = some u := fun b u e => Heap.get?_push_of_some _ e
  have dat1 : (s1.heap.push { cls := .type "dict_values", data := .fields #[.ref a] }).DictAt (mixKind X.prog X.w) a vs ep := dat.keep k1
  have I2 : Inv X pins σ H2 { s1 with heap := s1.heap.push { cls := .type "dict_values", data := .fields #[.ref a] } } := I1.kept (t' := s1.toks) k1
  refine Calls.spliced_nil ?_
  have hl : kvs.length = vs.length := KV.length rel
  refine PySem.W.kdl_call (PySem.W.kdl_values (knd := mixKind X.prog X.w) (r := s1.heap.objs.size) (d := a) (kvs := vs) (ep := ep)) (I.ok.hd hc) ⟨⟨_, Heap.get?_push_size _ rfl, rfl, rfl⟩, dat1⟩ (by rw [← hl]; exact z) fun h' tk acc' c' hkeep hS hacc => ?_
  have hn := I2.hok.fresh (a := (s1.heap.push { cls := .type "dict_values", data := .fields #[.ref a] }).objs.size) (Nat.le_refl _)
  refine ⟨.ref _, upd H2 _ (.lst (kvs.map (·.2))), I2.laid (t' := tk) hkeep (Nat.le_refl _) (show ObjOk X.prog X.w _ _ _ (.lst (kvs.map (·.2))) from ⟨by rw [List.length_map]; exact z, acc'.toList, c', vals_of_at (by rw [List.length_map, hl, ← hacc.1]; simp) fun j x w h1 h2 => ?_, by simpa using hS⟩), rfl, q _ hn⟩
  obtain ⟨key, hi⟩ := hacc.2 j w (by rw [← Array.getElem?_toList]; exact h2)
  obtain ⟨y, h3, h4⟩ := KV.at' rel hi
  rw [List.getElem?_map, h3] at h1
  cases h1
  exact h4
theorem vals_rel {K : PySem.W.Frag} {m : Mp} {H : Hp} {kvs : List (AV × AV)} {us : List (Key × V)} (q : PrA K G m H kvs us) : RVs K G m H (kvs.map (·.2)) (us.map (·.2)) := by
  induction q with
  | nil => exact .nil
  | cons h t ih => exact .cons h.2 ih
theorem se_listV (cc : Cy X W k) (ha : SE X G W o fo) (hm : X.mg "list" = none) (hg : Gl X "list" := by rfl) (hbase : attributeBase o "values" X.env (eval o X.env) = eval o X.env := by rfl) (hline : (apos.endLine == mpos.line) = true := by rfl)
    (hse : starEach [Expr.Call (.Attribute o "values" apos) [] [] mpos] X.env = (false, eval (Expr.Call (.Attribute o "values" apos) [] [] mpos) X.env) :: starEach [] X.env := by rfl) :
    SE X G W (.Call (.Name "list" p) [.Call (.Attribute o "values" apos) [] [] mpos] [] pos) (eListV fo) :=
  pe_imp (pe_listV cc.calm hg hm ha hbase hline hse) fun σ H Q ⟨m, r, S, s, re, p⟩ => by
    unfold eListV at p
    refine ⟨m, r, S, s, re, Post.bind p fun m1 H1 v S1 x e1 s1 rv p1 => ?_⟩
    split at p1
    · cases rv with
      | ref hi =>
        split at p1
        · next kvs h1 =>
          split at p1
          · next hk =>
            cases s1.obj _ _ _ _ hi h1 with
            | dk _ g q => exact ⟨_, H1, _, rfl, .inl rfl, g, fun q2 hq => post_lst s1 (vals_rel q) hq p1⟩
            | @dt _ us _ g q =>
              cases q with
              | nil =>
                obtain ⟨s3, x3⟩ := sm_asK s1 hi h1 g
                exact ⟨_, _, [], rfl, .inr (.inr ⟨g, rfl⟩), upd_same, fun q2 hq => post_lst s3 .nil hq (Post.ext x3 p1)⟩
              | cons h0 t =>
                rw [List.all_cons, Bool.and_eq_true, kT_T h0.1] at hk
                exact absurd hk.1 (by decide)
          · exact p1.elim
        · exact p1.elim
    · exact p1.elim
theorem oInt_ok {K : PySem.W.Frag} (f : Int → Int → Int) : O2 K G (oInt f) (ipI f) := by
  intro m S H v w x y W σ Q s rv rw p
  unfold oInt at p
  split at p
  · cases rv; cases rw
    exact ⟨_, _, rfl, rfl, p.ok s (.int _)⟩
  · exact p.elim
theorem ss_augI (i : Nat) {x : Str} {a : Expr} {fa : DE} {pos' : Pos} (hN : X.N.Nodup) (h : SE X G W a fa) (hi : X.N[i]? = some x := by rfl) (hx : Loc X.env.scope x := by first | exact Or.inl rfl | exact Or.inr rfl)
    (hf : X.fn x = true ∨ X.env.scope.names.lookup x = some .local := by first | exact .inl rfl | exact .inr rfl) : SS X G W (.AugAssign (.Name x pos') .Add a pos) (Mc.sAug i (oInt (· + ·)) fa) := ss_aug i hN ip_add (oInt_ok _) h hi hx hf
theorem ss_subI (i : Nat) {x : Str} {a : Expr} {fa : DE} {pos' : Pos} (hN : X.N.Nodup) (h : SE X G W a fa) (hi : X.N[i]? = some x := by rfl) (hx : Loc X.env.scope x := by first | exact Or.inl rfl | exact Or.inr rfl)
    (hf : X.fn x = true ∨ X.env.scope.names.lookup x = some .local := by first | exact .inl rfl | exact .inr rfl) : SS X G W (.AugAssign (.Name x pos') .Sub a pos) (Mc.sAug i (oInt (· - ·)) fa) := ss_aug i hN ip_sub (oInt_ok _) h hi hx hf
/-! ### list(range(..)), tuple(range(..)) -/
def rngV : List V → Option (Int × Int)
  | [.int j] => some (0, j)
  | [.int i, .int j] => some (i, j)
  | _ => none
theorem rng_rel {K : PySem.W.Frag} {m : Mp} {H : Hp} {vs : List AV} {xs : List V} {p : Int × Int} (h : rngOf vs = some p) (r : RVs K G m H vs xs) : rngV xs = some p := by
  unfold rngOf at h
  split at h
  · obtain ⟨x, rfl, r1⟩ := rvs1 r
    cases r1; cases h; rfl
  · obtain ⟨x, y, rfl, r1, r2⟩ := rvs2 r
    cases r1; cases r2; cases h; rfl
  · cases h
theorem rng_call {pins : List (Addr × Obj)} {σ : L2.St} {H : Hp} {s : Shared} {xs : List V} {us : List Value} {p : Int × Int} {Q : Value → Shared → Prop} {A : Around} {E : Value → Shared → Prop} (I : Inv X pins σ H s) (r : Vals xs us) (h : rngV xs = some p)
    (q : ∀ h' tk t u v, Inv X pins σ H { s with heap := h', toks := tk } → IsRange h' s.heap.objs.size p.1 p.2 1 t u v → Q (.ref s.heap.objs.size) { s with heap := h', toks := tk }) : wpAny (model X.prog X.w) A (call (.type "range") us) Q E s := by
  unfold rngV at h
  split at h
  · obtain ⟨u, rfl, t, rfl⟩ := vals1 r
    cases h
    exact call_range_1 (q _ _ _ _ _ (I.kept fun b o e => Heap.get?_push_of_some _ e) (Heap.get?_push_size _ rfl))
  · obtain ⟨u1, u2, rfl, ⟨t, rfl⟩, ⟨t', rfl⟩⟩ := vals2 r
    cases h
    exact call_range_2 (q _ _ _ _ _ (I.kept fun b o e => Heap.get?_push_of_some _ e) (Heap.get?_push_size _ rfl))
  · cases h
def rngVs (lo : Int) (n : Nat) : List V := (List.range n).map fun (i : Nat) => V.int (lo + (i : Int))
theorem rngL_rel {K : PySem.W.Frag} {m : Mp} {H : Hp} (lo : Int) (n : Nat) : RVs K G m H (rngL lo n) (rngVs lo n) := by
  unfold rngL rngVs
  induction List.range n with
  | nil => exact .nil
  | cons i l ih => exact .cons (.int _) ih
theorem rng_items {lo hi : Int} {acc : Array Value} (h : ItemsOf (fun i v => ∃ t, v = Value.int (lo + (i : Int) * 1) t) acc (hi - lo).toNat) : Vals (rngVs lo (hi - lo).toNat) acc.toList := by
  refine vals_of_at (by rw [rngVs, List.length_map, List.length_range, ← h.1]; simp) fun j x w h1 h2 => ?_
  obtain ⟨t, rfl⟩ := h.2 j w (by rw [← Array.getElem?_toList]; exact h2)
  have hj : j < (hi - lo).toNat := by
    have := (List.getElem?_eq_some_iff.mp h1).1
    rwa [rngVs, List.length_map, List.length_range] at this
  rw [rngVs, List.getElem?_map, List.getElem?_range hj] at h1
  cases h1
  exact ⟨t, by rw [Int.mul_one]⟩
def tRng (ta : TA) (k : List V → Hp → VK → Prop) : TE := fun σ H Q => ta σ H fun vs H1 => ∃ p, rngV vs = some p ∧ rngOk p = true ∧ k (rngVs p.1 (p.2 - p.1).toNat) H1 Q
theorem rngOk_ok {p : Int × Int} (h : rngOk p = true) : -(2 ^ 62) ≤ p.1 ∧ p.1 < 2 ^ 62 ∧ -(2 ^ 62) ≤ p.2 ∧ p.2 < 2 ^ 62 ∧ (p.2 - p.1).toNat ≤ sizeLine := by
  unfold rngOk RB at h
  simp only [Bool.and_eq_true, decide_eq_true_eq] at h
  exact ⟨h.1.1.1.1, h.1.1.1.2, h.1.1.2, h.1.2, h.2⟩
theorem pe_rngX {e : Expr} {es : List Expr} {ta : TA} {p2 pos2 : Pos} {T x : Str} {T' : String} {kf : List V → Hp → VK → Prop} (hg : Gl X x) (hm : X.mg x = none) (hv : bootBuiltins x = some (.type T')) (hgr : Gl X "range") (hmr : X.mg "range" = none) (ha : PA X (e :: es) ta)
    (hn : x ≠ "__name__") (hdb : (x == ("__debug__" : Str)) = false)
    (hs : starEach (e :: es) X.env = (false, eval e X.env) :: starEach es X.env) (hpl : (backTo pos2 (starEach es X.env)).any (·.1) = false)
    (hse : starEach [Expr.Call (.Name "range" p2) (e :: es) [] pos2] X.env = (false, eval (Expr.Call (.Name "range" p2) (e :: es) [] pos2) X.env) :: starEach [] X.env)
    (hk : ∀ (pins : List (Addr × Obj)) (s : Shared) (σ : L2.St) (H : Hp) (a : Addr) (p : Int × Int) (t u v : Tok) (Q : VK), Inv X pins σ H s → IsRange s.heap a p.1 p.2 1 t u v → rngOk p = true → kf (rngVs p.1 (p.2 - p.1).toNat) H Q →
      wpAny (model X.prog X.w) X.A (call (.type T') [.ref a]) (EP X pins σ Q) X.xe s) :
    PE X (.Call (.Name x p) [.Call (.Name "range" p2) (e :: es) [] pos2] [] pos) (tRng ta kf) := by
  refine ⟨fun pins s σ H Q I h => ?_⟩
  refine Call_ (ld_blt I hg hm hv (PyProof.Rows.callWith_type1 ?_ hse rfl) hn hdb)
  rw [hse]
  show wpAny _ _ (spliced ((false, eval (Expr.Call (.Name "range" p2) (e :: es) [] pos2) X.env) :: backTo pos (starEach [] X.env))) _ _ s
  refine Calls.spliced_cons (Call_ (ld_blt I hgr hmr PyProof.Rows.boot_range (PyProof.Rows.callWith_type1 (thn (ha.run pos2 pins s σ H _ I h) fun us s1 ⟨vs, H1, I1, r1, q, e1, ok, hq⟩ => ?_) hs hpl)))
  exact rng_call I1 r1 e1 fun h' tk t u v I2 isr => Calls.spliced_nil (hk pins _ σ H1 _ q t u v Q I2 isr ok hq)
theorem pe_rngL {e : Expr} {es : List Expr} {ta : TA} {p2 pos2 : Pos} (hc : X.calm = true) (hm : X.mg "list" = none) (hmr : X.mg "range" = none) (ha : PA X (e :: es) ta) (hg : Gl X "list") (hgr : Gl X "range")
    (hs : starEach (e :: es) X.env = (false, eval e X.env) :: starEach es X.env) (hpl : (backTo pos2 (starEach es X.env)).any (·.1) = false)
    (hse : starEach [Expr.Call (.Name "range" p2) (e :: es) [] pos2] X.env = (false, eval (Expr.Call (.Name "range" p2) (e :: es) [] pos2) X.env) :: starEach [] X.env) :
    PE X (.Call (.Name "list" p) [.Call (.Name "range" p2) (e :: es) [] pos2] [] pos) (tRng ta fun xs H Q => ∀ q, H q = none → Q (.ref q) (upd H q (.lst xs))) :=
  pe_rngX (T := "") (T' := "list") hg hm (by rfl) hgr hmr ha (by decide) (by decide) hs hpl hse fun pins s σ H a p t u v Q I isr ok hq => by
    obtain ⟨l1, l2, l3, l4, l5⟩ := rngOk_ok ok
    refine call_list_range (I.ok.hd hc) isr (small_one l1 l2 l3 l4) (PyProof.Rows.rangeSize_nat _ _) (by rw [sizeLine_eq] at l5; exact l5) fun h' tk acc c' k hS hi => ?_
    have hn := I.hok.fresh (a := s.heap.objs.size) (Nat.le_refl _)
    refine ⟨.ref _, upd H _ (.lst (rngVs p.1 (p.2 - p.1).toNat)), I.laid (t' := tk) k (Nat.le_refl _) (show ObjOk X.prog X.w _ _ _ (.lst (rngVs p.1 (p.2 - p.1).toNat)) from ⟨by rw [rngVs, List.length_map, List.length_range]; exact l5, acc.toList, c', rng_items hi, by simpa using hS⟩), rfl, hq _ hn⟩
theorem pe_rngT {e : Expr} {es : List Expr} {ta : TA} {p2 pos2 : Pos} (hc : X.calm = true) (hm : X.mg "tuple" = none) (hmr : X.mg "range" = none) (ha : PA X (e :: es) ta) (hg : Gl X "tuple") (hgr : Gl X "range")
    (hs : starEach (e :: es) X.env = (false, eval e X.env) :: starEach es X.env) (hpl : (backTo pos2 (starEach es X.env)).any (·.1) = false)
    (hse : starEach [Expr.Call (.Name "range" p2) (e :: es) [] pos2] X.env = (false, eval (Expr.Call (.Name "range" p2) (e :: es) [] pos2) X.env) :: starEach [] X.env) :
    PE X (.Call (.Name "tuple" p) [.Call (.Name "range" p2) (e :: es) [] pos2] [] pos) (tRng ta fun xs H Q => ∀ q, H q = none → Q (.ref q) (upd H q (.tup xs))) :=
  pe_rngX (T := "") (T' := "tuple") hg hm (by rfl) hgr hmr ha (by decide) (by decide) hs hpl hse fun pins s σ H a p t u v Q I isr ok hq => by
    obtain ⟨l1, l2, l3, l4, l5⟩ := rngOk_ok ok
    refine call_tuple_range (I.ok.hd hc) isr (small_one l1 l2 l3 l4) (PyProof.Rows.rangeSize_nat _ _) (by rw [sizeLine_eq] at l5; exact l5) fun h' tk acc k hi => ?_
    have I1 : Inv X pins σ H { s with heap := h', toks := tk } := I.kept k
    have hn := I1.hok.fresh (a := h'.objs.size) (Nat.le_refl _)
    have I2 : Inv X pins σ (upd H h'.objs.size (.tup (rngVs p.1 (p.2 - p.1).toNat))) { s with heap := h'.push { cls := .type "tuple", data := .seq acc }, toks := tk } :=
      I1.laid (t' := tk) (fun b o e => Heap.get?_push_of_some _ e) (Nat.le_refl _) (show ObjOk X.prog X.w _ _ _ (.tup (rngVs p.1 (p.2 - p.1).toNat)) from ⟨by rw [rngVs, List.length_map, List.length_range]; exact l5, acc.toList, rng_items hi, by simpa using IsTup.new h' acc⟩)
    exact ⟨.ref _, _, I2, rfl, hq _ hn⟩
section
variable {e : Expr} {es : List Expr} {t : DA} {p2 pos2 : Pos}
theorem se_rngL (cc : Cy X W k) (ha : SA X G W (e :: es) t) (hm : X.mg "list" = none) (hmr : X.mg "range" = none) (hg : Gl X "list" := by rfl) (hgr : Gl X "range" := by rfl)
    (hs : starEach (e :: es) X.env = (false, eval e X.env) :: starEach es X.env := by rfl) (hpl : (backTo pos2 (starEach es X.env)).any (·.1) = false := by rfl)
    (hse : starEach [Expr.Call (.Name "range" p2) (e :: es) [] pos2] X.env = (false, eval (Expr.Call (.Name "range" p2) (e :: es) [] pos2) X.env) :: starEach [] X.env := by rfl) :
    SE X G W (.Call (.Name "list" p) [.Call (.Name "range" p2) (e :: es) [] pos2] [] pos) (eCall pRngL t) :=
  pe_imp (pe_rngL cc.calm hm hmr ha hg hgr hs hpl hse) fun σ H Q ⟨m, r, S, s, re, q⟩ => by
    refine ⟨m, r, S, s, re, Post.bind q fun m1 H1 vs S1 xs e1 s1 rvs p1 => ?_⟩
    unfold pRngL at p1
    split at p1
    · next p h =>
      split at p1
      · next ok => exact ⟨p, rng_rel h rvs, ok, fun q2 hq => post_lst s1 (rngL_rel _ _) hq p1⟩
      · exact p1.elim
    · exact p1.elim
theorem se_rngT (cc : Cy X W k) (ha : SA X G W (e :: es) t) (hm : X.mg "tuple" = none) (hmr : X.mg "range" = none) (hg : Gl X "tuple" := by rfl) (hgr : Gl X "range" := by rfl)
    (hs : starEach (e :: es) X.env = (false, eval e X.env) :: starEach es X.env := by rfl) (hpl : (backTo pos2 (starEach es X.env)).any (·.1) = false := by rfl)
    (hse : starEach [Expr.Call (.Name "range" p2) (e :: es) [] pos2] X.env = (false, eval (Expr.Call (.Name "range" p2) (e :: es) [] pos2) X.env) :: starEach [] X.env := by rfl) :
    SE X G W (.Call (.Name "tuple" p) [.Call (.Name "range" p2) (e :: es) [] pos2] [] pos) (eCall pRngT t) :=
  pe_imp (pe_rngT cc.calm hm hmr ha hg hgr hs hpl hse) fun σ H Q ⟨m, r, S, s, re, q⟩ => by
    refine ⟨m, r, S, s, re, Post.bind q fun m1 H1 vs S1 xs e1 s1 rvs p1 => ?_⟩
    unfold pRngT at p1
    split at p1
    · next p h =>
      split at p1
      · next ok => exact ⟨p, rng_rel h rvs, ok, fun q2 hq => post_tup s1 (rngL_rel _ _) hq p1⟩
      · exact p1.elim
    · exact p1.elim
end
end
end Mc
end
section
set_option Elab.async false
set_option linter.all false
set_option maxRecDepth 100000
/-! the functions of the law as the machine has them (written by gen.py) -/
namespace Mc.Lk83
open PySem
def ct : CT := fun c d =>
  if c = "InvalidOperation" ∧ d = "InvalidOperation" then some true else
  if c = "InvalidOperation" ∧ d = "TooMany" then some false else
  if c = "InvalidTable" ∧ d = "InvalidOperation" then some false else
  if c = "InvalidTable" ∧ d = "TooMany" then some false else
  if c = "TooMany" ∧ d = "InvalidOperation" then some false else
  if c = "TooMany" ∧ d = "TooMany" then some true else
  none
/-- is_whole(value): slots value -/
def d_is_whole : DF := mkF 1 (sRet (eAndB (eCall pIsi (aCons (eLoc 0) (aCons (eK (.ty "int")) (aNil)))) (eNotB (eCall pIsi (aCons (eLoc 0) (aCons (eK (.ty "bool")) (aNil)))))))
/-- is_integer(value): slots value -/
def d_is_integer : DF := mkF 1 (sRet (eAndB (eCall d_is_whole (aCons (eLoc 0) (aNil))) (eCh cLt cLt (e1 oNeg (eK (.int 1000000000000000000000000000000000000000000000000000000000000))) (eLoc 0) (eK (.int 1000000000000000000000000000000000000000000000000000000000000)))))
/-- is_polynomial(value): slots value, entry -/
def d_is_polynomial : DF := mkF 2 (sSeq (sIf (Mc.tOr (Mc.tNot (tB (eCall pIsi (aCons (eLoc 0) (aCons (eK (.ty "tuple")) (aNil)))))) (Mc.tNot (tB (eCall pAll (aCons (eLc [1] (iSeq (eLoc 0)) (gNm 1) (Mc.tYes) (eCall d_is_integer (aCons (eLoc 1) (aNil)))) (aNil)))))) (sRet (eK (.bl false))) (sNil)) (sRet (eOrB (e2 cEq (eLoc 0) (eTup (aNil))) (e2 cNe (e2 oIx (eLoc 0) (e1 oNeg (eK (.int 1)))) (eK (.int 0))))))
/-- without_root(polynomial): slots polynomial, found, total, entry -/
def d_without_root : DF := mkF 4 (sSeq (sPar 1 2 (aCons (eLst (aNil)) (aCons (eK (.int 0)) (aNil)))) (sSeq (Mc.sFor (iSeq (e1 (oRev 1) (eLoc 0))) (gNm 3) (sSeq (Mc.sAug 2 (oInt (· + ·)) (eLoc 3)) (sExpr (eMt "list" mAppend (eLoc 1) (aCons (eLoc 2) (aNil)))))) (sRet (eCall pTuple (aCons (e1 (oRev 0) (eLoc 1)) (aNil))))))
/-- at_one(polynomial): slots polynomial, times, left -/
def d_at_one : DF := mkF 3 (sSeq (sIf (Mc.tOr (Mc.tNot (tB (eCall d_is_polynomial (aCons (eLoc 0) (aNil))))) (Mc.tC cEq (eLoc 0) (eTup (aNil)))) (Mc.sRaise "InvalidTable" (aCons (eK (.str "a polynomial other than zero is expected")) (aNil))) (sNil)) (sSeq (sPar 1 2 (aCons (eK (.int 0)) (aCons (eLoc 0) (aNil)))) (sSeq (Mc.sWhile (Mc.tC cEq (eCall pSum (aCons (eLoc 2) (aNil))) (eK (.int 0))) (sPar 1 2 (aCons (e2 oAdd (eLoc 1) (eK (.int 1))) (aCons (eCall d_without_root (aCons (eLoc 2) (aNil))) (aNil))))) (sRet (eTup (aCons (eLoc 1) (aCons (eCall pSum (aCons (eLoc 2) (aNil))) (aNil))))))))
/-- _law_dice(_law_script, _law_spot): slots _law_script, _law_spot, _law_cell, _law_left -/
def d_q_dice : DF := mkF 4 (sSeq (sAsg (eIf (Mc.tC cLt (eLoc 1) (eCall pLen (aCons (eLoc 0) (aNil)))) (eCall pInt (aCons (e2 oIx (eLoc 0) (eLoc 1)) (aNil))) (e2 oAdd (e2 oMul (eK (.int 83)) (eLoc 1)) (eK (.int 29)))) (gNm 2)) (sSeq (sAsg (e2 oMod (eCall pMax (aCons (eK (.int 0)) (aCons (e2 oSub (eCall pAbs (aCons (eLoc 2) (aNil))) (e2 oPow (eK (.int 10)) (eK (.int 16)))) (aNil)))) (e2 oMul (e2 oPow (eK (.int 10)) (eK (.int 60))) (e2 oPow (eK (.int 10)) (eK (.int 60))))) (gNm 3)) (sRet (eLst (aCons (eLoc 3) (aCons (e2 oAdd (e2 oAdd (e2 oAdd (e2 oMul (e2 oMod (eCall pAbs (aCons (eLoc 2) (aNil))) (eK (.int 1152921504606846899))) (eK (.int 47))) (e2 oMul (eK (.int 839)) (eLoc 1))) (e2 oMul (eK (.int 41)) (eCall pInt (aCons (e2 cLt (eLoc 2) (eK (.int 0))) (aNil))))) (eK (.int 7))) (aCons (eK (.int 0)) (aNil))))))))
/-- is_factor_table(value): slots value, number, times -/
def d_is_factor_table : DF := mkF 3 (sSeq (sIf (Mc.tOr (Mc.tNot (tB (eCall pIsi (aCons (eLoc 0) (aCons (eK (.ty "dict")) (aNil)))))) (Mc.tC cGt (eCall pLen (aCons (eLoc 0) (aNil))) (eK (.int 60)))) (sRet (eK (.bl false))) (sNil)) (sSeq (sIf (Mc.tNot (tB (eCall pAll (aCons (lkE (eLoc 0) (eLc [1] (iDct true uKeys (eLoc 0)) (gNm 1) (Mc.tYes) (eAndB (eCall d_is_integer (aCons (eLoc 1) (aNil))) (eCh cLe cLe (eK (.int 1)) (eLoc 1) (eK (.int 10000)))))) (aNil))))) (sRet (eK (.bl false))) (sNil)) (sRet (eCall pAll (aCons (lkE (eLoc 0) (eLc [2] (iDct false uVals (eLoc 0)) (gNm 2) (Mc.tYes) (eAndB (eCall d_is_integer (aCons (eLoc 2) (aNil))) (eAndB (e2 cNe (eLoc 2) (eK (.int 0))) (e2 cLe (eCall pAbs (aCons (eLoc 2) (aNil))) (eK (.int 1000))))))) (aNil))))))
/-- is_whole_table(factors): slots factors, divisor, number, times -/
def d_is_whole_table : DF := mkF 4 (sSeq (Mc.sFor (iRng2 (aCons (eK (.int 1)) (aCons (e2 oAdd (pMaxD (eLoc 0) (eK (.int 0))) (eK (.int 1))) (aNil)))) (gNm 1) (sIf (Mc.tC cLt (eCall pSum (aCons (lkE (eLoc 0) (eLc [2, 3] (iDct false uItems (eLoc 0)) (Mc.gTup 2 (gsCons (gNm 2) (gsCons (gNm 3) (gsNil)))) (Mc.tC cEq (e2 oMod (eLoc 2) (eLoc 1)) (eK (.int 0))) (eLoc 3))) (aNil))) (eK (.int 0))) (sRet (eK (.bl false))) (sNil))) (sRet (eK (.bl true))))
/-- degree_of_table(factors): slots factors, number, times -/
def d_degree_of_table : DF := mkF 3 (sRet (eCall pSum (aCons (lkE (eLoc 0) (eLc [1, 2] (iDct false uItems (eLoc 0)) (Mc.gTup 2 (gsCons (gNm 1) (gsCons (gNm 2) (gsNil)))) (Mc.tYes) (e2 oMul (eLoc 1) (eLoc 2)))) (aNil))))
/-- trimmed_entries(entries): slots entries, size -/
def d_trimmed_entries : DF := mkF 2 (sSeq (sAsg (eCall pLen (aCons (eLoc 0) (aNil))) (gNm 1)) (sSeq (Mc.sWhile (Mc.tAnd (Mc.tC cGt (eLoc 1) (eK (.int 0))) (Mc.tC cEq (e2 oIx (eLoc 0) (e2 oSub (eLoc 1) (eK (.int 1)))) (eK (.int 0)))) (Mc.sAug 1 (oInt (· - ·)) (eK (.int 1)))) (sRet (eCall pTuple (aCons (eSl (eLoc 0) (oNo) (oYes (eLoc 1))) (aNil))))))
/-- multiplied_in(entries, number): slots entries, number, found, at -/
def d_multiplied_in : DF := mkF 4 (sSeq (sAsg (eCall pListD (aCons (eLoc 0) (aNil))) (gNm 2)) (sSeq (Mc.sFor (iRng3 (aCons (e2 oSub (eCall pLen (aCons (eLoc 2) (aNil))) (eK (.int 1))) (aCons (e2 oSub (eLoc 1) (eK (.int 1))) (aCons (e1 oNeg (eK (.int 1))) (aNil))))) (gNm 3) (sAsg (e2 oSub (e2 oIx (eLoc 2) (eLoc 3)) (e2 oIx (eLoc 2) (e2 oSub (eLoc 3) (eLoc 1)))) (Mc.gSub (eLoc 2) (eLoc 3)))) (sRet (eLoc 2))))
/-- divided_by(entries, number): slots entries, number, found, at -/
def d_divided_by : DF := mkF 4 (sSeq (sAsg (eCall pListD (aCons (eLoc 0) (aNil))) (gNm 2)) (sSeq (Mc.sFor (iRng2 (aCons (eLoc 1) (aCons (eCall pLen (aCons (eLoc 2) (aNil))) (aNil)))) (gNm 3) (sAsg (e2 oAdd (e2 oIx (eLoc 2) (eLoc 3)) (e2 oIx (eLoc 2) (e2 oSub (eLoc 3) (eLoc 1)))) (Mc.gSub (eLoc 2) (eLoc 3)))) (sRet (eLoc 2))))
/-- expanded(factors): slots factors, entries, turn, sign, number, times, entry -/
def d_expanded : DF := mkF 7 (sSeq (sAsg (e2 oAdd (eLst (aCons (eK (.int 1)) (aNil))) (eLc [2] (iRng1 (aCons (eCall d_degree_of_table (aCons (eLoc 0) (aNil))) (aNil))) (gNm 2) (Mc.tYes) (eK (.int 0)))) (gNm 1)) (sSeq (sAsg (eK (.int 1)) (gNm 3)) (sSeq (lkS (eLoc 0) (Mc.sFor (iDct false uItems (eLoc 0)) (Mc.gTup 2 (gsCons (gNm 4) (gsCons (gNm 5) (gsNil)))) (sSeq (sIf (Mc.tC cEq (e2 oMod (eLoc 5) (eK (.int 2))) (eK (.int 1))) (sAsg (e1 oNeg (eLoc 3)) (gNm 3)) (sNil)) (Mc.sFor (iRng1 (aCons (eIf (Mc.tC cLt (eLoc 4) (eCall pLen (aCons (eLoc 1) (aNil)))) (eCall pAbs (aCons (eLoc 5) (aNil))) (eK (.int 0))) (aNil))) (gNm 2) (sAsg (eIf (Mc.tC cGt (eLoc 5) (eK (.int 0))) (eCall d_multiplied_in (aCons (eLoc 1) (aCons (eLoc 4) (aNil)))) (eCall d_divided_by (aCons (eLoc 1) (aCons (eLoc 4) (aNil))))) (gNm 1)))))) (sRet (eCall d_trimmed_entries (aCons (eLc [6] (iSeq (eLoc 1)) (gNm 6) (Mc.tYes) (e2 oMul (eLoc 3) (eLoc 6))) (aNil)))))))
/-- product_of(factors): slots factors -/
def d_product_of : DF := mkF 1 (sSeq (sIf (Mc.tNot (tB (eCall d_is_factor_table (aCons (eLoc 0) (aNil))))) (Mc.sRaise "InvalidTable" (aCons (eK (.str "a factor table is expected")) (aNil))) (sNil)) (sSeq (sIf (Mc.tNot (tB (eCall d_is_whole_table (aCons (eLoc 0) (aNil))))) (Mc.sRaise "InvalidOperation" (aCons (eK (.str "a factor table whose product is a polynomial is expected")) (aNil))) (sNil)) (sSeq (sIf (Mc.tC cGt (eCall d_degree_of_table (aCons (eLoc 0) (aNil))) (eK (.int 400))) (Mc.sRaiseV "TooMany" "limit" (eK (.int 400))) (sNil)) (sRet (eCall d_expanded (aCons (eLoc 0) (aNil)))))))
/-- _law_told(_law_factors): slots _law_factors, error -/
def d_q_told : DF := mkF 2 (sTry ct (sRet (eCall d_product_of (aCons (eLoc 0) (aNil)))) [⟨"InvalidOperation", none, xK (eK (.str "none"))⟩, ⟨"TooMany", some 1, xF "limit" (kStr "many ")⟩])
/-- _law_roll(_law_dice_here, _law_total): slots _law_dice_here, _law_total, _law_found, _law_one, _law_two -/
def d_q_roll : DF := mkF 5 (sSeq (sIf (Mc.tC cGt (e2 oIx (eLoc 0) (eK (.int 0))) (eK (.int 0))) (sSeq (sAsg (e2 oMod (eCall pInt (aCons (e2 oIx (eLoc 0) (eK (.int 0))) (aNil))) (eLoc 1)) (gNm 2)) (sSeq (sAsg (e2 oDiv (e2 oIx (eLoc 0) (eK (.int 0))) (eLoc 1)) (Mc.gSub (eLoc 0) (eK (.int 0)))) (sRet (eLoc 2)))) (sNil)) (sSeq (sAsg (e2 oAdd (e2 oIx (eLoc 0) (eK (.int 2))) (eK (.int 1))) (Mc.gSub (eLoc 0) (eK (.int 2)))) (sSeq (sAsg (e2 oMod (eCall pInt (aCons (e2 oAdd (e2 oIx (eLoc 0) (eK (.int 1))) (e2 oMul (eK (.int 32452867)) (e2 oIx (eLoc 0) (eK (.int 2))))) (aNil))) (eK (.int 2305843009213693907))) (gNm 3)) (sSeq (sAsg (e2 oAdd (e2 oMul (e2 oMod (eCall pInt (aCons (e2 oAdd (e2 oMul (eLoc 3) (eLoc 3)) (e2 oMul (eK (.int 97)) (e2 oIx (eLoc 0) (eK (.int 2))))) (aNil))) (eK (.int 2305843009213693921))) (eK (.int 6700417))) (eLoc 3)) (gNm 4)) (sRet (e2 oMod (eCall pInt (aCons (e2 oDiv (eLoc 4) (eK (.int 65536))) (aNil))) (eLoc 1)))))))
/-- _law_whole_cut(_law_row): slots _law_row, _law_size -/
def d_q_whole_cut : DF := mkF 2 (sSeq (sAsg (eCall pLen (aCons (eLoc 0) (aNil))) (gNm 1)) (sSeq (Mc.sWhile (Mc.tAnd (Mc.tC cGt (eLoc 1) (eK (.int 0))) (Mc.tC cEq (e2 oIx (eLoc 0) (e2 oSub (eLoc 1) (eK (.int 1)))) (eK (.int 0)))) (sAsg (e2 oSub (eLoc 1) (eK (.int 1))) (gNm 1))) (sRet (eCall pTuple (aCons (eSl (eLoc 0) (oNo) (oYes (eLoc 1))) (aNil))))))
/-- _law_whole_product(_law_one, _law_other): slots _law_one, _law_other, _law_found, _law_at, _law_entry, _law_to, _law_factor -/
def d_q_whole_product : DF := mkF 7 (sSeq (sAsg (e2 oMul (eLst (aCons (eK (.int 0)) (aNil))) (eCall pMax (aCons (eK (.int 0)) (aCons (e2 oSub (e2 oAdd (eCall pLen (aCons (eLoc 0) (aNil))) (eCall pLen (aCons (eLoc 1) (aNil)))) (eK (.int 1))) (aNil))))) (gNm 2)) (sSeq (Mc.sFor (iEnum1 (aCons (eLoc 0) (aNil))) (Mc.gTup 2 (gsCons (gNm 3) (gsCons (gNm 4) (gsNil)))) (Mc.sFor (iEnum1 (aCons (eLoc 1) (aNil))) (Mc.gTup 2 (gsCons (gNm 5) (gsCons (gNm 6) (gsNil)))) (sAsg (e2 oAdd (e2 oIx (eLoc 2) (e2 oAdd (eLoc 3) (eLoc 5))) (e2 oMul (eLoc 4) (eLoc 6))) (Mc.gSub (eLoc 2) (e2 oAdd (eLoc 3) (eLoc 5)))))) (sRet (eCall d_q_whole_cut (aCons (eLoc 2) (aNil))))))
/-- _law_is_whole_table(_law_factors): slots _law_factors, _law_divisor, _law_one -/
def d_q_is_whole_table : DF := mkF 3 (sSeq (Mc.sFor (iRng2 (aCons (eK (.int 1)) (aCons (e2 oAdd (eCall pMax (aCons (e2 oAdd (eCall pListD (aCons (eLoc 0) (aNil))) (eLst (aCons (eK (.int 0)) (aNil)))) (aNil))) (eK (.int 1))) (aNil)))) (gNm 1) (sIf (Mc.tC cLt (eCall pSum (aCons (lkE (eLoc 0) (eLc [2] (iDct true uKeys (eLoc 0)) (gNm 2) (Mc.tC cEq (e2 oMod (eLoc 2) (eLoc 1)) (eK (.int 0))) (e2 oIx (eLoc 0) (eLoc 2)))) (aNil))) (eK (.int 0))) (sRet (eK (.bl false))) (sNil))) (sRet (eK (.bl true))))
/-- _law_factored(_law_factors): slots _law_factors, _law_degree, _law_one, _law_found, _law_turn, _law_places, _law_at, _law_sign, _law_entry -/
def d_q_factored : DF := mkF 9 (sSeq (sAsg (eCall pSum (aCons (lkE (eLoc 0) (eLc [2] (iDct true uKeys (eLoc 0)) (gNm 2) (Mc.tYes) (e2 oMul (eLoc 2) (e2 oIx (eLoc 0) (eLoc 2))))) (aNil))) (gNm 1)) (sSeq (sAsg (e2 oAdd (eLst (aCons (eK (.int 1)) (aNil))) (e2 oMul (eLst (aCons (eK (.int 0)) (aNil))) (eLoc 1))) (gNm 3)) (sSeq (lkS (eLoc 0) (Mc.sFor (iDct true uKeys (eLoc 0)) (gNm 2) (Mc.sFor (iRng1 (aCons (eCall pAbs (aCons (e2 oIx (eLoc 0) (eLoc 2)) (aNil))) (aNil))) (gNm 4) (sSeq (sAsg (eCall pRngL (aCons (eLoc 2) (aCons (e2 oAdd (eLoc 1) (eK (.int 1))) (aNil)))) (gNm 5)) (Mc.sFor (iSeq (eIf (Mc.tC cGt (e2 oIx (eLoc 0) (eLoc 2)) (eK (.int 0))) (e1 (oRev 0) (eLoc 5)) (eLoc 5))) (gNm 6) (sAsg (eIf (Mc.tC cGt (e2 oIx (eLoc 0) (eLoc 2)) (eK (.int 0))) (e2 oSub (e2 oIx (eLoc 3) (eLoc 6)) (e2 oIx (eLoc 3) (e2 oSub (eLoc 6) (eLoc 2)))) (e2 oAdd (e2 oIx (eLoc 3) (eLoc 6)) (e2 oIx (eLoc 3) (e2 oSub (eLoc 6) (eLoc 2))))) (Mc.gSub (eLoc 3) (eLoc 6)))))))) (sSeq (sAsg (eIf (Mc.tC cEq (e2 oMod (eCall pSum (aCons (lkE (eLoc 0) (eLc [2] (iDct true uKeys (eLoc 0)) (gNm 2) (Mc.tYes) (e2 oIx (eLoc 0) (eLoc 2)))) (aNil))) (eK (.int 2))) (eK (.int 1))) (e1 oNeg (eK (.int 1))) (eK (.int 1))) (gNm 7)) (sRet (eCall pTuple (aCons (eLc [8] (iSeq (eLoc 3)) (gNm 8) (Mc.tYes) (e2 oMul (eLoc 7) (eLoc 8))) (aNil))))))))
/-- _law_parted_at_one(_law_row): slots _law_row, _law_many, _law_here, _law_later, _law_carry, _law_entry -/
def d_q_parted_at_one : DF := mkF 6 (sSeq (sPar 1 2 (aCons (eK (.int 0)) (aCons (eCall pListD (aCons (eLoc 0) (aNil))) (aNil)))) (sSeq (Mc.sWhile (Mc.tC cEq (eCall pSum (aCons (eLoc 2) (aNil))) (eK (.int 0))) (sSeq (sPar 3 4 (aCons (eLst (aNil)) (aCons (eK (.int 0)) (aNil)))) (sSeq (Mc.sFor (iSeq (e1 (oRev 0) (eLoc 2))) (gNm 5) (sSeq (sAsg (e2 oAdd (eLoc 4) (eLoc 5)) (gNm 4)) (sExpr (eMt "list" mAppend (eLoc 3) (aCons (eLoc 4) (aNil)))))) (sPar 1 2 (aCons (e2 oAdd (eLoc 1) (eK (.int 1))) (aCons (e1 (oRev 0) (eSl (eLoc 3) (oNo) (oYes (e1 oNeg (eK (.int 1)))))) (aNil))))))) (sRet (eTup (aCons (eLoc 1) (aCons (eCall pSum (aCons (eLoc 2) (aNil))) (aNil)))))))
/-- _law_pick(_law_dice_here, _law_items): slots _law_dice_here, _law_items -/
def d_q_pick : DF := mkF 2 (sRet (e2 oIx (eLoc 1) (eCall d_q_roll (aCons (eLoc 0) (aCons (eCall pLen (aCons (eLoc 1) (aNil))) (aNil))))))
/-- _law_factors_drawn(_law_dice_here): slots _law_dice_here, _law_found, _law_turn, _law_one, _law_many, _law_part, _law_less -/
def d_q_factors_drawn : DF := mkF 7 (sSeq (sAsg (eDct0) (gNm 1)) (sSeq (Mc.sFor (iRng1 (aCons (e2 oAdd (eK (.int 1)) (eCall d_q_roll (aCons (eLoc 0) (aCons (eK (.int 4)) (aNil))))) (aNil))) (gNm 2) (sSeq (sAsg (eTup (aCons (e2 oAdd (eK (.int 1)) (eCall d_q_roll (aCons (eLoc 0) (aCons (eK (.int 14)) (aNil))))) (aCons (e2 oAdd (eK (.int 1)) (eCall d_q_roll (aCons (eLoc 0) (aCons (eK (.int 2)) (aNil))))) (aNil)))) (Mc.gTup 2 (gsCons (gNm 3) (gsCons (gNm 4) (gsNil))))) (sSeq (sAsg (e2 oAdd (eGet2 (eLoc 1) (eLoc 3) (eK (.int 0))) (eLoc 4)) (Mc.gSub (eLoc 1) (eLoc 3))) (sSeq (sAsg (eLc [6] (iRng2 (aCons (eK (.int 1)) (aCons (e2 oAdd (eLoc 3) (eK (.int 1))) (aNil)))) (gNm 6) (Mc.tC cEq (e2 oMod (eLoc 3) (eLoc 6)) (eK (.int 0))) (eLoc 6)) (gNm 5)) (sSeq (sAsg (eIf (Mc.tC cGt (eCall d_q_roll (aCons (eLoc 0) (aCons (eK (.int 5)) (aNil)))) (eK (.int 0))) (eCall d_q_pick (aCons (eLoc 0) (aCons (eLoc 5) (aNil)))) (e2 oAdd (eK (.int 1)) (eCall d_q_roll (aCons (eLoc 0) (aCons (eK (.int 14)) (aNil)))))) (gNm 6)) (sAsg (e2 oSub (eGet2 (eLoc 1) (eLoc 6) (eK (.int 0))) (eCall d_q_roll (aCons (eLoc 0) (aCons (eK (.int 2)) (aNil))))) (Mc.gSub (eLoc 1) (eLoc 6)))))))) (sRet (eCall pDict (aCons (lkE (eLoc 1) (eLc [3] (iDct true uKeys (eLoc 1)) (gNm 3) (Mc.tC cNe (e2 oIx (eLoc 1) (eLoc 3)) (eK (.int 0))) (eTup (aCons (eLoc 3) (aCons (e2 oIx (eLoc 1) (eLoc 3)) (aNil)))))) (aNil))))))
/-- _law_is_judged(_law_dice_here): slots _law_dice_here, _law_row, _law_turn, _law_values, _law_due, _law_value -/
def d_q_is_judged : DF := mkF 6 (sSeq (sAsg (eCall pTuple (aCons (eLc [2] (iRng1 (aCons (eCall d_q_roll (aCons (eLoc 0) (aCons (eK (.int 5)) (aNil)))) (aNil))) (gNm 2) (Mc.tYes) (e2 oSub (eCall d_q_roll (aCons (eLoc 0) (aCons (eK (.int 7)) (aNil)))) (eK (.int 3)))) (aNil))) (gNm 1)) (sSeq (sAsg (eLst (aCons (eLoc 1) (aCons (e2 oAdd (eLoc 1) (eTup (aCons (eK (.int 0)) (aNil)))) (aCons (e2 oAdd (eLoc 1) (eTup (aCons (eK (.int 1)) (aNil)))) (aCons (eTup (aCons (eK (.int 1)) (aCons (eK (.bl true)) (aNil)))) (aCons (eTup (aCons (e2 oPow (eK (.int 10)) (eK (.int 60))) (aNil))) (aCons (eTup (aCons (e2 oPow (eK (.int 10)) (eK (.int 59))) (aCons (eK (.int 1)) (aNil)))) (aCons (eCall pListD (aCons (eLoc 1) (aNil))) (aCons (eK .non) (aCons (eK (.str "1")) (aCons (eK (.int 3)) (aCons (eTup (aCons (eK .non) (aCons (eK (.int 1)) (aNil)))) (aCons (eTup (aCons (eTup (aCons (eK (.int 1)) (aNil))) (aNil))) (aNil)))))))))))))) (gNm 3)) (sSeq (sAsg (e2 oAdd (eLst (aCons (eOrB (e2 cEq (eLoc 1) (eTup (aNil))) (e2 cNe (e2 oIx (eLoc 1) (e1 oNeg (eK (.int 1)))) (eK (.int 0)))) (aCons (eK (.bl false)) (aCons (eK (.bl true)) (aCons (eK (.bl false)) (aCons (eK (.bl false)) (aCons (eK (.bl true)) (aNil)))))))) (e2 oMul (eLst (aCons (eK (.bl false)) (aNil))) (eK (.int 6)))) (gNm 4)) (sRet (e2 cEq (eLc [5] (iSeq (eLoc 3)) (gNm 5) (Mc.tYes) (eCall d_is_polynomial (aCons (eLoc 5) (aNil)))) (eLoc 4))))))
/-- _law_right(_law_dice_here): slots _law_dice_here, _law_turn, _law_factors, _law_told_here, _law_is_one, _law_one, _law_row -/
def d_q_right : DF := mkF 7 (sSeq (Mc.sFor (iRng1 (aCons (eK (.int 3)) (aNil))) (gNm 1) (sSeq (sAsg (eCall d_q_factors_drawn (aCons (eLoc 0) (aNil))) (gNm 2)) (sSeq (sPar 3 4 (aCons (eCall d_q_told (aCons (eLoc 2) (aNil))) (aCons (eCall d_q_is_whole_table (aCons (eLoc 2) (aNil))) (aNil)))) (sSeq (sIf (Mc.tC cEq (e2 cEq (eLoc 3) (eK (.str "none"))) (eLoc 4)) (sRet (eK (.bl false))) (sNil)) (sIf (tV (eLoc 4)) (sSeq (sIf (Mc.tOr (Mc.tC cNe (eLoc 3) (eCall d_q_factored (aCons (eLoc 2) (aNil)))) (Mc.tC cNe (e2 oIx (eLoc 3) (e1 oNeg (eK (.int 1)))) (eK (.int 1)))) (sRet (eK (.bl false))) (sNil)) (sSeq (sIf (Mc.tC cNe (e2 oSub (eCall pLen (aCons (eLoc 3) (aNil))) (eK (.int 1))) (eCall pSum (aCons (lkE (eLoc 2) (eLc [5] (iDct true uKeys (eLoc 2)) (gNm 5) (Mc.tYes) (e2 oMul (eLoc 5) (e2 oIx (eLoc 2) (eLoc 5))))) (aNil)))) (sRet (eK (.bl false))) (sNil)) (sIf (Mc.tOr (Mc.tC cNe (eCall d_at_one (aCons (eLoc 3) (aNil))) (eCall d_q_parted_at_one (aCons (eLoc 3) (aNil)))) (Mc.tC cNe (e2 oIx (eCall d_at_one (aCons (eLoc 3) (aNil))) (eK (.int 0))) (eCall pSum (aCons (eListV (eLoc 2)) (aNil))))) (sRet (eK (.bl false))) (sNil)))) (sNil)))))) (sSeq (sAsg (e2 oAdd (eCall pTuple (aCons (eLc [1] (iRng1 (aCons (eCall d_q_roll (aCons (eLoc 0) (aCons (eK (.int 6)) (aNil)))) (aNil))) (gNm 1) (Mc.tYes) (e2 oSub (eCall d_q_roll (aCons (eLoc 0) (aCons (eK (.int 7)) (aNil)))) (eK (.int 3)))) (aNil))) (eTup (aCons (e2 oAdd (eK (.int 1)) (eCall d_q_roll (aCons (eLoc 0) (aCons (eK (.int 3)) (aNil))))) (aNil)))) (gNm 6)) (sSeq (Mc.sFor (iRng1 (aCons (eCall d_q_roll (aCons (eLoc 0) (aCons (eK (.int 3)) (aNil)))) (aNil))) (gNm 1) (sAsg (eCall d_q_whole_product (aCons (eLoc 6) (aCons (eTup (aCons (e1 oNeg (eK (.int 1))) (aCons (eK (.int 1)) (aNil)))) (aNil)))) (gNm 6))) (sRet (eAndB (e2 cEq (eCall d_at_one (aCons (eLoc 6) (aNil))) (eCall d_q_parted_at_one (aCons (eLoc 6) (aNil)))) (eCall d_q_is_judged (aCons (eLoc 0) (aNil))))))))
/-- law(_law_script): slots _law_script, _law_spot, _law_told_here, _law_one, _law_at -/
def d_law : DF := mkF 5 (sSeq (Mc.sFor (iRng1 (aCons (eCall pMax (aCons (eK (.int 1)) (aCons (eCall pMin (aCons (eK (.int 3)) (aCons (eCall pLen (aCons (eLoc 0) (aNil))) (aNil)))) (aNil)))) (aNil))) (gNm 1) (sIf (Mc.tNot (tB (eCall d_q_right (aCons (eCall d_q_dice (aCons (eLoc 0) (aCons (eLoc 1) (aNil)))) (aNil))))) (sRet (eK (.bl false))) (sNil))) (sSeq (sAsg (eLc [3] (iSeq (eTup (aCons (eDct0) (aCons (eDct (dCons (eK (.int 1)) (eK (.int 1)) (dCons (eK (.int 3)) (eK (.int 1)) (dNil)))) (aCons (eDct (dCons (eK (.int 2)) (eK (.int 1)) (dCons (eK (.int 3)) (e1 oNeg (eK (.int 1))) (dNil)))) (aCons (eDct (dCons (eK (.int 401)) (eK (.int 1)) (dNil))) (aCons (eDct (dCons (eK (.int 400)) (eK (.int 1)) (dCons (eK (.int 100)) (e1 oNeg (eK (.int 1))) (dNil)))) (aCons (eDct (dCons (eK (.int 10000)) (eK (.int 1)) (dCons (eK (.int 5000)) (e1 oNeg (eK (.int 2))) (dCons (eK (.int 2)) (eK (.int 5)) (dNil))))) (aNil))))))))) (gNm 3) (Mc.tYes) (eCall d_q_told (aCons (eLoc 3) (aNil)))) (gNm 2)) (sSeq (sIf (Mc.tOr (Mc.tC cNe (eSl (eLoc 2) (oNo) (oYes (eK (.int 4)))) (eLst (aCons (eTup (aCons (eK (.int 1)) (aNil))) (aCons (eTup (aCons (eK (.int 1)) (aCons (e1 oNeg (eK (.int 1))) (aCons (eK (.int 0)) (aCons (e1 oNeg (eK (.int 1))) (aCons (eK (.int 1)) (aNil))))))) (aCons (eK (.str "none")) (aCons (eK (.str "many 400")) (aNil))))))) (Mc.tC cNe (e2 oIx (eLoc 2) (eK (.int 5))) (eK (.str "none")))) (sRet (eK (.bl false))) (sNil)) (sRet (eAndB (e2 cEq (e2 oIx (eLoc 2) (eK (.int 4))) (eCall pTuple (aCons (eLc [4] (iRng1 (aCons (eK (.int 301)) (aNil))) (gNm 4) (Mc.tYes) (eCall pInt (aCons (e2 cEq (e2 oMod (eLoc 4) (eK (.int 100))) (eK (.int 0))) (aNil)))) (aNil)))) (e2 cEq (eCall d_at_one (aCons (eTup (aCons (eK (.int 3)) (aCons (e1 oNeg (eK (.int 5))) (aNil)))) (aNil))) (eTup (aCons (eK (.int 0)) (aCons (e1 oNeg (eK (.int 2))) (aNil))))))))))
end Mc.Lk83
end
section
set_option Elab.async false
set_option linter.all false
set_option maxRecDepth 100000
set_option maxHeartbeats 0
/-! the walk (written by gen.py) -/
namespace Mc.Lk83
open PySem PySem.Spec PyProof.Rows L2 He
abbrev PP : Program := (PySem.W.OpenLaw.row PySem.Challenge.rw_touchtowers_k83_whole_products_of_factor).prog
def top (i : Nat) : Stmt := PP.main.body.getD i (.Pass ⟨0, 0, 0, 0⟩)
def topC (i : Nat) : Stmt := match top i with
  | .ClassDef _ _ _ b _ _ _ _ _ _ _ => b.getD 0 (.Pass ⟨0, 0, 0, 0⟩)
  | s => s
def D_is_whole : DefD := ⟨("is_whole", none), "is_whole", "is_whole", defArgs (top 7), defBody (top 7), defScope (top 7), [], []⟩
def D_is_integer : DefD := ⟨("is_integer", none), "is_integer", "is_integer", defArgs (top 8), defBody (top 8), defScope (top 8), [], []⟩
def D_is_polynomial : DefD := ⟨("is_polynomial", none), "is_polynomial", "is_polynomial", defArgs (top 15), defBody (top 15), defScope (top 15), [], []⟩
def D_without_root : DefD := ⟨("without_root", none), "without_root", "without_root", defArgs (top 23), defBody (top 23), defScope (top 23), [], []⟩
def D_at_one : DefD := ⟨("at_one", none), "at_one", "at_one", defArgs (top 24), defBody (top 24), defScope (top 24), [], []⟩
def D_q_dice : DefD := ⟨("_law_dice", none), "_law_dice", "_law_dice", defArgs (top 26), defBody (top 26), defScope (top 26), [], []⟩
def D_is_factor_table : DefD := ⟨("is_factor_table", none), "is_factor_table", "is_factor_table", defArgs (top 16), defBody (top 16), defScope (top 16), [], []⟩
def D_is_whole_table : DefD := ⟨("is_whole_table", none), "is_whole_table", "is_whole_table", defArgs (top 17), defBody (top 17), defScope (top 17), [], []⟩
def D_degree_of_table : DefD := ⟨("degree_of_table", none), "degree_of_table", "degree_of_table", defArgs (top 18), defBody (top 18), defScope (top 18), [], []⟩
def D_trimmed_entries : DefD := ⟨("trimmed_entries", none), "trimmed_entries", "trimmed_entries", defArgs (top 14), defBody (top 14), defScope (top 14), [], []⟩
def D_multiplied_in : DefD := ⟨("multiplied_in", none), "multiplied_in", "multiplied_in", defArgs (top 19), defBody (top 19), defScope (top 19), [], []⟩
def D_divided_by : DefD := ⟨("divided_by", none), "divided_by", "divided_by", defArgs (top 20), defBody (top 20), defScope (top 20), [], []⟩
def D_expanded : DefD := ⟨("expanded", none), "expanded", "expanded", defArgs (top 21), defBody (top 21), defScope (top 21), [], []⟩
def D_product_of : DefD := ⟨("product_of", none), "product_of", "product_of", defArgs (top 22), defBody (top 22), defScope (top 22), [], []⟩
def D_q_told : DefD := ⟨("_law_told", none), "_law_told", "_law_told", defArgs (top 34), defBody (top 34), defScope (top 34), [], []⟩
def D_q_roll : DefD := ⟨("_law_roll", none), "_law_roll", "_law_roll", defArgs (top 27), defBody (top 27), defScope (top 27), [], []⟩
def D_q_whole_cut : DefD := ⟨("_law_whole_cut", none), "_law_whole_cut", "_law_whole_cut", defArgs (top 29), defBody (top 29), defScope (top 29), [], []⟩
def D_q_whole_product : DefD := ⟨("_law_whole_product", none), "_law_whole_product", "_law_whole_product", defArgs (top 30), defBody (top 30), defScope (top 30), [], []⟩
def D_q_is_whole_table : DefD := ⟨("_law_is_whole_table", none), "_law_is_whole_table", "_law_is_whole_table", defArgs (top 31), defBody (top 31), defScope (top 31), [], []⟩
def D_q_factored : DefD := ⟨("_law_factored", none), "_law_factored", "_law_factored", defArgs (top 32), defBody (top 32), defScope (top 32), [], []⟩
def D_q_parted_at_one : DefD := ⟨("_law_parted_at_one", none), "_law_parted_at_one", "_law_parted_at_one", defArgs (top 33), defBody (top 33), defScope (top 33), [], []⟩
def D_q_pick : DefD := ⟨("_law_pick", none), "_law_pick", "_law_pick", defArgs (top 28), defBody (top 28), defScope (top 28), [], []⟩
def D_q_factors_drawn : DefD := ⟨("_law_factors_drawn", none), "_law_factors_drawn", "_law_factors_drawn", defArgs (top 35), defBody (top 35), defScope (top 35), [], []⟩
def D_q_is_judged : DefD := ⟨("_law_is_judged", none), "_law_is_judged", "_law_is_judged", defArgs (top 36), defBody (top 36), defScope (top 36), [], []⟩
def D_q_right : DefD := ⟨("_law_right", none), "_law_right", "_law_right", defArgs (top 37), defBody (top 37), defScope (top 37), [], []⟩
def D_law : DefD := ⟨("law", none), "law", "law", defArgs (top 38), defBody (top 38), defScope (top 38), [], []⟩
def fn : List DefD := [D_is_whole, D_is_integer, D_is_polynomial, D_without_root, D_at_one, D_q_dice, D_is_factor_table, D_is_whole_table, D_degree_of_table, D_trimmed_entries, D_multiplied_in, D_divided_by, D_expanded, D_product_of, D_q_told, D_q_roll, D_q_whole_cut, D_q_whole_product, D_q_is_whole_table, D_q_factored, D_q_parted_at_one, D_q_pick, D_q_factors_drawn, D_q_is_judged, D_q_right, D_law]
def I_TooMany : IniD := ⟨"TooMany", "OverflowError", [.type "OverflowError", .type "ArithmeticError", .type "Exception", .type "BaseException", .type "object"], "TooMany.__init__", "limit", defArgs (topC 4), defBody (topC 4), defScope (topC 4)⟩
def ini : List IniD := [I_TooMany]
def fa : List Fa := [.free "len", .free "min", .free "max", .free "range", .free "int", .free "tuple", .exc "InvalidTable", .glo "InvalidTable", .free "sum", .free "isinstance", .free "all", .int "GREAT" 1000000000000000000000000000000000000000000000000000000000000, .free "bool", .free "abs", .glo "TooMany", .free "str", .glo "InvalidOperation", .exc "InvalidOperation", .int "MAX_DEGREE" 400, .free "super", .free "dict", .int "MAX_FACTORS" 60, .int "MAX_FACTOR" 10000, .int "MOST_TIMES" 1000, .free "list", .free "enumerate", .glo "is_whole", .glo "is_integer", .glo "is_polynomial", .glo "without_root", .glo "at_one", .glo "_law_dice", .glo "is_factor_table", .glo "is_whole_table", .glo "degree_of_table", .glo "trimmed_entries", .glo "multiplied_in", .glo "divided_by", .glo "expanded", .glo "product_of", .glo "_law_told", .glo "_law_roll", .glo "_law_whole_cut", .glo "_law_whole_product", .glo "_law_is_whole_table", .glo "_law_factored", .glo "_law_parted_at_one", .glo "_law_pick", .glo "_law_factors_drawn", .glo "_law_is_judged", .glo "_law_right", .glo "law", .exm "InvalidOperation" "InvalidOperation" true, .exm "InvalidOperation" "TooMany" false, .exm "InvalidTable" "InvalidOperation" false, .exm "InvalidTable" "TooMany" false, .exm "TooMany" "InvalidOperation" false, .exm "TooMany" "TooMany" true]
theorem htop : (PP.main.scope.names.lookup ("super" : Str)).isSome = false := by decide +kernel
section
variable {w : World} {K : PySem.W.Frag} {mg : Str → Option Value} {base : Heap}
abbrev FX (K : PySem.W.Frag) (mg : Str → Option Value) (base : Heap) : Prop := Fx PP fa fn ini K mg base
theorem xik_TooMany (Z : FX K mg base) : XiK PP K "OverflowError" "OverflowError.__new__" "OverflowError.__init__" I_TooMany.bmB (ga K "TooMany") (ma K (ga K "TooMany") "__init__") "limit" I_TooMany.params I_TooMany.body I_TooMany.scope := (Z.c.ini_ 0 rfl (by decide) (by decide)).1
theorem xif_TooMany (Z : FX K mg base) : XfC K (ga K "TooMany") := (Z.c.ini_ 0 rfl (by decide) (by decide) (d := I_TooMany) (newId := "OverflowError.__new__") (initId := "OverflowError.__init__")).2
theorem xit_TooMany : XiTx "there are more than a limit" "limit" "limit" I_TooMany.params I_TooMany.body I_TooMany.scope := by
  refine ⟨_, _, _, _, _, _, _, _, _, _, _, rfl, ⟨⟨_, rfl, rfl⟩, fun _ _ _ _ _ _ _ _ _ _ => rfl, rfl, rfl, rfl, rfl, rfl, rfl, rfl, by decide +kernel, by decide, by decide, fun _ _ _ _ _ _ _ _ _ _ => rfl, fun _ _ _ _ _ _ _ _ _ _ => ⟨_, rfl⟩, fun _ _ _ _ _ _ _ _ _ _ => rfl, fun _ _ _ _ _ _ _ _ _ _ => rfl⟩⟩
theorem ct_ok (Z : FX K mg base) : CtOk K (ga K) ct := by
  intro c d b h
  unfold ct at h
  split at h
  · next e => obtain ⟨rfl, rfl⟩ := e; cases h; exact exm_ok (Z.c.fact 52)
  split at h
  · next e => obtain ⟨rfl, rfl⟩ := e; cases h; exact exm_ok (Z.c.fact 53)
  split at h
  · next e => obtain ⟨rfl, rfl⟩ := e; cases h; exact exm_ok (Z.c.fact 54)
  split at h
  · next e => obtain ⟨rfl, rfl⟩ := e; cases h; exact exm_ok (Z.c.fact 55)
  split at h
  · next e => obtain ⟨rfl, rfl⟩ := e; cases h; exact exm_ok (Z.c.fact 56)
  split at h
  · next e => obtain ⟨rfl, rfl⟩ := e; cases h; exact exm_ok (Z.c.fact 57)
  cases h
theorem t_is_whole (Z : FX K mg base) : FnT PP w K mg base (ga K) "is_whole" 1 1 d_is_whole := by
  obtain ⟨fd, FD⟩ := Z.c.def_ 0 (d := D_is_whole) rfl
  refine ⟨fd, ["value"], Z.glo 26, FD.kp, FD.bindsN (fun _ _ _ _ _ _ us hl => match us, hl with | [_], _ => rfl), okM FD (N := ["value"]) ⟨rfl, rfl, rfl, by decide +kernel, rfl, by decide +kernel, by decide +kernel⟩ rfl rfl fun cdv A outer s H E c => ?_⟩
  exact ss_one (ss_ret (se_and (se_isi c (sa_cons (se_loc 0) (sa_cons (se_tyN (Z.free 4)) (sa_nil))) (Z.free 9)) (se_one (se_not (se_isi c (sa_cons (se_loc 0) (sa_cons (se_tyN (Z.free 12)) (sa_nil))) (Z.free 9))))))
theorem t_is_integer (Z : FX K mg base) : FnT PP w K mg base (ga K) "is_integer" 2 1 d_is_integer := by
  obtain ⟨fd, FD⟩ := Z.c.def_ 1 (d := D_is_integer) rfl
  refine ⟨fd, ["value"], Z.glo 27, FD.kp, FD.bindsN (fun _ _ _ _ _ _ us hl => match us, hl with | [_], _ => rfl), okM FD (N := ["value"]) ⟨rfl, rfl, rfl, by decide +kernel, rfl, by decide +kernel, by decide +kernel⟩ rfl rfl fun cdv A outer s H E c => ?_⟩
  exact ss_one (ss_ret (se_and (se_callT (t_is_whole Z) c (sa_cons (se_loc 0) (sa_nil)) (aCons_len (aNil_len))) (se_one (se_ch k_lt k_lt (se_neg (se_gi (Z.int 11))) (se_loc 0) (se_gi (Z.int 11))))))
theorem t_is_polynomial (Z : FX K mg base) : FnT PP w K mg base (ga K) "is_polynomial" 3 1 d_is_polynomial := by
  obtain ⟨fd, FD⟩ := Z.c.def_ 2 (d := D_is_polynomial) rfl
  refine ⟨fd, ["value"], Z.glo 28, FD.kp, FD.bindsN (fun _ _ _ _ _ _ us hl => match us, hl with | [_], _ => rfl), okM FD (N := ["value", "entry"]) ⟨rfl, rfl, rfl, by decide +kernel, rfl, by decide +kernel, by decide +kernel⟩ rfl rfl fun cdv A outer s H E c => ?_⟩
  exact ss_cons (ss_if (st_w (sw_or (st_not (st_b (se_isi c (sa_cons (se_loc 0) (sa_cons (se_tyN (Z.free 5)) (sa_nil))) (Z.free 9)))) (sw_or1 (st_not (st_b (se_all c (sa_cons (se_lc c (own := [("entry", 1)]) (si_seq (se_loc 0)) (blkOk_by (by kernel_rfl)) (fun s H C cl fp => pg_name (c.blk s H _ _ fp).nd (i := 1) rfl (by first | exact Or.inl rfl | exact Or.inr rfl)) (cg_nm 1) (fun s H C cl fp c => sts_yes) (fun s H C cl fp c => se_callT (t_is_integer Z) c (sa_cons (se_loc 1) (sa_nil)) (aCons_len (aNil_len)))) (sa_nil)) (Z.free 10))))))) (ss_one (ss_ret (se_bl))) (ss_nil))
    (ss_one (ss_ret (se_or (se_c (k_eqM c) (se_loc 0) (se_tup (sa_nil))) (se_one (se_c (k_neM c) (se_ix c (se_loc 0) (se_neg (se_int))) (se_int))))))
theorem t_without_root (Z : FX K mg base) : FnT PP w K mg base (ga K) "without_root" 1 1 d_without_root := by
  obtain ⟨fd, FD⟩ := Z.c.def_ 3 (d := D_without_root) rfl
  refine ⟨fd, ["polynomial"], Z.glo 29, FD.kp, FD.bindsN (fun _ _ _ _ _ _ us hl => match us, hl with | [_], _ => rfl), okM FD (N := ["polynomial", "found", "total", "entry"]) ⟨rfl, rfl, rfl, by decide +kernel, rfl, by decide +kernel, by decide +kernel⟩ rfl rfl fun cdv A outer s H E c => ?_⟩
  exact ss_cons (ss_par 1 2 c.calm c.nd (sa_cons (se_lst (sa_nil)) (sa_cons (se_int) (sa_nil))))
    (ss_cons (ss_for c.po c.calm (si_seq (se_rev (se_loc 0))) (sg_nm 3 c.nd) (on_nm _) (ss_cons (ss_augI 2 c.nd (se_loc 3))
    (ss_one (ss_expr (se_append c (se_loc 1) (sa_cons (se_loc 2) (sa_nil)))))))
    (ss_one (ss_ret (se_ctuple c (sa_cons (se_rev (se_loc 1)) (sa_nil)) (Z.free 5)))))
theorem t_at_one (Z : FX K mg base) : FnT PP w K mg base (ga K) "at_one" 4 1 d_at_one := by
  obtain ⟨fd, FD⟩ := Z.c.def_ 4 (d := D_at_one) rfl
  refine ⟨fd, ["polynomial"], Z.glo 30, FD.kp, FD.bindsN (fun _ _ _ _ _ _ us hl => match us, hl with | [_], _ => rfl), okM FD (N := ["polynomial", "times", "left"]) ⟨rfl, rfl, rfl, by decide +kernel, rfl, by decide +kernel, by decide +kernel⟩ rfl rfl fun cdv A outer s H E c => ?_⟩
  exact ss_cons (ss_if (st_w (sw_or (st_not (st_b (se_callT (t_is_polynomial Z) c (sa_cons (se_loc 0) (sa_nil)) (aCons_len (aNil_len))))) (sw_or1 (st_c (k_eqM c) (se_loc 0) (se_tup (sa_nil)))))) (ss_one (ss_raise c (Z.exn 6 7) (sa_cons (se_str) (sa_nil)))) (ss_nil))
    (ss_cons (ss_par 1 2 c.calm c.nd (sa_cons (se_int) (sa_cons (se_loc 0) (sa_nil))))
    (ss_cons (ss_while c.po (st_c (k_eqM c) (se_sum c (sa_cons (se_loc 2) (sa_nil)) (Z.free 8)) (se_int)) (ss_one (ss_par 1 2 c.calm c.nd (sa_cons (se_add (se_loc 1) (se_int)) (sa_cons (se_callT (t_without_root Z) c (sa_cons (se_loc 2) (sa_nil)) (aCons_len (aNil_len))) (sa_nil))))))
    (ss_one (ss_ret (se_tup (sa_cons (se_loc 1) (sa_cons (se_sum c (sa_cons (se_loc 2) (sa_nil)) (Z.free 8)) (sa_nil))))))))
theorem t_q_dice (Z : FX K mg base) : FnT PP w K mg base (ga K) "_law_dice" 1 2 d_q_dice := by
  obtain ⟨fd, FD⟩ := Z.c.def_ 5 (d := D_q_dice) rfl
  refine ⟨fd, ["_law_script", "_law_spot"], Z.glo 31, FD.kp, FD.bindsN (fun _ _ _ _ _ _ us hl => match us, hl with | [_, _], _ => rfl), okM FD (N := ["_law_script", "_law_spot", "_law_cell", "_law_left"]) ⟨rfl, rfl, rfl, by decide +kernel, rfl, by decide +kernel, by decide +kernel⟩ rfl rfl fun cdv A outer s H E c => ?_⟩
  exact ss_cons (ss_set 2 c.nd (se_if (st_c k_lt (se_loc 1) (se_len c (sa_cons (se_loc 0) (sa_nil)) (Z.free 0))) (se_cint c (sa_cons (se_ix c (se_loc 0) (se_loc 1)) (sa_nil)) (Z.free 4)) (se_add (se_mul (se_int) (se_loc 1)) (se_int))))
    (ss_cons (ss_set 3 c.nd (se_mod (se_max c (sa_cons (se_int) (sa_cons (se_sub (se_abs c (sa_cons (se_loc 2) (sa_nil)) (Z.free 13)) (se_pow (se_int) (se_int))) (sa_nil))) (Z.free 2)) (se_mul (se_pow (se_int) (se_int)) (se_pow (se_int) (se_int)))))
    (ss_one (ss_ret (se_lst (sa_cons (se_loc 3) (sa_cons (se_add (se_add (se_add (se_mul (se_mod (se_abs c (sa_cons (se_loc 2) (sa_nil)) (Z.free 13)) (se_int)) (se_int)) (se_mul (se_int) (se_loc 1))) (se_mul (se_int) (se_cint c (sa_cons (se_c k_lt (se_loc 2) (se_int)) (sa_nil)) (Z.free 4)))) (se_int)) (sa_cons (se_int) (sa_nil))))))))
theorem t_is_factor_table (Z : FX K mg base) : FnT PP w K mg base (ga K) "is_factor_table" 3 1 d_is_factor_table := by
  obtain ⟨fd, FD⟩ := Z.c.def_ 6 (d := D_is_factor_table) rfl
  refine ⟨fd, ["value"], Z.glo 32, FD.kp, FD.bindsN (fun _ _ _ _ _ _ us hl => match us, hl with | [_], _ => rfl), okM FD (N := ["value", "number", "times"]) ⟨rfl, rfl, rfl, by decide +kernel, rfl, by decide +kernel, by decide +kernel⟩ rfl rfl fun cdv A outer s H E c => ?_⟩
  exact ss_cons (ss_if (st_w (sw_or (st_not (st_b (se_isi c (sa_cons (se_loc 0) (sa_cons (se_tyN (Z.free 20)) (sa_nil))) (Z.free 9)))) (sw_or1 (st_c k_gt (se_len c (sa_cons (se_loc 0) (sa_nil)) (Z.free 0)) (se_gi (Z.int 21)))))) (ss_one (ss_ret (se_bl))) (ss_nil))
    (ss_cons (ss_if (st_not (st_b (se_all c (sa_cons (se_lock (o := eLoc 0) (se_lc c (own := [("number", 1)]) (si_dict (se_loc 0)) (blkOk_by (by kernel_rfl)) (fun s H C cl fp => pg_name (c.blk s H _ _ fp).nd (i := 1) rfl (by first | exact Or.inl rfl | exact Or.inr rfl)) (cg_nm 1) (fun s H C cl fp c => sts_yes) (fun s H C cl fp c => se_and (se_callT (t_is_integer Z) c (sa_cons (se_loc 1) (sa_nil)) (aCons_len (aNil_len))) (se_one (se_ch k_le k_le (se_int) (se_loc 1) (se_gi (Z.int 22))))))) (sa_nil)) (Z.free 10)))) (ss_one (ss_ret (se_bl))) (ss_nil))
    (ss_one (ss_ret (se_all c (sa_cons (se_lock (o := eLoc 0) (se_lc c (own := [("times", 2)]) (si_values (se_loc 0)) (blkOk_by (by kernel_rfl)) (fun s H C cl fp => pg_name (c.blk s H _ _ fp).nd (i := 2) rfl (by first | exact Or.inl rfl | exact Or.inr rfl)) (cg_nm 2) (fun s H C cl fp c => sts_yes) (fun s H C cl fp c => se_and (se_callT (t_is_integer Z) c (sa_cons (se_loc 2) (sa_nil)) (aCons_len (aNil_len))) (se_and (se_c (k_neM c) (se_loc 2) (se_int)) (se_one (se_c k_le (se_abs c (sa_cons (se_loc 2) (sa_nil)) (Z.free 13)) (se_gi (Z.int 23)))))))) (sa_nil)) (Z.free 10)))))
theorem t_is_whole_table (Z : FX K mg base) : FnT PP w K mg base (ga K) "is_whole_table" 1 1 d_is_whole_table := by
  obtain ⟨fd, FD⟩ := Z.c.def_ 7 (d := D_is_whole_table) rfl
  refine ⟨fd, ["factors"], Z.glo 33, FD.kp, FD.bindsN (fun _ _ _ _ _ _ us hl => match us, hl with | [_], _ => rfl), okM FD (N := ["factors", "divisor", "number", "times"]) ⟨rfl, rfl, rfl, by decide +kernel, rfl, by decide +kernel, by decide +kernel⟩ rfl rfl fun cdv A outer s H E c => ?_⟩
  exact ss_cons (ss_for c.po c.calm (si_rng2 rfl (Z.free 3) (sa_cons (se_int) (sa_cons (se_add (se_maxD c (se_loc 0) (se_int) (Z.free 2)) (se_int)) (sa_nil)))) (sg_nm 1 c.nd) (on_nm _) (ss_one (ss_if (st_c k_lt (se_sum c (sa_cons (se_lock (o := eLoc 0) (se_lc c (own := [("number", 2), ("times", 3)]) (si_items (se_loc 0)) (blkOk_by (by kernel_rfl)) (fun s H C cl fp => pg_tup (c.blk s H _ _ fp).calm (pgs_cons (pg_name (c.blk s H _ _ fp).nd (i := 2) rfl (by first | exact Or.inl rfl | exact Or.inr rfl)) (pgs_cons (pg_name (c.blk s H _ _ fp).nd (i := 3) rfl (by first | exact Or.inl rfl | exact Or.inr rfl)) (pgs_nil)))) (cg_tup (cgs_cons (cg_nm 2) (cgs_cons (cg_nm 3) (cgs_nil)))) (fun s H C cl fp c => sts_one (st_c (k_eqM c) (se_mod (se_loc 2) (se_loc 1)) (se_int))) (fun s H C cl fp c => se_loc 3))) (sa_nil)) (Z.free 8)) (se_int)) (ss_one (ss_ret (se_bl))) (ss_nil))))
    (ss_one (ss_ret (se_bl)))
theorem t_degree_of_table (Z : FX K mg base) : FnT PP w K mg base (ga K) "degree_of_table" 1 1 d_degree_of_table := by
  obtain ⟨fd, FD⟩ := Z.c.def_ 8 (d := D_degree_of_table) rfl
  refine ⟨fd, ["factors"], Z.glo 34, FD.kp, FD.bindsN (fun _ _ _ _ _ _ us hl => match us, hl with | [_], _ => rfl), okM FD (N := ["factors", "number", "times"]) ⟨rfl, rfl, rfl, by decide +kernel, rfl, by decide +kernel, by decide +kernel⟩ rfl rfl fun cdv A outer s H E c => ?_⟩
  exact ss_one (ss_ret (se_sum c (sa_cons (se_lock (o := eLoc 0) (se_lc c (own := [("number", 1), ("times", 2)]) (si_items (se_loc 0)) (blkOk_by (by kernel_rfl)) (fun s H C cl fp => pg_tup (c.blk s H _ _ fp).calm (pgs_cons (pg_name (c.blk s H _ _ fp).nd (i := 1) rfl (by first | exact Or.inl rfl | exact Or.inr rfl)) (pgs_cons (pg_name (c.blk s H _ _ fp).nd (i := 2) rfl (by first | exact Or.inl rfl | exact Or.inr rfl)) (pgs_nil)))) (cg_tup (cgs_cons (cg_nm 1) (cgs_cons (cg_nm 2) (cgs_nil)))) (fun s H C cl fp c => sts_yes) (fun s H C cl fp c => se_mul (se_loc 1) (se_loc 2)))) (sa_nil)) (Z.free 8)))
theorem t_trimmed_entries (Z : FX K mg base) : FnT PP w K mg base (ga K) "trimmed_entries" 1 1 d_trimmed_entries := by
  obtain ⟨fd, FD⟩ := Z.c.def_ 9 (d := D_trimmed_entries) rfl
  refine ⟨fd, ["entries"], Z.glo 35, FD.kp, FD.bindsN (fun _ _ _ _ _ _ us hl => match us, hl with | [_], _ => rfl), okM FD (N := ["entries", "size"]) ⟨rfl, rfl, rfl, by decide +kernel, rfl, by decide +kernel, by decide +kernel⟩ rfl rfl fun cdv A outer s H E c => ?_⟩
  exact ss_cons (ss_set 1 c.nd (se_len c (sa_cons (se_loc 0) (sa_nil)) (Z.free 0)))
    (ss_cons (ss_while c.po (st_w (sw_and (st_c k_gt (se_loc 1) (se_int)) (sw_and1 (st_c (k_eqM c) (se_ix c (se_loc 0) (se_sub (se_loc 1) (se_int))) (se_int))))) (ss_one (ss_subI 1 c.nd (se_int))))
    (ss_one (ss_ret (se_ctuple c (sa_cons (se_sl (se_loc 0) (so_no) (so_yes (se_loc 1))) (sa_nil)) (Z.free 5)))))
theorem t_multiplied_in (Z : FX K mg base) : FnT PP w K mg base (ga K) "multiplied_in" 1 2 d_multiplied_in := by
  obtain ⟨fd, FD⟩ := Z.c.def_ 10 (d := D_multiplied_in) rfl
  refine ⟨fd, ["entries", "number"], Z.glo 36, FD.kp, FD.bindsN (fun _ _ _ _ _ _ us hl => match us, hl with | [_, _], _ => rfl), okM FD (N := ["entries", "number", "found", "at"]) ⟨rfl, rfl, rfl, by decide +kernel, rfl, by decide +kernel, by decide +kernel⟩ rfl rfl fun cdv A outer s H E c => ?_⟩
  exact ss_cons (ss_set 2 c.nd (se_clist c (sa_cons (se_loc 0) (sa_nil)) (Z.free 24)))
    (ss_cons (ss_for c.po c.calm (si_rng3 rfl (Z.free 3) (sa_cons (se_sub (se_len c (sa_cons (se_loc 2) (sa_nil)) (Z.free 0)) (se_int)) (sa_cons (se_sub (se_loc 1) (se_int)) (sa_cons (se_neg (se_int)) (sa_nil))))) (sg_nm 3 c.nd) (on_nm _) (ss_one (ss_asg (se_sub (se_ix c (se_loc 2) (se_loc 3)) (se_ix c (se_loc 2) (se_sub (se_loc 3) (se_loc 1)))) (sg_sub c (se_loc 2) (se_loc 3)) (on_sub))))
    (ss_one (ss_ret (se_loc 2))))
theorem t_divided_by (Z : FX K mg base) : FnT PP w K mg base (ga K) "divided_by" 1 2 d_divided_by := by
  obtain ⟨fd, FD⟩ := Z.c.def_ 11 (d := D_divided_by) rfl
  refine ⟨fd, ["entries", "number"], Z.glo 37, FD.kp, FD.bindsN (fun _ _ _ _ _ _ us hl => match us, hl with | [_, _], _ => rfl), okM FD (N := ["entries", "number", "found", "at"]) ⟨rfl, rfl, rfl, by decide +kernel, rfl, by decide +kernel, by decide +kernel⟩ rfl rfl fun cdv A outer s H E c => ?_⟩
  exact ss_cons (ss_set 2 c.nd (se_clist c (sa_cons (se_loc 0) (sa_nil)) (Z.free 24)))
    (ss_cons (ss_for c.po c.calm (si_rng2 rfl (Z.free 3) (sa_cons (se_loc 1) (sa_cons (se_len c (sa_cons (se_loc 2) (sa_nil)) (Z.free 0)) (sa_nil)))) (sg_nm 3 c.nd) (on_nm _) (ss_one (ss_asg (se_add (se_ix c (se_loc 2) (se_loc 3)) (se_ix c (se_loc 2) (se_sub (se_loc 3) (se_loc 1)))) (sg_sub c (se_loc 2) (se_loc 3)) (on_sub))))
    (ss_one (ss_ret (se_loc 2))))
theorem t_expanded (Z : FX K mg base) : FnT PP w K mg base (ga K) "expanded" 2 1 d_expanded := by
  obtain ⟨fd, FD⟩ := Z.c.def_ 12 (d := D_expanded) rfl
  refine ⟨fd, ["factors"], Z.glo 38, FD.kp, FD.bindsN (fun _ _ _ _ _ _ us hl => match us, hl with | [_], _ => rfl), okM FD (N := ["factors", "entries", "turn", "sign", "number", "times", "entry"]) ⟨rfl, rfl, rfl, by decide +kernel, rfl, by decide +kernel, by decide +kernel⟩ rfl rfl fun cdv A outer s H E c => ?_⟩
  exact ss_cons (ss_set 1 c.nd (se_add (se_lst (sa_cons (se_int) (sa_nil))) (se_lc c (own := [("turn", 2)]) (si_rng1 rfl (Z.free 3) (sa_cons (se_callT (t_degree_of_table Z) c (sa_cons (se_loc 0) (sa_nil)) (aCons_len (aNil_len))) (sa_nil))) (blkOk_by (by kernel_rfl)) (fun s H C cl fp => pg_name (c.blk s H _ _ fp).nd (i := 2) rfl (by first | exact Or.inl rfl | exact Or.inr rfl)) (cg_nm 2) (fun s H C cl fp c => sts_yes) (fun s H C cl fp c => se_int))))
    (ss_cons (ss_set 3 c.nd (se_int))
    (ss_cons (ss_lock (o := eLoc 0) (ss_for c.po c.calm (si_items (se_loc 0)) (sg_tup c.calm (sgs_cons (sg_nm 4 c.nd) (sgs_cons (sg_nm 5 c.nd) (sgs_nil) (on_nm _)) (on_nm _))) (on_tup (on_cons (on_nm _) (on_cons (on_nm _) (on_nil)))) (ss_cons (ss_if (st_c (k_eqM c) (se_mod (se_loc 5) (se_int)) (se_int)) (ss_one (ss_set 3 c.nd (se_neg (se_loc 3)))) (ss_nil))
    (ss_one (ss_for c.po c.calm (si_rng1 rfl (Z.free 3) (sa_cons (se_if (st_c k_lt (se_loc 4) (se_len c (sa_cons (se_loc 1) (sa_nil)) (Z.free 0))) (se_abs c (sa_cons (se_loc 5) (sa_nil)) (Z.free 13)) (se_int)) (sa_nil))) (sg_nm 2 c.nd) (on_nm _) (ss_one (ss_set 1 c.nd (se_if (st_c k_gt (se_loc 5) (se_int)) (se_callT (t_multiplied_in Z) c (sa_cons (se_loc 1) (sa_cons (se_loc 4) (sa_nil))) (aCons_len (aCons_len (aNil_len)))) (se_callT (t_divided_by Z) c (sa_cons (se_loc 1) (sa_cons (se_loc 4) (sa_nil))) (aCons_len (aCons_len (aNil_len))))))))))))
    (ss_one (ss_ret (se_callT (t_trimmed_entries Z) c (sa_cons (se_lc c (own := [("entry", 6)]) (si_seq (se_loc 1)) (blkOk_by (by kernel_rfl)) (fun s H C cl fp => pg_name (c.blk s H _ _ fp).nd (i := 6) rfl (by first | exact Or.inl rfl | exact Or.inr rfl)) (cg_nm 6) (fun s H C cl fp c => sts_yes) (fun s H C cl fp c => se_mul (se_loc 3) (se_loc 6))) (sa_nil)) (aCons_len (aNil_len)))))))
theorem t_product_of (Z : FX K mg base) : FnT PP w K mg base (ga K) "product_of" 4 1 d_product_of := by
  obtain ⟨fd, FD⟩ := Z.c.def_ 13 (d := D_product_of) rfl
  refine ⟨fd, ["factors"], Z.glo 39, FD.kp, FD.bindsN (fun _ _ _ _ _ _ us hl => match us, hl with | [_], _ => rfl), okM FD (N := ["factors"]) ⟨rfl, rfl, rfl, by decide +kernel, rfl, by decide +kernel, by decide +kernel⟩ rfl rfl fun cdv A outer s H E c => ?_⟩
  exact ss_cons (ss_if (st_not (st_b (se_callT (t_is_factor_table Z) c (sa_cons (se_loc 0) (sa_nil)) (aCons_len (aNil_len))))) (ss_one (ss_raise c (Z.exn 6 7) (sa_cons (se_str) (sa_nil)))) (ss_nil))
    (ss_cons (ss_if (st_not (st_b (se_callT (t_is_whole_table Z) c (sa_cons (se_loc 0) (sa_nil)) (aCons_len (aNil_len))))) (ss_one (ss_raise c (Z.exn 17 16) (sa_cons (se_str) (sa_nil)))) (ss_nil))
    (ss_cons (ss_if (st_c k_gt (se_callT (t_degree_of_table Z) c (sa_cons (se_loc 0) (sa_nil)) (aCons_len (aNil_len))) (se_gi (Z.int 18))) (ss_one (ss_raiseX c F.excBase_OverflowError F.store_OverflowError PySem.W.kxs_OverflowError (xik_TooMany Z) xit_TooMany (Z.glo 14) (Z.free 19) htop (se_gi (Z.int 18)))) (ss_nil))
    (ss_one (ss_ret (se_callT (t_expanded Z) c (sa_cons (se_loc 0) (sa_nil)) (aCons_len (aNil_len)))))))
theorem t_q_told (Z : FX K mg base) : FnT PP w K mg base (ga K) "_law_told" 5 1 d_q_told := by
  obtain ⟨fd, FD⟩ := Z.c.def_ 14 (d := D_q_told) rfl
  refine ⟨fd, ["_law_factors"], Z.glo 40, FD.kp, FD.bindsN (fun _ _ _ _ _ _ us hl => match us, hl with | [_], _ => rfl), okM FD (N := ["_law_factors", "error"]) ⟨rfl, rfl, rfl, by decide +kernel, rfl, by decide +kernel, by decide +kernel⟩ rfl rfl fun cdv A outer s H E c => ?_⟩
  exact ss_one (ss_try c (ct_ok Z) rfl rfl (fun W' pn xe c => ss_one (ss_ret (se_callT (t_product_of Z) c (sa_cons (se_loc 0) (sa_nil)) (aCons_len (aNil_len))))) (.cons rfl (Z.glo 16) (by decide) (fun a oe pn => se_str) (.as (i := 1) rfl rfl rfl (Z.glo 14) (by decide) (hd_str (xif_TooMany Z) (xik_TooMany Z).noF rfl (Or.inl rfl) (Z.free 15) rfl (by decide) (by decide) rfl rfl rfl) (MHd.nil))))
theorem t_q_roll (Z : FX K mg base) : FnT PP w K mg base (ga K) "_law_roll" 1 2 d_q_roll := by
  obtain ⟨fd, FD⟩ := Z.c.def_ 15 (d := D_q_roll) rfl
  refine ⟨fd, ["_law_dice_here", "_law_total"], Z.glo 41, FD.kp, FD.bindsN (fun _ _ _ _ _ _ us hl => match us, hl with | [_, _], _ => rfl), okM FD (N := ["_law_dice_here", "_law_total", "_law_found", "_law_one", "_law_two"]) ⟨rfl, rfl, rfl, by decide +kernel, rfl, by decide +kernel, by decide +kernel⟩ rfl rfl fun cdv A outer s H E c => ?_⟩
  exact ss_cons (ss_if (st_c k_gt (se_ix c (se_loc 0) (se_int)) (se_int)) (ss_cons (ss_set 2 c.nd (se_mod (se_cint c (sa_cons (se_ix c (se_loc 0) (se_int)) (sa_nil)) (Z.free 4)) (se_loc 1)))
    (ss_cons (ss_asg (se_div (se_ix c (se_loc 0) (se_int)) (se_loc 1)) (sg_sub c (se_loc 0) (se_int)) (on_sub))
    (ss_one (ss_ret (se_loc 2))))) (ss_nil))
    (ss_cons (ss_asg (se_add (se_ix c (se_loc 0) (se_int)) (se_int)) (sg_sub c (se_loc 0) (se_int)) (on_sub))
    (ss_cons (ss_set 3 c.nd (se_mod (se_cint c (sa_cons (se_add (se_ix c (se_loc 0) (se_int)) (se_mul (se_int) (se_ix c (se_loc 0) (se_int)))) (sa_nil)) (Z.free 4)) (se_int)))
    (ss_cons (ss_set 4 c.nd (se_add (se_mul (se_mod (se_cint c (sa_cons (se_add (se_mul (se_loc 3) (se_loc 3)) (se_mul (se_int) (se_ix c (se_loc 0) (se_int)))) (sa_nil)) (Z.free 4)) (se_int)) (se_int)) (se_loc 3)))
    (ss_one (ss_ret (se_mod (se_cint c (sa_cons (se_div (se_loc 4) (se_int)) (sa_nil)) (Z.free 4)) (se_loc 1)))))))
theorem t_q_whole_cut (Z : FX K mg base) : FnT PP w K mg base (ga K) "_law_whole_cut" 1 1 d_q_whole_cut := by
  obtain ⟨fd, FD⟩ := Z.c.def_ 16 (d := D_q_whole_cut) rfl
  refine ⟨fd, ["_law_row"], Z.glo 42, FD.kp, FD.bindsN (fun _ _ _ _ _ _ us hl => match us, hl with | [_], _ => rfl), okM FD (N := ["_law_row", "_law_size"]) ⟨rfl, rfl, rfl, by decide +kernel, rfl, by decide +kernel, by decide +kernel⟩ rfl rfl fun cdv A outer s H E c => ?_⟩
  exact ss_cons (ss_set 1 c.nd (se_len c (sa_cons (se_loc 0) (sa_nil)) (Z.free 0)))
    (ss_cons (ss_while c.po (st_w (sw_and (st_c k_gt (se_loc 1) (se_int)) (sw_and1 (st_c (k_eqM c) (se_ix c (se_loc 0) (se_sub (se_loc 1) (se_int))) (se_int))))) (ss_one (ss_set 1 c.nd (se_sub (se_loc 1) (se_int)))))
    (ss_one (ss_ret (se_ctuple c (sa_cons (se_sl (se_loc 0) (so_no) (so_yes (se_loc 1))) (sa_nil)) (Z.free 5)))))
theorem t_q_whole_product (Z : FX K mg base) : FnT PP w K mg base (ga K) "_law_whole_product" 2 2 d_q_whole_product := by
  obtain ⟨fd, FD⟩ := Z.c.def_ 17 (d := D_q_whole_product) rfl
  refine ⟨fd, ["_law_one", "_law_other"], Z.glo 43, FD.kp, FD.bindsN (fun _ _ _ _ _ _ us hl => match us, hl with | [_, _], _ => rfl), okM FD (N := ["_law_one", "_law_other", "_law_found", "_law_at", "_law_entry", "_law_to", "_law_factor"]) ⟨rfl, rfl, rfl, by decide +kernel, rfl, by decide +kernel, by decide +kernel⟩ rfl rfl fun cdv A outer s H E c => ?_⟩
  exact ss_cons (ss_set 2 c.nd (se_mul (se_lst (sa_cons (se_int) (sa_nil))) (se_max c (sa_cons (se_int) (sa_cons (se_sub (se_add (se_len c (sa_cons (se_loc 0) (sa_nil)) (Z.free 0)) (se_len c (sa_cons (se_loc 1) (sa_nil)) (Z.free 0))) (se_int)) (sa_nil))) (Z.free 2))))
    (ss_cons (ss_for c.po c.calm (si_enum1 (sa_cons (se_loc 0) (sa_nil)) (Z.free 25)) (sg_tup c.calm (sgs_cons (sg_nm 3 c.nd) (sgs_cons (sg_nm 4 c.nd) (sgs_nil) (on_nm _)) (on_nm _))) (on_tup (on_cons (on_nm _) (on_cons (on_nm _) (on_nil)))) (ss_one (ss_for c.po c.calm (si_enum1 (sa_cons (se_loc 1) (sa_nil)) (Z.free 25)) (sg_tup c.calm (sgs_cons (sg_nm 5 c.nd) (sgs_cons (sg_nm 6 c.nd) (sgs_nil) (on_nm _)) (on_nm _))) (on_tup (on_cons (on_nm _) (on_cons (on_nm _) (on_nil)))) (ss_one (ss_asg (se_add (se_ix c (se_loc 2) (se_add (se_loc 3) (se_loc 5))) (se_mul (se_loc 4) (se_loc 6))) (sg_sub c (se_loc 2) (se_add (se_loc 3) (se_loc 5))) (on_sub))))))
    (ss_one (ss_ret (se_callT (t_q_whole_cut Z) c (sa_cons (se_loc 2) (sa_nil)) (aCons_len (aNil_len))))))
theorem t_q_is_whole_table (Z : FX K mg base) : FnT PP w K mg base (ga K) "_law_is_whole_table" 1 1 d_q_is_whole_table := by
  obtain ⟨fd, FD⟩ := Z.c.def_ 18 (d := D_q_is_whole_table) rfl
  refine ⟨fd, ["_law_factors"], Z.glo 44, FD.kp, FD.bindsN (fun _ _ _ _ _ _ us hl => match us, hl with | [_], _ => rfl), okM FD (N := ["_law_factors", "_law_divisor", "_law_one"]) ⟨rfl, rfl, rfl, by decide +kernel, rfl, by decide +kernel, by decide +kernel⟩ rfl rfl fun cdv A outer s H E c => ?_⟩
  exact ss_cons (ss_for c.po c.calm (si_rng2 rfl (Z.free 3) (sa_cons (se_int) (sa_cons (se_add (se_max c (sa_cons (se_add (se_clist c (sa_cons (se_loc 0) (sa_nil)) (Z.free 24)) (se_lst (sa_cons (se_int) (sa_nil)))) (sa_nil)) (Z.free 2)) (se_int)) (sa_nil)))) (sg_nm 1 c.nd) (on_nm _) (ss_one (ss_if (st_c k_lt (se_sum c (sa_cons (se_lock (o := eLoc 0) (se_lc c (own := [("_law_one", 2)]) (si_dict (se_loc 0)) (blkOk_by (by kernel_rfl)) (fun s H C cl fp => pg_name (c.blk s H _ _ fp).nd (i := 2) rfl (by first | exact Or.inl rfl | exact Or.inr rfl)) (cg_nm 2) (fun s H C cl fp c => sts_one (st_c (k_eqM c) (se_mod (se_loc 2) (se_loc 1)) (se_int))) (fun s H C cl fp c => se_ix c (se_loc 0) (se_loc 2)))) (sa_nil)) (Z.free 8)) (se_int)) (ss_one (ss_ret (se_bl))) (ss_nil))))
    (ss_one (ss_ret (se_bl)))
theorem t_q_factored (Z : FX K mg base) : FnT PP w K mg base (ga K) "_law_factored" 1 1 d_q_factored := by
  obtain ⟨fd, FD⟩ := Z.c.def_ 19 (d := D_q_factored) rfl
  refine ⟨fd, ["_law_factors"], Z.glo 45, FD.kp, FD.bindsN (fun _ _ _ _ _ _ us hl => match us, hl with | [_], _ => rfl), okM FD (N := ["_law_factors", "_law_degree", "_law_one", "_law_found", "_law_turn", "_law_places", "_law_at", "_law_sign", "_law_entry"]) ⟨rfl, rfl, rfl, by decide +kernel, rfl, by decide +kernel, by decide +kernel⟩ rfl rfl fun cdv A outer s H E c => ?_⟩
  exact ss_cons (ss_set 1 c.nd (se_sum c (sa_cons (se_lock (o := eLoc 0) (se_lc c (own := [("_law_one", 2)]) (si_dict (se_loc 0)) (blkOk_by (by kernel_rfl)) (fun s H C cl fp => pg_name (c.blk s H _ _ fp).nd (i := 2) rfl (by first | exact Or.inl rfl | exact Or.inr rfl)) (cg_nm 2) (fun s H C cl fp c => sts_yes) (fun s H C cl fp c => se_mul (se_loc 2) (se_ix c (se_loc 0) (se_loc 2))))) (sa_nil)) (Z.free 8)))
    (ss_cons (ss_set 3 c.nd (se_add (se_lst (sa_cons (se_int) (sa_nil))) (se_mul (se_lst (sa_cons (se_int) (sa_nil))) (se_loc 1))))
    (ss_cons (ss_lock (o := eLoc 0) (ss_for c.po c.calm (si_dict (se_loc 0)) (sg_nm 2 c.nd) (on_nm _) (ss_one (ss_for c.po c.calm (si_rng1 rfl (Z.free 3) (sa_cons (se_abs c (sa_cons (se_ix c (se_loc 0) (se_loc 2)) (sa_nil)) (Z.free 13)) (sa_nil))) (sg_nm 4 c.nd) (on_nm _) (ss_cons (ss_set 5 c.nd (se_rngL c (sa_cons (se_loc 2) (sa_cons (se_add (se_loc 1) (se_int)) (sa_nil))) (Z.free 24) (Z.free 3)))
    (ss_one (ss_for c.po c.calm (si_seq (se_if (st_c k_gt (se_ix c (se_loc 0) (se_loc 2)) (se_int)) (se_rev (se_loc 5)) (se_loc 5))) (sg_nm 6 c.nd) (on_nm _) (ss_one (ss_asg (se_if (st_c k_gt (se_ix c (se_loc 0) (se_loc 2)) (se_int)) (se_sub (se_ix c (se_loc 3) (se_loc 6)) (se_ix c (se_loc 3) (se_sub (se_loc 6) (se_loc 2)))) (se_add (se_ix c (se_loc 3) (se_loc 6)) (se_ix c (se_loc 3) (se_sub (se_loc 6) (se_loc 2))))) (sg_sub c (se_loc 3) (se_loc 6)) (on_sub))))))))))
    (ss_cons (ss_set 7 c.nd (se_if (st_c (k_eqM c) (se_mod (se_sum c (sa_cons (se_lock (o := eLoc 0) (se_lc c (own := [("_law_one", 2)]) (si_dict (se_loc 0)) (blkOk_by (by kernel_rfl)) (fun s H C cl fp => pg_name (c.blk s H _ _ fp).nd (i := 2) rfl (by first | exact Or.inl rfl | exact Or.inr rfl)) (cg_nm 2) (fun s H C cl fp c => sts_yes) (fun s H C cl fp c => se_ix c (se_loc 0) (se_loc 2)))) (sa_nil)) (Z.free 8)) (se_int)) (se_int)) (se_neg (se_int)) (se_int)))
    (ss_one (ss_ret (se_ctuple c (sa_cons (se_lc c (own := [("_law_entry", 8)]) (si_seq (se_loc 3)) (blkOk_by (by kernel_rfl)) (fun s H C cl fp => pg_name (c.blk s H _ _ fp).nd (i := 8) rfl (by first | exact Or.inl rfl | exact Or.inr rfl)) (cg_nm 8) (fun s H C cl fp c => sts_yes) (fun s H C cl fp c => se_mul (se_loc 7) (se_loc 8))) (sa_nil)) (Z.free 5)))))))
theorem t_q_parted_at_one (Z : FX K mg base) : FnT PP w K mg base (ga K) "_law_parted_at_one" 1 1 d_q_parted_at_one := by
  obtain ⟨fd, FD⟩ := Z.c.def_ 20 (d := D_q_parted_at_one) rfl
  refine ⟨fd, ["_law_row"], Z.glo 46, FD.kp, FD.bindsN (fun _ _ _ _ _ _ us hl => match us, hl with | [_], _ => rfl), okM FD (N := ["_law_row", "_law_many", "_law_here", "_law_later", "_law_carry", "_law_entry"]) ⟨rfl, rfl, rfl, by decide +kernel, rfl, by decide +kernel, by decide +kernel⟩ rfl rfl fun cdv A outer s H E c => ?_⟩
  exact ss_cons (ss_par 1 2 c.calm c.nd (sa_cons (se_int) (sa_cons (se_clist c (sa_cons (se_loc 0) (sa_nil)) (Z.free 24)) (sa_nil))))
    (ss_cons (ss_while c.po (st_c (k_eqM c) (se_sum c (sa_cons (se_loc 2) (sa_nil)) (Z.free 8)) (se_int)) (ss_cons (ss_par 3 4 c.calm c.nd (sa_cons (se_lst (sa_nil)) (sa_cons (se_int) (sa_nil))))
    (ss_cons (ss_for c.po c.calm (si_seq (se_rev (se_loc 2))) (sg_nm 5 c.nd) (on_nm _) (ss_cons (ss_set 4 c.nd (se_add (se_loc 4) (se_loc 5)))
    (ss_one (ss_expr (se_append c (se_loc 3) (sa_cons (se_loc 4) (sa_nil)))))))
    (ss_one (ss_par 1 2 c.calm c.nd (sa_cons (se_add (se_loc 1) (se_int)) (sa_cons (se_rev (se_sl (se_loc 3) (so_no) (so_yes (se_neg (se_int))))) (sa_nil))))))))
    (ss_one (ss_ret (se_tup (sa_cons (se_loc 1) (sa_cons (se_sum c (sa_cons (se_loc 2) (sa_nil)) (Z.free 8)) (sa_nil)))))))
theorem t_q_pick (Z : FX K mg base) : FnT PP w K mg base (ga K) "_law_pick" 2 2 d_q_pick := by
  obtain ⟨fd, FD⟩ := Z.c.def_ 21 (d := D_q_pick) rfl
  refine ⟨fd, ["_law_dice_here", "_law_items"], Z.glo 47, FD.kp, FD.bindsN (fun _ _ _ _ _ _ us hl => match us, hl with | [_, _], _ => rfl), okM FD (N := ["_law_dice_here", "_law_items"]) ⟨rfl, rfl, rfl, by decide +kernel, rfl, by decide +kernel, by decide +kernel⟩ rfl rfl fun cdv A outer s H E c => ?_⟩
  exact ss_one (ss_ret (se_ix c (se_loc 1) (se_callT (t_q_roll Z) c (sa_cons (se_loc 0) (sa_cons (se_len c (sa_cons (se_loc 1) (sa_nil)) (Z.free 0)) (sa_nil))) (aCons_len (aCons_len (aNil_len))))))
theorem t_q_factors_drawn (Z : FX K mg base) : FnT PP w K mg base (ga K) "_law_factors_drawn" 3 1 d_q_factors_drawn := by
  obtain ⟨fd, FD⟩ := Z.c.def_ 22 (d := D_q_factors_drawn) rfl
  refine ⟨fd, ["_law_dice_here"], Z.glo 48, FD.kp, FD.bindsN (fun _ _ _ _ _ _ us hl => match us, hl with | [_], _ => rfl), okM FD (N := ["_law_dice_here", "_law_found", "_law_turn", "_law_one", "_law_many", "_law_part", "_law_less"]) ⟨rfl, rfl, rfl, by decide +kernel, rfl, by decide +kernel, by decide +kernel⟩ rfl rfl fun cdv A outer s H E c => ?_⟩
  exact ss_cons (ss_set 1 c.nd (se_dct0))
    (ss_cons (ss_for c.po c.calm (si_rng1 rfl (Z.free 3) (sa_cons (se_add (se_int) (se_callT (t_q_roll Z) c (sa_cons (se_loc 0) (sa_cons (se_int) (sa_nil))) (aCons_len (aCons_len (aNil_len))))) (sa_nil))) (sg_nm 2 c.nd) (on_nm _) (ss_cons (ss_asg (se_tup (sa_cons (se_add (se_int) (se_callT (t_q_roll Z) c (sa_cons (se_loc 0) (sa_cons (se_int) (sa_nil))) (aCons_len (aCons_len (aNil_len))))) (sa_cons (se_add (se_int) (se_callT (t_q_roll Z) c (sa_cons (se_loc 0) (sa_cons (se_int) (sa_nil))) (aCons_len (aCons_len (aNil_len))))) (sa_nil)))) (sg_tup c.calm (sgs_cons (sg_nm 3 c.nd) (sgs_cons (sg_nm 4 c.nd) (sgs_nil) (on_nm _)) (on_nm _))) (on_tup (on_cons (on_nm _) (on_cons (on_nm _) (on_nil)))))
    (ss_cons (ss_asg (se_add (se_get2 c (se_loc 1) (se_loc 3) (se_int)) (se_loc 4)) (sg_sub c (se_loc 1) (se_loc 3)) (on_sub))
    (ss_cons (ss_setLc 5 c (own := [("_law_less", 6)]) (si_rng2 rfl (Z.free 3) (sa_cons (se_int) (sa_cons (se_add (se_loc 3) (se_int)) (sa_nil)))) (blkOk_by (by kernel_rfl)) (fun s H C cl fp => pg_name (c.blk s H _ _ fp).nd (i := 6) rfl (by first | exact Or.inl rfl | exact Or.inr rfl)) (cg_nm 6) (fun s H C cl fp c => sts_one (st_c (k_eqM c) (se_mod (se_loc 3) (se_loc 6)) (se_int))) (fun s H C cl fp c => se_loc 6) (by rfl))
    (ss_cons (ss_set 6 c.nd (se_if (st_c k_gt (se_callT (t_q_roll Z) c (sa_cons (se_loc 0) (sa_cons (se_int) (sa_nil))) (aCons_len (aCons_len (aNil_len)))) (se_int)) (se_callT (t_q_pick Z) c (sa_cons (se_loc 0) (sa_cons (se_loc 5) (sa_nil))) (aCons_len (aCons_len (aNil_len)))) (se_add (se_int) (se_callT (t_q_roll Z) c (sa_cons (se_loc 0) (sa_cons (se_int) (sa_nil))) (aCons_len (aCons_len (aNil_len)))))))
    (ss_one (ss_asg (se_sub (se_get2 c (se_loc 1) (se_loc 6) (se_int)) (se_callT (t_q_roll Z) c (sa_cons (se_loc 0) (sa_cons (se_int) (sa_nil))) (aCons_len (aCons_len (aNil_len))))) (sg_sub c (se_loc 1) (se_loc 6)) (on_sub))))))))
    (ss_one (ss_ret (se_cdict c (sa_cons (se_lock (o := eLoc 1) (se_lc c (own := [("_law_one", 3)]) (si_dict (se_loc 1)) (blkOk_by (by kernel_rfl)) (fun s H C cl fp => pg_name (c.blk s H _ _ fp).nd (i := 3) rfl (by first | exact Or.inl rfl | exact Or.inr rfl)) (cg_nm 3) (fun s H C cl fp c => sts_one (st_c (k_neM c) (se_ix c (se_loc 1) (se_loc 3)) (se_int))) (fun s H C cl fp c => se_tup (sa_cons (se_loc 3) (sa_cons (se_ix c (se_loc 1) (se_loc 3)) (sa_nil)))))) (sa_nil)) (Z.free 20)))))
theorem t_q_is_judged (Z : FX K mg base) : FnT PP w K mg base (ga K) "_law_is_judged" 4 1 d_q_is_judged := by
  obtain ⟨fd, FD⟩ := Z.c.def_ 23 (d := D_q_is_judged) rfl
  refine ⟨fd, ["_law_dice_here"], Z.glo 49, FD.kp, FD.bindsN (fun _ _ _ _ _ _ us hl => match us, hl with | [_], _ => rfl), okM FD (N := ["_law_dice_here", "_law_row", "_law_turn", "_law_values", "_law_due", "_law_value"]) ⟨rfl, rfl, rfl, by decide +kernel, rfl, by decide +kernel, by decide +kernel⟩ rfl rfl fun cdv A outer s H E c => ?_⟩
  exact ss_cons (ss_set 1 c.nd (se_ctuple c (sa_cons (se_lc c (own := [("_law_turn", 2)]) (si_rng1 rfl (Z.free 3) (sa_cons (se_callT (t_q_roll Z) c (sa_cons (se_loc 0) (sa_cons (se_int) (sa_nil))) (aCons_len (aCons_len (aNil_len)))) (sa_nil))) (blkOk_by (by kernel_rfl)) (fun s H C cl fp => pg_name (c.blk s H _ _ fp).nd (i := 2) rfl (by first | exact Or.inl rfl | exact Or.inr rfl)) (cg_nm 2) (fun s H C cl fp c => sts_yes) (fun s H C cl fp c => se_sub (se_callT (t_q_roll Z) c (sa_cons (se_loc 0) (sa_cons (se_int) (sa_nil))) (aCons_len (aCons_len (aNil_len)))) (se_int))) (sa_nil)) (Z.free 5)))
    (ss_cons (ss_set 3 c.nd (se_lst (sa_cons (se_loc 1) (sa_cons (se_add (se_loc 1) (se_tup (sa_cons (se_int) (sa_nil)))) (sa_cons (se_add (se_loc 1) (se_tup (sa_cons (se_int) (sa_nil)))) (sa_cons (se_tup (sa_cons (se_int) (sa_cons (se_bl) (sa_nil)))) (sa_cons (se_tup (sa_cons (se_pow (se_int) (se_int)) (sa_nil))) (sa_cons (se_tup (sa_cons (se_pow (se_int) (se_int)) (sa_cons (se_int) (sa_nil)))) (sa_cons (se_clist c (sa_cons (se_loc 1) (sa_nil)) (Z.free 24)) (sa_cons (se_non) (sa_cons (se_str) (sa_cons (se_int) (sa_cons (se_tup (sa_cons (se_non) (sa_cons (se_int) (sa_nil)))) (sa_cons (se_tup (sa_cons (se_tup (sa_cons (se_int) (sa_nil))) (sa_nil))) (sa_nil)))))))))))))))
    (ss_cons (ss_set 4 c.nd (se_add (se_lst (sa_cons (se_or (se_c (k_eqM c) (se_loc 1) (se_tup (sa_nil))) (se_one (se_c (k_neM c) (se_ix c (se_loc 1) (se_neg (se_int))) (se_int)))) (sa_cons (se_bl) (sa_cons (se_bl) (sa_cons (se_bl) (sa_cons (se_bl) (sa_cons (se_bl) (sa_nil)))))))) (se_mul (se_lst (sa_cons (se_bl) (sa_nil))) (se_int))))
    (ss_one (ss_ret (se_c (k_eqM c) (se_lc c (own := [("_law_value", 5)]) (si_seq (se_loc 3)) (blkOk_by (by kernel_rfl)) (fun s H C cl fp => pg_name (c.blk s H _ _ fp).nd (i := 5) rfl (by first | exact Or.inl rfl | exact Or.inr rfl)) (cg_nm 5) (fun s H C cl fp c => sts_yes) (fun s H C cl fp c => se_callT (t_is_polynomial Z) c (sa_cons (se_loc 5) (sa_nil)) (aCons_len (aNil_len)))) (se_loc 4))))))
theorem t_q_right (Z : FX K mg base) : FnT PP w K mg base (ga K) "_law_right" 6 1 d_q_right := by
  obtain ⟨fd, FD⟩ := Z.c.def_ 24 (d := D_q_right) rfl
  refine ⟨fd, ["_law_dice_here"], Z.glo 50, FD.kp, FD.bindsN (fun _ _ _ _ _ _ us hl => match us, hl with | [_], _ => rfl), okM FD (N := ["_law_dice_here", "_law_turn", "_law_factors", "_law_told_here", "_law_is_one", "_law_one", "_law_row"]) ⟨rfl, rfl, rfl, by decide +kernel, rfl, by decide +kernel, by decide +kernel⟩ rfl rfl fun cdv A outer s H E c => ?_⟩
  exact ss_cons (ss_for c.po c.calm (si_rng1 rfl (Z.free 3) (sa_cons (se_int) (sa_nil))) (sg_nm 1 c.nd) (on_nm _) (ss_cons (ss_set 2 c.nd (se_callT (t_q_factors_drawn Z) c (sa_cons (se_loc 0) (sa_nil)) (aCons_len (aNil_len))))
    (ss_cons (ss_par 3 4 c.calm c.nd (sa_cons (se_callT (t_q_told Z) c (sa_cons (se_loc 2) (sa_nil)) (aCons_len (aNil_len))) (sa_cons (se_callT (t_q_is_whole_table Z) c (sa_cons (se_loc 2) (sa_nil)) (aCons_len (aNil_len))) (sa_nil))))
    (ss_cons (ss_if (st_c (k_eqM c) (se_c (k_eqM c) (se_loc 3) (se_str)) (se_loc 4)) (ss_one (ss_ret (se_bl))) (ss_nil))
    (ss_one (ss_if (st_v (se_loc 4)) (ss_cons (ss_if (st_w (sw_or (st_c (k_neM c) (se_loc 3) (se_callT (t_q_factored Z) c (sa_cons (se_loc 2) (sa_nil)) (aCons_len (aNil_len)))) (sw_or1 (st_c (k_neM c) (se_ix c (se_loc 3) (se_neg (se_int))) (se_int))))) (ss_one (ss_ret (se_bl))) (ss_nil))
    (ss_cons (ss_if (st_c (k_neM c) (se_sub (se_len c (sa_cons (se_loc 3) (sa_nil)) (Z.free 0)) (se_int)) (se_sum c (sa_cons (se_lock (o := eLoc 2) (se_lc c (own := [("_law_one", 5)]) (si_dict (se_loc 2)) (blkOk_by (by kernel_rfl)) (fun s H C cl fp => pg_name (c.blk s H _ _ fp).nd (i := 5) rfl (by first | exact Or.inl rfl | exact Or.inr rfl)) (cg_nm 5) (fun s H C cl fp c => sts_yes) (fun s H C cl fp c => se_mul (se_loc 5) (se_ix c (se_loc 2) (se_loc 5))))) (sa_nil)) (Z.free 8))) (ss_one (ss_ret (se_bl))) (ss_nil))
    (ss_one (ss_if (st_w (sw_or (st_c (k_neM c) (se_callT (t_at_one Z) c (sa_cons (se_loc 3) (sa_nil)) (aCons_len (aNil_len))) (se_callT (t_q_parted_at_one Z) c (sa_cons (se_loc 3) (sa_nil)) (aCons_len (aNil_len)))) (sw_or1 (st_c (k_neM c) (se_ix c (se_callT (t_at_one Z) c (sa_cons (se_loc 3) (sa_nil)) (aCons_len (aNil_len))) (se_int)) (se_sum c (sa_cons (se_listV c (se_loc 2) (Z.free 24)) (sa_nil)) (Z.free 8)))))) (ss_one (ss_ret (se_bl))) (ss_nil))))) (ss_nil)))))))
    (ss_cons (ss_set 6 c.nd (se_add (se_ctuple c (sa_cons (se_lc c (own := [("_law_turn", 1)]) (si_rng1 rfl (Z.free 3) (sa_cons (se_callT (t_q_roll Z) c (sa_cons (se_loc 0) (sa_cons (se_int) (sa_nil))) (aCons_len (aCons_len (aNil_len)))) (sa_nil))) (blkOk_by (by kernel_rfl)) (fun s H C cl fp => pg_name (c.blk s H _ _ fp).nd (i := 1) rfl (by first | exact Or.inl rfl | exact Or.inr rfl)) (cg_nm 1) (fun s H C cl fp c => sts_yes) (fun s H C cl fp c => se_sub (se_callT (t_q_roll Z) c (sa_cons (se_loc 0) (sa_cons (se_int) (sa_nil))) (aCons_len (aCons_len (aNil_len)))) (se_int))) (sa_nil)) (Z.free 5)) (se_tup (sa_cons (se_add (se_int) (se_callT (t_q_roll Z) c (sa_cons (se_loc 0) (sa_cons (se_int) (sa_nil))) (aCons_len (aCons_len (aNil_len))))) (sa_nil)))))
    (ss_cons (ss_for c.po c.calm (si_rng1 rfl (Z.free 3) (sa_cons (se_callT (t_q_roll Z) c (sa_cons (se_loc 0) (sa_cons (se_int) (sa_nil))) (aCons_len (aCons_len (aNil_len)))) (sa_nil))) (sg_nm 1 c.nd) (on_nm _) (ss_one (ss_set 6 c.nd (se_callT (t_q_whole_product Z) c (sa_cons (se_loc 6) (sa_cons (se_tup (sa_cons (se_neg (se_int)) (sa_cons (se_int) (sa_nil)))) (sa_nil))) (aCons_len (aCons_len (aNil_len)))))))
    (ss_one (ss_ret (se_and (se_c (k_eqM c) (se_callT (t_at_one Z) c (sa_cons (se_loc 6) (sa_nil)) (aCons_len (aNil_len))) (se_callT (t_q_parted_at_one Z) c (sa_cons (se_loc 6) (sa_nil)) (aCons_len (aNil_len)))) (se_one (se_callT (t_q_is_judged Z) c (sa_cons (se_loc 0) (sa_nil)) (aCons_len (aNil_len)))))))))
theorem o_law (Z : FX K mg base) {fd : FuncData} (FD : FunD K D_law.name D_law.qual D_law.params D_law.body D_law.scope (D_law.dvs K) (D_law.kws K) (fAd K D_law.at_) fd) : FnOk PP w K mg base (L2.CX PP w) 7 (ga K "law") fd ["_law_script"] (spM K (ga K) 1 d_law) := by
  refine okM FD (N := ["_law_script", "_law_spot", "_law_told_here", "_law_one", "_law_at"]) ⟨rfl, rfl, rfl, by decide +kernel, rfl, by decide +kernel, by decide +kernel⟩ rfl rfl fun cdv A outer s H E c => ?_
  exact ss_cons (ss_for c.po c.calm (si_rng1 rfl (Z.free 3) (sa_cons (se_max c (sa_cons (se_int) (sa_cons (se_min c (sa_cons (se_int) (sa_cons (se_len c (sa_cons (se_loc 0) (sa_nil)) (Z.free 0)) (sa_nil))) (Z.free 1)) (sa_nil))) (Z.free 2)) (sa_nil))) (sg_nm 1 c.nd) (on_nm _) (ss_one (ss_if (st_not (st_b (se_callT (t_q_right Z) c (sa_cons (se_callT (t_q_dice Z) c (sa_cons (se_loc 0) (sa_cons (se_loc 1) (sa_nil))) (aCons_len (aCons_len (aNil_len)))) (sa_nil)) (aCons_len (aNil_len))))) (ss_one (ss_ret (se_bl))) (ss_nil))))
    (ss_cons (ss_setLc 2 c (own := [("_law_one", 3)]) (si_seq (se_tup (sa_cons (se_dct0) (sa_cons (se_dct (sp_cons (se_int) (se_int) (sp_cons (se_int) (se_int) (sp_nil)))) (sa_cons (se_dct (sp_cons (se_int) (se_int) (sp_cons (se_int) (se_neg (se_int)) (sp_nil)))) (sa_cons (se_dct (sp_cons (se_int) (se_int) (sp_nil))) (sa_cons (se_dct (sp_cons (se_int) (se_int) (sp_cons (se_int) (se_neg (se_int)) (sp_nil)))) (sa_cons (se_dct (sp_cons (se_int) (se_int) (sp_cons (se_int) (se_neg (se_int)) (sp_cons (se_int) (se_int) (sp_nil))))) (sa_nil))))))))) (blkOk_by (by kernel_rfl)) (fun s H C cl fp => pg_name (c.blk s H _ _ fp).nd (i := 3) rfl (by first | exact Or.inl rfl | exact Or.inr rfl)) (cg_nm 3) (fun s H C cl fp c => sts_yes) (fun s H C cl fp c => se_callT (t_q_told Z) c (sa_cons (se_loc 3) (sa_nil)) (aCons_len (aNil_len))) (by rfl))
    (ss_cons (ss_if (st_w (sw_or (st_c (k_neM c) (se_sl (se_loc 2) (so_no) (so_yes (se_int))) (se_lst (sa_cons (se_tup (sa_cons (se_int) (sa_nil))) (sa_cons (se_tup (sa_cons (se_int) (sa_cons (se_neg (se_int)) (sa_cons (se_int) (sa_cons (se_neg (se_int)) (sa_cons (se_int) (sa_nil))))))) (sa_cons (se_str) (sa_cons (se_str) (sa_nil))))))) (sw_or1 (st_c (k_neM c) (se_ix c (se_loc 2) (se_int)) (se_str))))) (ss_one (ss_ret (se_bl))) (ss_nil))
    (ss_one (ss_ret (se_and (se_c (k_eqM c) (se_ix c (se_loc 2) (se_int)) (se_ctuple c (sa_cons (se_lc c (own := [("_law_at", 4)]) (si_rng1 rfl (Z.free 3) (sa_cons (se_int) (sa_nil))) (blkOk_by (by kernel_rfl)) (fun s H C cl fp => pg_name (c.blk s H _ _ fp).nd (i := 4) rfl (by first | exact Or.inl rfl | exact Or.inr rfl)) (cg_nm 4) (fun s H C cl fp c => sts_yes) (fun s H C cl fp c => se_cint c (sa_cons (se_c (k_eqM c) (se_mod (se_loc 4) (se_int)) (se_int)) (sa_nil)) (Z.free 4))) (sa_nil)) (Z.free 5))) (se_one (se_c (k_eqM c) (se_callT (t_at_one Z) c (sa_cons (se_tup (sa_cons (se_int) (sa_cons (se_neg (se_int)) (sa_nil)))) (sa_nil)) (aCons_len (aNil_len))) (se_tup (sa_cons (se_int) (sa_cons (se_neg (se_int)) (sa_nil)))))))))))
end
end Mc.Lk83
end
section
set_option Elab.async false
set_option linter.all false
set_option maxRecDepth 100000
/-! Q1: what the machine's texts answer, backwards: no program -/
namespace Mc
open PySem
theorem nrf {p : Prop} (h : p) : p := h
@[irreducible] def Res.P {α : Type} (x : Res α) (Q : α → Sto → Prop) : Prop := match x with
  | .ok v S => Q v S
  | _ => False
@[irreducible] def SR.P (x : SR) (N : Env → Sto → Prop) (R : AV → Sto → Prop) : Prop := match x with
  | .nx r S => N r S
  | .ret v S => R v S
  | _ => False
theorem Res.P_ok {α : Type} (v : α) (S : Sto) (Q : α → Sto → Prop) : (Res.ok v S).P Q = Q v S := by with_unfolding_all exact rfl
theorem Res.P_bind {α β : Type} (x : Res α) (g : α → Sto → Res β) (Q : β → Sto → Prop) : (x.bind g).P Q = x.P fun v S => (g v S).P Q := by
  cases x <;> with_unfolding_all rfl
theorem Res.P_thn {α : Type} (x : Res α) (e : Env) (g : α → Sto → SR) (N : Env → Sto → Prop) (R : AV → Sto → Prop) : (x.thn e g).P N R = x.P fun v S => (g v S).P N R := by
  cases x <;> with_unfolding_all rfl
theorem Res.P.mono {α : Type} {x : Res α} {Q Q' : α → Sto → Prop} (h : x.P Q) (i : ∀ v S, Q v S → Q' v S) : x.P Q' := by
  cases x with
  | ok v S => with_unfolding_all exact i v S h
  | ex => with_unfolding_all exact h
  | bad => with_unfolding_all exact h
theorem SR.P.mono {x : SR} {N N' : Env → Sto → Prop} {R R' : AV → Sto → Prop} (h : x.P N R) (i : ∀ v S, N v S → N' v S) (j : ∀ v S, R v S → R' v S) : x.P N' R' := by
  cases x with
  | nx r S => with_unfolding_all exact i r S h
  | ret v S => with_unfolding_all exact j v S h
  | _ => with_unfolding_all exact h
theorem Res.P.get {α : Type} {x : Res α} {Q : α → Sto → Prop} (h : x.P Q) : ∃ v S, x = .ok v S ∧ Q v S := by
  cases x with
  | ok v S => with_unfolding_all exact ⟨v, S, rfl, h⟩
  | ex => with_unfolding_all exact absurd h id
  | bad => with_unfolding_all exact absurd h id
theorem SR.P_nx (r : Env) (S : Sto) (N : Env → Sto → Prop) (R : AV → Sto → Prop) : (SR.nx r S).P N R = N r S := by with_unfolding_all exact rfl
theorem SR.P_ret (v : AV) (S : Sto) (N : Env → Sto → Prop) (R : AV → Sto → Prop) : (SR.ret v S).P N R = R v S := by with_unfolding_all exact rfl
theorem P_seq (a b : DS) (r : Env) (S : Sto) (N : Env → Sto → Prop) (R : AV → Sto → Prop) : (sSeq a b r S).P N R = (a r S).P (fun r1 S1 => (b r1 S1).P N R) R := by
  show (match a r S with
    | .nx r1 S1 => b r1 S1
    | x => x).P N R = _
  cases a r S <;> with_unfolding_all rfl
theorem P_if (c : DT) (a b : DS) (r : Env) (S : Sto) (N : Env → Sto → Prop) (R : AV → Sto → Prop) : (sIf c a b r S).P N R = (c r S).P fun k S1 => if k = true then (a r S1).P N R else (b r S1).P N R := by
  show ((c r S).thn r fun k S1 => if k = true then a r S1 else b r S1).P N R = _
  rw [Res.P_thn]
  congr 1
  funext k S1
  cases k <;> with_unfolding_all rfl
theorem P_ret (a : DE) (r : Env) (S : Sto) (N : Env → Sto → Prop) (R : AV → Sto → Prop) : (sRet a r S).P N R = (a r S).P R := by
  show ((a r S).thn r _).P N R = _
  rw [Res.P_thn]; with_unfolding_all rfl
theorem P_expr (a : DE) (r : Env) (S : Sto) (N : Env → Sto → Prop) (R : AV → Sto → Prop) : (sExpr a r S).P N R = (a r S).P fun _ S1 => N r S1 := by
  show ((a r S).thn r _).P N R = _
  rw [Res.P_thn]; with_unfolding_all rfl
theorem P_nil (r : Env) (S : Sto) (N : Env → Sto → Prop) (R : AV → Sto → Prop) : (sNil r S).P N R = N r S := by with_unfolding_all exact rfl
theorem P_asg (a : DE) (g : DG) (r : Env) (S : Sto) (N : Env → Sto → Prop) (R : AV → Sto → Prop) : (sAsg a g r S).P N R = (a r S).P fun v S1 => (g v r S1).P N R := by
  show ((a r S).thn r _).P N R = _
  rw [Res.P_thn]
theorem P_gNm (i : Nat) (v : AV) (r : Env) (S : Sto) (N : Env → Sto → Prop) (R : AV → Sto → Prop) : (gNm i v r S).P N R = N (r.set i (some v)) S := by with_unfolding_all exact rfl
theorem P_par (i j : Nat) (t : DA) (r : Env) (S : Sto) (N : Env → Sto → Prop) (R : AV → Sto → Prop) : (sPar i j t r S).P N R = (t r S).P fun vs S1 => match vs with
  | [v, w] => N ((r.set i (some v)).set j (some w)) S1
  | _ => False := by
  show ((t r S).thn r _).P N R = _
  rw [Res.P_thn]
  congr 1
  funext vs S1
  match vs with
  | [] => with_unfolding_all rfl
  | [_] => with_unfolding_all rfl
  | [_, _] => with_unfolding_all rfl
  | _ :: _ :: _ :: _ => with_unfolding_all rfl
theorem P_aug (i : Nat) (f : AV → AV → Sto → Res AV) (a : DE) (r : Env) (S : Sto) (N : Env → Sto → Prop) (R : AV → Sto → Prop) : (sAug i f a r S).P N R = (match r[i]? with
  | some (some x) => (a r S).P fun y S1 => (f x y S1).P fun z S2 => N (r.set i (some z)) S2
  | _ => False) := by
  show (match r[i]? with
    | some (some x) => (a r S).thn r fun y S1 => (f x y S1).thn r fun z S2 => .nx (r.set i (some z)) S2
    | _ => .bad : SR).P N R = _
  cases r[i]? with
  | none => with_unfolding_all rfl
  | some o =>
    cases o with
    | none => with_unfolding_all rfl
    | some x =>
      show ((a r S).thn r _).P N R = _
      rw [Res.P_thn]
      congr 1
      funext y S1
      rw [Res.P_thn]
      with_unfolding_all rfl
theorem P_gSub (o i : DE) (v : AV) (r : Env) (S : Sto) (N : Env → Sto → Prop) (R : AV → Sto → Prop) : (gSub o i v r S).P N R = (o r S).P fun x S1 => (i r S1).P fun y S2 => (oSet x y v S2).P fun _ S3 => N r S3 := by
  show ((o r S).thn r _).P N R = _
  rw [Res.P_thn]
  congr 1
  funext x S1
  rw [Res.P_thn]
  congr 1
  funext y S2
  rw [Res.P_thn]
  with_unfolding_all rfl
theorem P_gTup (n : Nat) (t : List AV → Env → Sto → SR) (xs : List AV) (r : Env) (S : Sto) (N : Env → Sto → Prop) (R : AV → Sto → Prop) (h : xs.length = n) : (gTup n t (.tup xs) r S).P N R = (t xs r S).P N R := by
  show (if xs.length = n then t xs r S else .bad : SR).P N R = _
  rw [if_pos h]
theorem P_gsNil (r : Env) (S : Sto) (N : Env → Sto → Prop) (R : AV → Sto → Prop) : (gsNil [] r S).P N R = N r S := by with_unfolding_all exact rfl
theorem P_gsCons (g : DG) (t : List AV → Env → Sto → SR) (v : AV) (vs : List AV) (r : Env) (S : Sto) (N : Env → Sto → Prop) (R : AV → Sto → Prop) : (gsCons g t (v :: vs) r S).P N R = (g v r S).P (fun r1 S1 => (t vs r1 S1).P N R) R := by
  show (match g v r S with
    | .nx r1 S1 => t vs r1 S1
    | x => x : SR).P N R = _
  cases g v r S <;> with_unfolding_all rfl
/-! expressions -/
theorem P_loc (i : Nat) (r : Env) (S : Sto) (Q : AV → Sto → Prop) : (eLoc i r S).P Q = (match r[i]? with
  | some (some v) => Q v S
  | _ => False) := by
  show (match r[i]? with
    | some (some v) => Res.ok v S
    | _ => .bad).P Q = _
  cases r[i]? with
  | none => with_unfolding_all rfl
  | some o => cases o <;> with_unfolding_all rfl
theorem P_eK (v : AV) (r : Env) (S : Sto) (Q : AV → Sto → Prop) : (eK v r S).P Q = Q v S := by with_unfolding_all exact rfl
theorem P_e1 (f : AV → Sto → Res AV) (a : DE) (r : Env) (S : Sto) (Q : AV → Sto → Prop) : (e1 f a r S).P Q = (a r S).P fun x S1 => (f x S1).P Q := Res.P_bind ..
theorem P_e2 (f : AV → AV → Sto → Res AV) (a b : DE) (r : Env) (S : Sto) (Q : AV → Sto → Prop) : (e2 f a b r S).P Q = (a r S).P fun x S1 => (b r S1).P fun y S2 => (f x y S2).P Q := by
  show ((a r S).bind _).P Q = _
  rw [Res.P_bind]
  congr 1
  funext x S1
  rw [Res.P_bind]
theorem P_eT (t : DT) (r : Env) (S : Sto) (Q : AV → Sto → Prop) : (eT t r S).P Q = (t r S).P fun b S1 => Q (.bl b) S1 := by with_unfolding_all exact Res.P_bind ..
theorem P_aNil (r : Env) (S : Sto) (Q : List AV → Sto → Prop) : (aNil r S).P Q = Q [] S := by with_unfolding_all exact rfl
theorem P_aCons (a : DE) (t : DA) (r : Env) (S : Sto) (Q : List AV → Sto → Prop) : (aCons a t r S).P Q = (a r S).P fun x S1 => (t r S1).P fun xs S2 => Q (x :: xs) S2 := by
  show ((a r S).bind _).P Q = _
  rw [Res.P_bind]
  congr 1
  funext x S1
  rw [Res.P_bind]
  with_unfolding_all rfl
theorem P_call (f : List AV → Sto → Res AV) (t : DA) (r : Env) (S : Sto) (Q : AV → Sto → Prop) : (eCall f t r S).P Q = (t r S).P fun vs S1 => (f vs S1).P Q := Res.P_bind ..
theorem P_if_res {α : Type} (c : Prop) [Decidable c] (x y : Res α) (Q : α → Sto → Prop) : (if c then x else y : Res α).P Q = if c then x.P Q else y.P Q := by
  split <;> with_unfolding_all rfl
theorem P_bad {α : Type} (Q : α → Sto → Prop) : (Res.bad : Res α).P Q = False := by with_unfolding_all exact rfl
theorem P_tup (t : DA) (r : Env) (S : Sto) (Q : AV → Sto → Prop) : (eTup t r S).P Q = (t r S).P fun xs S1 => if xs.length ≤ sizeLine then Q (.tup xs) S1 else False := by
  show ((t r S).bind _).P Q = _
  rw [Res.P_bind]
  congr 1
  funext x S1
  rw [P_if_res]
  with_unfolding_all rfl
theorem P_lst (t : DA) (r : Env) (S : Sto) (Q : AV → Sto → Prop) : (eLst t r S).P Q = (t r S).P fun xs S1 => if xs.length ≤ sizeLine then Q (.ref S1.length) (S1 ++ [.lst false xs]) else False := by
  show ((t r S).bind _).P Q = _
  rw [Res.P_bind]
  congr 1
  funext x S1
  rw [P_if_res]
  with_unfolding_all rfl
theorem P_eIf (c : DT) (a b : DE) (r : Env) (S : Sto) (Q : AV → Sto → Prop) : (eIf c a b r S).P Q = (c r S).P fun k S1 => if k = true then (a r S1).P Q else (b r S1).P Q := by
  show ((c r S).bind _).P Q = _
  rw [Res.P_bind]
  congr 1
  funext x S1
  rw [P_if_res]
theorem P_andB (a b : DE) (r : Env) (S : Sto) (Q : AV → Sto → Prop) : (eAndB a b r S).P Q = (a r S).P fun x S1 => match x with
  | .bl k => if k = true then (b r S1).P Q else Q (.bl false) S1
  | _ => False := by
  show ((a r S).bind _).P Q = _
  rw [Res.P_bind]
  congr 1
  funext x S1
  cases x <;> first | with_unfolding_all rfl | (show (if _ then _ else _ : Res AV).P Q = _; rw [P_if_res]; with_unfolding_all rfl)
theorem P_orB (a b : DE) (r : Env) (S : Sto) (Q : AV → Sto → Prop) : (eOrB a b r S).P Q = (a r S).P fun x S1 => match x with
  | .bl k => if k = true then Q (.bl true) S1 else (b r S1).P Q
  | _ => False := by
  show ((a r S).bind _).P Q = _
  rw [Res.P_bind]
  congr 1
  funext x S1
  cases x <;> first | with_unfolding_all rfl | (show (if _ then _ else _ : Res AV).P Q = _; rw [P_if_res]; with_unfolding_all rfl)
theorem P_notB (a : DE) (r : Env) (S : Sto) (Q : AV → Sto → Prop) : (eNotB a r S).P Q = (a r S).P fun x S1 => match x with
  | .bl k => Q (.bl (!k)) S1
  | _ => False := by
  show ((a r S).bind _).P Q = _
  rw [Res.P_bind]
  congr 1
  funext x S1
  cases x <;> with_unfolding_all rfl
/-! tests -/
theorem P_ofO {α : Type} (S : Sto) (o : Option α) (Q : α → Sto → Prop) : (ofO S o).P Q = (match o with
  | some v => Q v S
  | none => False) := by cases o <;> with_unfolding_all rfl
theorem P_tV (a : DE) (r : Env) (S : Sto) (Q : Bool → Sto → Prop) : (tV a r S).P Q = (a r S).P fun x S1 => match truA S1 x with
  | some v => Q v S1
  | none => False := by
  show ((a r S).bind _).P Q = _
  rw [Res.P_bind]
  congr 1
  funext x S1
  rw [P_ofO]
  cases truA S1 x <;> with_unfolding_all rfl
theorem P_tB (a : DE) (r : Env) (S : Sto) (Q : Bool → Sto → Prop) : (tB a r S).P Q = (a r S).P fun x S1 => match x with
  | .bl k => Q k S1
  | _ => False := by
  show ((a r S).bind _).P Q = _
  rw [Res.P_bind]
  congr 1
  funext x S1
  cases x <;> with_unfolding_all rfl
theorem P_tAnd (a b : DT) (r : Env) (S : Sto) (Q : Bool → Sto → Prop) : (tAnd a b r S).P Q = (a r S).P fun k S1 => if k = true then (b r S1).P Q else Q false S1 := by
  show ((a r S).bind _).P Q = _
  rw [Res.P_bind]
  congr 1
  funext x S1
  rw [P_if_res]
  with_unfolding_all rfl
theorem P_tOr (a b : DT) (r : Env) (S : Sto) (Q : Bool → Sto → Prop) : (tOr a b r S).P Q = (a r S).P fun k S1 => if k = true then Q true S1 else (b r S1).P Q := by
  show ((a r S).bind _).P Q = _
  rw [Res.P_bind]
  congr 1
  funext x S1
  rw [P_if_res]
  with_unfolding_all rfl
theorem P_tNot (a : DT) (r : Env) (S : Sto) (Q : Bool → Sto → Prop) : (tNot a r S).P Q = (a r S).P fun k S1 => Q (!k) S1 := by with_unfolding_all exact Res.P_bind ..
theorem P_tYes (r : Env) (S : Sto) (Q : Bool → Sto → Prop) : (tYes r S).P Q = Q true S := by with_unfolding_all exact rfl
theorem P_tC (f : AV → AV → Sto → Res AV) (a b : DE) (r : Env) (S : Sto) (Q : Bool → Sto → Prop) : (tC f a b r S).P Q = (a r S).P fun x S1 => (b r S1).P fun y S2 => (f x y S2).P fun z S3 => match z with
  | .bl k => Q k S3
  | _ => False := by
  show ((a r S).bind _).P Q = _
  rw [Res.P_bind]
  congr 1
  funext x S1
  rw [Res.P_bind]
  congr 1
  funext y S2
  rw [Res.P_bind]
  congr 1
  funext z S3
  cases z <;> with_unfolding_all rfl
theorem P_ch (f g : AV → AV → Sto → Res AV) (a b c : DE) (r : Env) (S : Sto) (Q : AV → Sto → Prop) : (eCh f g a b c r S).P Q = (a r S).P fun x S1 => (b r S1).P fun y S2 => (f x y S2).P fun z S3 => match z with
  | .bl k => if k = true then (c r S3).P fun w S4 => (g y w S4).P Q else Q (.bl false) S3
  | _ => False := by
  show ((a r S).bind _).P Q = _
  rw [Res.P_bind]
  congr 1
  funext x S1
  rw [Res.P_bind]
  congr 1
  funext y S2
  rw [Res.P_bind]
  congr 1
  funext z S3
  cases z <;> first | with_unfolding_all rfl | (show (if _ then _ else _ : Res AV).P Q = _; rw [P_if_res, Res.P_bind]; with_unfolding_all rfl)
theorem P_sl (a : DE) (lo hi : DO) (r : Env) (S : Sto) (Q : AV → Sto → Prop) : (eSl a lo hi r S).P Q = (a r S).P fun x S1 => (lo r S1).P fun l S2 => (hi r S2).P fun h S3 => (oSl x l h S3).P Q := by
  show ((a r S).bind _).P Q = _
  rw [Res.P_bind]
  congr 1
  funext x S1
  rw [Res.P_bind]
  congr 1
  funext y S2
  rw [Res.P_bind]
theorem P_oNo (r : Env) (S : Sto) (Q : Option Int → Sto → Prop) : (oNo r S).P Q = Q none S := by with_unfolding_all exact rfl
theorem P_oYes (a : DE) (r : Env) (S : Sto) (Q : Option Int → Sto → Prop) : (oYes a r S).P Q = (a r S).P fun x S1 => match x with
  | .int i => Q (some i) S1
  | _ => False := by
  show ((a r S).bind _).P Q = _
  rw [Res.P_bind]
  congr 1
  funext x S1
  cases x <;> with_unfolding_all rfl
theorem P_mt (T : String) (f : AV → List AV → Sto → Res AV) (o : DE) (t : DA) (r : Env) (S : Sto) (Q : AV → Sto → Prop) : (eMt T f o t r S).P Q = (o r S).P fun x S1 => if tyA T S1 x = true then (t r S1).P fun vs S2 => (f x vs S2).P Q else False := by
  show ((o r S).bind _).P Q = _
  rw [Res.P_bind]
  congr 1
  funext x S1
  rw [P_if_res, Res.P_bind]
  with_unfolding_all rfl
theorem P_new (S : Sto) (o : AO) (Q : AV → Sto → Prop) : (new S o).P Q = Q (.ref S.length) (S ++ [o]) := by with_unfolding_all exact rfl

/-! loops -/
def stp (g : DG) (b : DS) (v : AV) : DS := sSeq (fun r S => g v r S) b
theorem P_stp (g : DG) (b : DS) (v : AV) (r : Env) (S : Sto) (N : Env → Sto → Prop) (R : AV → Sto → Prop) : (stp g b v r S).P N R = (g v r S).P (fun r1 S1 => (b r1 S1).P N R) R := P_seq ..
theorem P_forG {N : Env → Sto → Prop} {R : AV → Sto → Prop} (xs : List AV) (Inv : Nat → Env → Sto → Prop) {u : Src} {g : DG} {b : DS}
    (hu : ∀ i r S, Inv i r S → u S i = some xs[i]?)
    (step : ∀ i v r S, xs[i]? = some v → Inv i r S → (stp g b v r S).P (Inv (i + 1)) R)
    (fin : ∀ r S, Inv xs.length r S → N r S) : ∀ n i r S, xs.length < n + i → i ≤ xs.length → Inv i r S → (forG u g b n i r S).P N R := by
  intro n
  induction n with
  | zero => intro i r S h1 h2; omega
  | succ n ih =>
    intro i r S h1 h2 hI
    have e := hu i r S hI
    unfold forG
    rw [e]
    by_cases hi : i < xs.length
    · have e2 : xs[i]? = some xs[i] := List.getElem?_eq_getElem hi
      rw [e2]
      have st := step i xs[i] r S e2 hI
      rw [P_stp] at st
      show (match g xs[i] r S with
        | .nx r1 S1 => (match b r1 S1 with
          | .nx r2 S2 => forG u g b n (i + 1) r2 S2
          | .cnt r2 S2 => forG u g b n (i + 1) r2 S2
          | .brk r2 S2 => .nx r2 S2
          | x => x)
        | x => x : SR).P N R
      cases h : g xs[i] r S with
      | nx r1 S1 =>
        rw [h] at st
        have st : (b r1 S1).P (Inv (i + 1)) R := by with_unfolding_all exact st
        show (match b r1 S1 with
          | .nx r2 S2 => forG u g b n (i + 1) r2 S2
          | .cnt r2 S2 => forG u g b n (i + 1) r2 S2
          | .brk r2 S2 => .nx r2 S2
          | x => x : SR).P N R
        cases h' : b r1 S1 with
        | nx r2 S2 => rw [h'] at st; with_unfolding_all exact ih (i + 1) r2 S2 (by omega) (by omega) st
        | ret v S2 => rw [h'] at st; with_unfolding_all exact st
        | brk => rw [h'] at st; with_unfolding_all exact absurd st id
        | cnt => rw [h'] at st; with_unfolding_all exact absurd st id
        | ex => rw [h'] at st; with_unfolding_all exact absurd st id
        | bad => rw [h'] at st; with_unfolding_all exact absurd st id
      | ret v S2 => rw [h] at st; with_unfolding_all exact st
      | brk => rw [h] at st; with_unfolding_all exact absurd st id
      | cnt => rw [h] at st; with_unfolding_all exact absurd st id
      | ex => rw [h] at st; with_unfolding_all exact absurd st id
      | bad => rw [h] at st; with_unfolding_all exact absurd st id
    · have e2 : xs[i]? = none := List.getElem?_eq_none (by omega)
      rw [e2]
      have : i = xs.length := by omega
      subst this
      with_unfolding_all exact fin r S hI
theorem P_for {N : Env → Sto → Prop} {R : AV → Sto → Prop} {u : DI} {g : DG} {b : DS} {r : Env} {S : Sto} (xs : List AV) (Inv : Nat → Env → Sto → Prop)
    (hl : xs.length < LIM)
    (hu : (u r S).P fun s S1 => (∀ i r' S', Inv i r' S' → s S' i = some xs[i]?) ∧ Inv 0 r S1)
    (step : ∀ i v r1 S1, xs[i]? = some v → Inv i r1 S1 → (stp g b v r1 S1).P (Inv (i + 1)) R)
    (fin : ∀ r1 S1, Inv xs.length r1 S1 → N r1 S1) : (sFor u g b r S).P N R := by
  show ((u r S).thn r fun s S1 => forG s g b LIM 0 r S1).P N R
  rw [Res.P_thn]
  refine hu.mono fun s S1 h => ?_
  with_unfolding_all exact P_forG xs Inv h.1 step fin LIM 0 r S1 (by omega) (by omega) h.2
def lcStp (g : DG) (t : DT) (a : DE) (v : AV) (r : Env) (S : Sto) (Q : List AV → Sto → Prop) : Prop :=
  (g v r S).P (fun r1 S1 => (t r1 S1).P fun k S2 => if k = true then (a r1 S2).P fun y S3 => Q [y] S3 else Q [] S2) fun _ _ => False
theorem P_lcG {Q : List AV → Sto → Prop} (xs : List AV) (Inv : Nat → List AV → Sto → Prop) {u : Src} {g : DG} {t : DT} {a : DE} {r : Env}
    (hu : ∀ i acc S, Inv i acc S → u S i = some xs[i]?)
    (step : ∀ i v acc S, xs[i]? = some v → Inv i acc S → lcStp g t a v r S fun ys S1 => Inv (i + 1) (acc ++ ys) S1)
    (fin : ∀ acc S, Inv xs.length acc S → Q acc S) : ∀ n i acc S, xs.length < n + i → i ≤ xs.length → Inv i acc S → (lcG u g t a r n i acc S).P Q := by
  intro n
  induction n with
  | zero => intro i r S h1 h2; omega
  | succ n ih =>
    intro i acc S h1 h2 hI
    have e := hu i acc S hI
    unfold lcG
    rw [e]
    by_cases hi : i < xs.length
    · have e2 : xs[i]? = some xs[i] := List.getElem?_eq_getElem hi
      rw [e2]
      have st := step i xs[i] acc S e2 hI
      unfold lcStp at st
      show (match g xs[i] r S with
        | .nx r1 S1 => (match t r1 S1 with
          | .ok k S2 => if k = true then (match a r1 S2 with
            | .ok y S3 => lcG u g t a r n (i + 1) (acc ++ [y]) S3
            | _ => .bad) else lcG u g t a r n (i + 1) acc S2
          | _ => .bad)
        | _ => .bad : Res (List AV)).P Q
      cases h : g xs[i] r S with
      | nx r1 S1 =>
        rw [h] at st
        have st : (t r1 S1).P fun k S2 => if k = true then (a r1 S2).P fun y S3 => Inv (i + 1) (acc ++ [y]) S3 else Inv (i + 1) (acc ++ []) S2 := by with_unfolding_all exact st
        show (match t r1 S1 with
          | .ok k S2 => if k = true then (match a r1 S2 with
            | .ok y S3 => lcG u g t a r n (i + 1) (acc ++ [y]) S3
            | _ => .bad) else lcG u g t a r n (i + 1) acc S2
          | _ => .bad : Res (List AV)).P Q
        cases h' : t r1 S1 with
        | ok k S2 =>
          rw [h'] at st
          cases k with
          | false =>
            have st : Inv (i + 1) (acc ++ []) S2 := by with_unfolding_all exact st
            rw [List.append_nil] at st
            with_unfolding_all exact ih (i + 1) acc S2 (by omega) (by omega) st
          | true =>
            have st : (a r1 S2).P fun y S3 => Inv (i + 1) (acc ++ [y]) S3 := by with_unfolding_all exact st
            show (match a r1 S2 with
              | .ok y S3 => lcG u g t a r n (i + 1) (acc ++ [y]) S3
              | _ => .bad : Res (List AV)).P Q
            cases h'' : a r1 S2 with
            | ok y S3 => rw [h''] at st; with_unfolding_all exact ih (i + 1) _ S3 (by omega) (by omega) st
            | ex => rw [h''] at st; with_unfolding_all exact absurd st id
            | bad => rw [h''] at st; with_unfolding_all exact absurd st id
        | ex => rw [h'] at st; with_unfolding_all exact absurd st id
        | bad => rw [h'] at st; with_unfolding_all exact absurd st id
      | ret => rw [h] at st; with_unfolding_all exact absurd st id
      | brk => rw [h] at st; with_unfolding_all exact absurd st id
      | cnt => rw [h] at st; with_unfolding_all exact absurd st id
      | ex => rw [h] at st; with_unfolding_all exact absurd st id
      | bad => rw [h] at st; with_unfolding_all exact absurd st id
    · have e2 : xs[i]? = none := List.getElem?_eq_none (by omega)
      rw [e2]
      have : i = xs.length := by omega
      subst this
      with_unfolding_all exact fin acc S hI
theorem P_lc {Q : AV → Sto → Prop} {vs : List Nat} {u : DI} {g : DG} {t : DT} {a : DE} {r : Env} {S : Sto} (xs : List AV) (Inv : Nat → List AV → Sto → Prop)
    (hl : xs.length < LIM)
    (hu : (u r S).P fun s S1 => (∀ i acc S', Inv i acc S' → s S' i = some xs[i]?) ∧ Inv 0 [] S1)
    (step : ∀ i v acc S1, xs[i]? = some v → Inv i acc S1 → lcStp g t a v (wip r vs) S1 fun ys S2 => Inv (i + 1) (acc ++ ys) S2)
    (fin : ∀ acc S1, Inv xs.length acc S1 → Q (.ref S1.length) (S1 ++ [.lst false acc])) : (eLc vs u g t a r S).P Q := by
  show ((u r S).bind fun s S1 => (lcG s g t a (wip r vs) LIM 0 [] S1).bind fun xs S2 => new S2 (.lst false xs)).P Q
  rw [Res.P_bind]
  refine hu.mono fun s S1 h => ?_
  rw [Res.P_bind]
  with_unfolding_all exact P_lcG xs Inv h.1 step fin LIM 0 [] S1 (by omega) (by omega) h.2
/-- a comprehension that leaves the store alone -/
theorem P_lc_pure {Q : AV → Sto → Prop} {vs : List Nat} {u : DI} {g : DG} {t : DT} {a : DE} {r : Env} {S : Sto} (xs : List AV) (f : AV → List AV)
    (hl : xs.length < LIM)
    (hu : (u r S).P fun s S1 => (∀ i, s S i = some xs[i]?) ∧ S1 = S)
    (step : ∀ v ∈ xs, lcStp g t a v (wip r vs) S fun ys S2 => S2 = S ∧ ys = f v)
    (fin : Q (.ref S.length) (S ++ [.lst false (xs.flatMap f)])) : (eLc vs u g t a r S).P Q := by
  refine P_lc xs (fun i acc S1 => S1 = S ∧ acc = (xs.take i).flatMap f) hl (hu.mono fun s S1 h => ⟨fun i acc S' h' => by rw [h'.1]; with_unfolding_all exact h.1 i, h.2, rfl⟩) ?_ ?_
  · rintro i v acc S1 hv ⟨rfl, rfl⟩
    have hm : v ∈ xs := List.mem_of_getElem? hv
    have st := step v hm
    unfold lcStp at st ⊢
    refine st.mono (fun r1 S2 h => h.mono fun k S3 h => ?_) fun _ _ h => h
    have e : (xs.take (i + 1)).flatMap f = (xs.take i).flatMap f ++ f v := by
      rw [List.take_add_one, hv]
      simp
    cases k with
    | false =>
      have h : S3 = S1 ∧ [] = f v := h
      with_unfolding_all exact ⟨h.1, by rw [e, ← h.2]⟩
    | true =>
      with_unfolding_all exact Res.P.mono (Q := fun y S4 => S4 = S1 ∧ [y] = f v) h fun y S4 h => ⟨h.1, by rw [e, ← h.2]⟩
  · rintro acc S1 ⟨rfl, rfl⟩
    rw [List.take_length]
    with_unfolding_all exact fin
/-- while: told by how often it still turns -/
theorem P_while {N : Env → Sto → Prop} {R : AV → Sto → Prop} {c : DT} {b : DS} {r : Env} {S : Sto} (Inv : Nat → Env → Sto → Prop) (k : Nat) (hk : k < LIM)
    (h0 : Inv k r S)
    (step : ∀ j r S, Inv j r S → (c r S).P fun t S1 => if t = true then (∃ i, j = i + 1 ∧ (b r S1).P (Inv i) R) else N r S1) : (sWhile c b r S).P N R := by
  have key : ∀ n j r S, j < n → Inv j r S → (whG c b n r S).P N R := by
    intro n
    induction n with
    | zero => intro j r S h; omega
    | succ n ih =>
      intro j r S h hI
      have st := step j r S hI
      unfold whG
      rw [Res.P_thn]
      refine st.mono fun t S1 st => ?_
      cases t with
      | false => with_unfolding_all exact st
      | true =>
        obtain ⟨i, hi, st⟩ : ∃ i, j = i + 1 ∧ (b r S1).P (Inv i) R := by with_unfolding_all exact st
        show (match b r S1 with
          | .nx r2 S2 => whG c b n r2 S2
          | .cnt r2 S2 => whG c b n r2 S2
          | .brk r2 S2 => .nx r2 S2
          | x => x : SR).P N R
        cases h' : b r S1 with
        | nx r2 S2 => rw [h'] at st; with_unfolding_all exact ih i r2 S2 (by omega) st
        | ret v S2 => rw [h'] at st; with_unfolding_all exact st
        | brk => rw [h'] at st; with_unfolding_all exact absurd st id
        | cnt => rw [h'] at st; with_unfolding_all exact absurd st id
        | ex => rw [h'] at st; with_unfolding_all exact absurd st id
        | bad => rw [h'] at st; with_unfolding_all exact absurd st id
  with_unfolding_all exact key LIM k r S hk h0
theorem P_mkF {n : Nat} {b : DS} {vs : List AV} {S : Sto} {Q : AV → Sto → Prop} (r0 : Env) (e : vs.map some ++ List.replicate (n - vs.length) none = r0) (h : (b r0 S).P (fun _ S1 => Q .non S1) Q) : (mkF n b vs S).P Q := by
  unfold mkF
  rw [e]
  cases h' : b r0 S with
  | nx r2 S2 => rw [h'] at h; with_unfolding_all exact h
  | ret v S2 => rw [h'] at h; with_unfolding_all exact h
  | brk => rw [h'] at h; with_unfolding_all exact absurd h id
  | cnt => rw [h'] at h; with_unfolding_all exact absurd h id
  | ex => rw [h'] at h; with_unfolding_all exact absurd h id
  | bad => rw [h'] at h; with_unfolding_all exact absurd h id
theorem P_lkE {o : DE} {b : DE} {r : Env} {S S0 : Sto} {Q : AV → Sto → Prop} {a : Nat} {kvs : List (AV × AV)} (ho : o r S = .ok (.ref a) S0) (hS : S[a]? = some (.dct false kvs))
    (h : (b r (S.set a (.dct true kvs))).P fun v S1 => ∃ kvs', S1[a]? = some (.dct true kvs') ∧ Q v (S1.set a (.dct false kvs'))) : (lkE o b r S).P Q := by
  have e : lkAt o r S = some (a, false, kvs) := by unfold lkAt; rw [ho]; show (match S[a]? with | some (.dct k kvs) => some (a, k, kvs) | _ => none) = _; rw [hS]
  unfold lkE
  rw [e]
  show (match b r (S.set a (.dct true kvs)) with
    | .ok v S1 => (match unlk a S1 with
      | some S2 => Res.ok v S2
      | none => .bad)
    | _ => .bad).P Q
  obtain ⟨v, S1, e1, kvs', e2, hq⟩ := h.get
  rw [e1]
  have : unlk a S1 = some (S1.set a (.dct false kvs')) := by unfold unlk; rw [e2]
  show (match unlk a S1 with
      | some S2 => Res.ok v S2
      | none => .bad).P Q
  rw [this]
  with_unfolding_all exact hq
theorem P_lkS {o : DE} {b : DS} {r : Env} {S S0 : Sto} {N : Env → Sto → Prop} {R : AV → Sto → Prop} {a : Nat} {kvs : List (AV × AV)} (ho : o r S = .ok (.ref a) S0) (hS : S[a]? = some (.dct false kvs))
    (h : (b r (S.set a (.dct true kvs))).P (fun r1 S1 => ∃ kvs', S1[a]? = some (.dct true kvs') ∧ N r1 (S1.set a (.dct false kvs'))) (fun v S1 => ∃ kvs', S1[a]? = some (.dct true kvs') ∧ R v (S1.set a (.dct false kvs')))) : (lkS o b r S).P N R := by
  have e : lkAt o r S = some (a, false, kvs) := by unfold lkAt; rw [ho]; show (match S[a]? with | some (.dct k kvs) => some (a, k, kvs) | _ => none) = _; rw [hS]
  unfold lkS
  rw [e]
  show (match b r (S.set a (.dct true kvs)) with
    | .nx r1 S1 => (match unlk a S1 with
      | some S2 => .nx r1 S2
      | none => .bad)
    | .ret v S1 => (match unlk a S1 with
      | some S2 => .ret v S2
      | none => .bad)
    | .brk r1 S1 => (match unlk a S1 with
      | some S2 => .brk r1 S2
      | none => .bad)
    | .cnt r1 S1 => (match unlk a S1 with
      | some S2 => .cnt r1 S2
      | none => .bad)
    | _ => .bad : SR).P N R
  cases h' : b r (S.set a (.dct true kvs)) with
  | nx r1 S1 =>
    rw [h'] at h
    obtain ⟨kvs', e2, hq⟩ : ∃ kvs', S1[a]? = some (.dct true kvs') ∧ N r1 (S1.set a (.dct false kvs')) := by with_unfolding_all exact h
    have : unlk a S1 = some (S1.set a (.dct false kvs')) := by unfold unlk; rw [e2]
    show (match unlk a S1 with
      | some S2 => .nx r1 S2
      | none => .bad : SR).P N R
    rw [this]
    with_unfolding_all exact hq
  | ret v S1 =>
    rw [h'] at h
    obtain ⟨kvs', e2, hq⟩ : ∃ kvs', S1[a]? = some (.dct true kvs') ∧ R v (S1.set a (.dct false kvs')) := by with_unfolding_all exact h
    have : unlk a S1 = some (S1.set a (.dct false kvs')) := by unfold unlk; rw [e2]
    show (match unlk a S1 with
      | some S2 => .ret v S2
      | none => .bad : SR).P N R
    rw [this]
    with_unfolding_all exact hq
  | brk => rw [h'] at h; with_unfolding_all exact absurd h id
  | cnt => rw [h'] at h; with_unfolding_all exact absurd h id
  | ex => rw [h'] at h; with_unfolding_all exact absurd h id
  | bad => rw [h'] at h; with_unfolding_all exact absurd h id
end Mc
end
section
set_option Elab.async false
set_option linter.all false
set_option maxRecDepth 100000
/-! Q2: stores, rows of iv, tables of iv: no program -/
namespace Mc
open PySem
theorem szl : (sizeLine : Nat) = 16777216 := rfl

/-! ### stores -/
def Ext (S S' : Sto) : Prop := ∀ (k : Nat) (o : AO), S[k]? = some o → S'[k]? = some o
theorem Ext.refl (S : Sto) : Ext S S := fun _ _ h => h
theorem Ext.trans {S S' S'' : Sto} (h : Ext S S') (h' : Ext S' S'') : Ext S S'' := fun k o e => h' k o (h k o e)
theorem get_lt {S : Sto} {k : Nat} {o : AO} (h : S[k]? = some o) : k < S.length := by
  obtain ⟨h, _⟩ := List.getElem?_eq_some_iff.1 h
  with_unfolding_all exact h
theorem Ext.app (S T : Sto) : Ext S (S ++ T) := fun k o h => by
  rw [List.getElem?_append_left (get_lt h)]; with_unfolding_all exact h
theorem app_get {S T : Sto} {k : Nat} {o : AO} (h : S[k]? = some o) : (S ++ T)[k]? = some o := Ext.app S T k o h
theorem app_new (S : Sto) (o : AO) : (S ++ [o])[S.length]? = some o := by simp
theorem Ext.len {S S' : Sto} (h : Ext S S') : S.length ≤ S'.length := by
  cases hS : S.length with
  | zero => omega
  | succ n =>
    have hn : n < S.length := by omega
    have := h n S[n] (List.getElem?_eq_getElem hn)
    have := get_lt this
    omega
theorem set_get (S : Sto) (a : Nat) (o : AO) (h : a < S.length) : (S.set a o)[a]? = some o := by simp [h]
theorem set_ne (S : Sto) (a k : Nat) (o : AO) (h : k ≠ a) : (S.set a o)[k]? = S[k]? := by
  rw [List.getElem?_set_ne (Ne.symm h)]
/-- all but one stay -/
def Kp (a : Nat) (S S' : Sto) : Prop := ∀ (k : Nat) (o : AO), k ≠ a → S[k]? = some o → S'[k]? = some o
theorem Kp.refl (a : Nat) (S : Sto) : Kp a S S := fun _ _ _ h => h
theorem Kp.trans {a : Nat} {S S' S'' : Sto} (h : Kp a S S') (h' : Kp a S' S'') : Kp a S S'' := fun k o n e => h' k o n (h k o n e)
theorem Ext.kp {S S' : Sto} (a : Nat) (h : Ext S S') : Kp a S S' := fun k o _ e => h k o e
theorem Kp.set (a : Nat) (S : Sto) (o : AO) : Kp a S (S.set a o) := fun k o' n e => by rw [set_ne S a k o n]; with_unfolding_all exact e
/-- a fresh object may change -/
theorem ext_set {S S' : Sto} {a : Nat} (o : AO) (h : Ext S S') (ha : S.length ≤ a) : Ext S (S'.set a o) := fun k o' e => by
  have := get_lt e
  rw [set_ne S' a k o (by omega)]
  with_unfolding_all exact h k o' e
theorem kp_set {S S' : Sto} {d a : Nat} (o : AO) (h : Kp d S S') (ha : S.length ≤ a) : Kp d S (S'.set a o) := fun k o' n e => by
  have := get_lt e
  rw [set_ne S' a k o (by omega)]
  with_unfolding_all exact h k o' n e
theorem ext_unlk {S S1 : Sto} {a : Nat} {o o' : AO} (hS : S[a]? = some o) (h : Ext (S.set a o') S1) : Ext S (S1.set a o) := fun k x e => by
  have ha := get_lt hS
  have h1 := h a o' (set_get S a o' ha)
  by_cases hk : k = a
  · subst hk
    rw [set_get _ _ _ (get_lt h1), ← e, hS]
  · rw [set_ne _ _ _ _ hk]
    with_unfolding_all exact h k x (by rw [set_ne _ _ _ _ hk]; with_unfolding_all exact e)
theorem P_lkE2 {o : DE} {b : DE} {r : Env} {S S0 : Sto} {Q : AV → Sto → Prop} {a : Nat} {kvs : List (AV × AV)} (ho : o r S = .ok (.ref a) S0) (hS : S[a]? = some (.dct false kvs))
    (h : (b r (S.set a (.dct true kvs))).P fun v S1 => Ext (S.set a (.dct true kvs)) S1 ∧ Q v (S1.set a (.dct false kvs))) : (lkE o b r S).P Q :=
  P_lkE ho hS (h.mono fun v S1 h => ⟨kvs, h.1 a _ (set_get S a _ (get_lt hS)), h.2⟩)

/-! ### iv -/
abbrev iv (ns : List Int) : List AV := ns.map AV.int
theorem intsOf_ints (ns : List Int) : intsOf (iv ns) = some ns := by
  induction ns with
  | nil => with_unfolding_all rfl
  | cons n ns ih => show (intsOf (iv ns)).map (n :: ·) = _; rw [ih]; with_unfolding_all rfl
theorem optAll_mapq {α β : Type} (xs : List α) (f : α → Option β) (g : α → β) (h : ∀ x ∈ xs, f x = some (g x)) : optAll (xs.map f) = some (xs.map g) := by
  induction xs with
  | nil => with_unfolding_all rfl
  | cons x xs ih =>
    have h1 := h x (List.mem_cons_self ..)
    have h2 := ih fun y hy => h y (List.mem_cons_of_mem _ hy)
    show optAll (f x :: xs.map f) = _
    rw [h1]
    show (match optAll (xs.map f) with
      | some ys => some (g x :: ys)
      | none => none) = _
    rw [h2]
    with_unfolding_all rfl
theorem dat_ints (n : Nat) (S : Sto) (ns : List Int) : AV.dat (n + 2) S (.tup (iv ns)) = some (.tuple (ns.map .int)) := by
  show (optAll ((iv ns).map (AV.dat (n + 1) S))).map PyData.tuple = _
  have : (iv ns).map (AV.dat (n + 1) S) = ns.map fun i => some (PyData.int i) := by
    simp only [List.map_map]
    congr 1
  rw [this, optAll_mapq ns _ PyData.int fun _ _ => rfl]
  with_unfolding_all rfl
theorem eqA_ints (S : Sto) (ns ms : List Int) : eqA S (.tup (iv ns)) (.tup (iv ms)) = some (decide (ns = ms)) := by
  unfold eqA DEPTH
  rw [dat_ints 10, dat_ints 10]
  show some (PyData.eqvAll _ _) = _
  rw [PySem.W.ked_eqvAll]
theorem eqA_ints_nil (S : Sto) (ns : List Int) : eqA S (.tup (iv ns)) (.tup []) = some (decide (ns = [])) := eqA_ints S ns []
theorem eqA_ints_str (S : Sto) (ns : List Int) (s : Str) : eqA S (.tup (iv ns)) (.str s) = some false := by
  unfold eqA DEPTH
  rw [dat_ints 10]
  show some (PyData.eqv _ _) = _
  simp [PyData.eqv]
theorem eqA_str_str (S : Sto) (s t : Str) : eqA S (.str s) (.str t) = some (s == t) := by
  show some (PyData.eqv _ _) = _
  simp [PyData.eqv]
theorem eqA_int (S : Sto) (i j : Int) : eqA S (.int i) (.int j) = some (i == j) := by
  show some (PyData.eqv _ _) = _
  simp [PyData.eqv]
theorem eqA_bl (S : Sto) (i j : Bool) : eqA S (.bl i) (.bl j) = some (i == j) := by
  show some (PyData.eqv _ _) = _
  simp [PyData.eqv]
theorem P_cEq (x y : AV) (S : Sto) (b : Bool) (h : eqA S x y = some b) (Q : AV → Sto → Prop) : (cEq x y S).P Q = Q (.bl b) S := by
  unfold cEq; rw [h]; with_unfolding_all rfl
theorem P_cNe (x y : AV) (S : Sto) (b : Bool) (h : eqA S x y = some b) (Q : AV → Sto → Prop) : (cNe x y S).P Q = Q (.bl (!b)) S := by
  unfold cNe; rw [h]; with_unfolding_all rfl
theorem cEq_ii (i j : Int) (S : Sto) (Q : AV → Sto → Prop) : (cEq (.int i) (.int j) S).P Q = Q (.bl (i == j)) S := P_cEq _ _ _ _ (eqA_int S i j) Q
theorem cNe_ii (i j : Int) (S : Sto) (Q : AV → Sto → Prop) : (cNe (.int i) (.int j) S).P Q = Q (.bl (!(i == j))) S := P_cNe _ _ _ _ (eqA_int S i j) Q
theorem cEq_bb (i j : Bool) (S : Sto) (Q : AV → Sto → Prop) : (cEq (.bl i) (.bl j) S).P Q = Q (.bl (i == j)) S := P_cEq _ _ _ _ (eqA_bl S i j) Q
theorem cEq_ss (i j : Str) (S : Sto) (Q : AV → Sto → Prop) : (cEq (.str i) (.str j) S).P Q = Q (.bl (i == j)) S := P_cEq _ _ _ _ (eqA_str_str S i j) Q
theorem cEq_ts (ns : List Int) (j : Str) (S : Sto) (Q : AV → Sto → Prop) : (cEq (.tup (iv ns)) (.str j) S).P Q = Q (.bl false) S := P_cEq _ _ _ _ (eqA_ints_str S ns j) Q
theorem cEq_tn (ns : List Int) (S : Sto) (Q : AV → Sto → Prop) : (cEq (.tup (iv ns)) (.tup []) S).P Q = Q (.bl (decide (ns = []))) S := P_cEq _ _ _ _ (eqA_ints_nil S ns) Q
theorem cEq_tt (ns ms : List Int) (S : Sto) (Q : AV → Sto → Prop) : (cEq (.tup (iv ns)) (.tup (iv ms)) S).P Q = Q (.bl (decide (ns = ms))) S := P_cEq _ _ _ _ (eqA_ints S ns ms) Q
theorem cNe_tt (ns ms : List Int) (S : Sto) (Q : AV → Sto → Prop) : (cNe (.tup (iv ns)) (.tup (iv ms)) S).P Q = Q (.bl (!decide (ns = ms))) S := P_cNe _ _ _ _ (eqA_ints S ns ms) Q
/-! operators -/
theorem P_addI (i j : Int) (S : Sto) (Q : AV → Sto → Prop) : (oAdd (.int i) (.int j) S).P Q = Q (.int (i + j)) S := by with_unfolding_all exact rfl
theorem P_subI (i j : Int) (S : Sto) (Q : AV → Sto → Prop) : (oSub (.int i) (.int j) S).P Q = Q (.int (i - j)) S := by with_unfolding_all exact rfl
theorem P_augI (f : Int → Int → Int) (i j : Int) (S : Sto) (Q : AV → Sto → Prop) : (oInt f (.int i) (.int j) S).P Q = Q (.int (f i j)) S := by with_unfolding_all exact rfl
theorem P_negI (i : Int) (S : Sto) (Q : AV → Sto → Prop) : (oNeg (.int i) S).P Q = Q (.int (-i)) S := by with_unfolding_all exact rfl
theorem P_lt (i j : Int) (S : Sto) (Q : AV → Sto → Prop) : (cLt (.int i) (.int j) S).P Q = Q (.bl (decide (i < j))) S := by with_unfolding_all exact rfl
theorem P_le (i j : Int) (S : Sto) (Q : AV → Sto → Prop) : (cLe (.int i) (.int j) S).P Q = Q (.bl (decide (i ≤ j))) S := by with_unfolding_all exact rfl
theorem P_gt (i j : Int) (S : Sto) (Q : AV → Sto → Prop) : (cGt (.int i) (.int j) S).P Q = Q (.bl (decide (j < i))) S := by with_unfolding_all exact rfl
theorem P_ge (i j : Int) (S : Sto) (Q : AV → Sto → Prop) : (cGe (.int i) (.int j) S).P Q = Q (.bl (decide (j ≤ i))) S := by with_unfolding_all exact rfl
theorem P_mulS (i j : Int) (S : Sto) (Q : AV → Sto → Prop) (h : smA i = true ∨ smA j = true) : (oMul (.int i) (.int j) S).P Q = Q (.int (i * j)) S := by
  have : (smA i || smA j || decide (i.natAbs.log2 + j.natAbs.log2 < 1000000)) = true := by
    rcases h with h | h <;> simp [h]
  show Res.P (if (smA i || smA j || decide (i.natAbs.log2 + j.natAbs.log2 < 1000000)) = true then .ok (.int (i * j)) S else .bad) Q = _
  rw [if_pos this]; with_unfolding_all rfl
theorem P_modI (i j : Int) (S : Sto) (Q : AV → Sto → Prop) (h : 0 < j) : (oMod (.int i) (.int j) S).P Q = Q (.int (i % j)) S := by
  show Res.P (if decide (0 < j) = true then .ok (.int (i % j)) S else .bad) Q = _
  rw [if_pos (by simpa using h)]; with_unfolding_all rfl
theorem P_divI (i j : Int) (S : Sto) (Q : AV → Sto → Prop) (h : 0 < j) (h' : j < 2 ^ 64) : (oDiv (.int i) (.int j) S).P Q = Q (.int (i / j)) S := by
  have h3 : j.natAbs.log2 < 9000 := by
    have : j.natAbs < 2 ^ 64 := by omega
    have h5 : j.natAbs ≠ 0 := by omega
    have := (Nat.log2_lt h5).2 this
    omega
  show Res.P (if (decide (0 < j) && decide (j.natAbs.log2 < 9000)) = true then .ok (.int (i / j)) S else .bad) Q = _
  rw [if_pos (by simp [h, h3])]; with_unfolding_all rfl
theorem P_absI (i : Int) (S : Sto) (Q : AV → Sto → Prop) : (pAbs [.int i] S).P Q = Q (.int (if i < 0 then -i else i)) S := by with_unfolding_all exact rfl
theorem P_intI (i : Int) (S : Sto) (Q : AV → Sto → Prop) : (pInt [.int i] S).P Q = Q (.int i) S := by with_unfolding_all exact rfl
theorem P_intB (b : Bool) (S : Sto) (Q : AV → Sto → Prop) : (pInt [.bl b] S).P Q = Q (.int (if b then 1 else 0)) S := by with_unfolding_all exact rfl
theorem ixN_nat {n i : Nat} (h : i < n) : L2.ixN n (i : Int) = some i := by
  unfold L2.ixN
  rw [if_pos (by omega), if_pos (by omega)]
  simp
theorem atI_nat {α : Type} (xs : List α) (i : Nat) (h : i < xs.length) : L2.atI xs (i : Int) = xs[i]? := by
  unfold L2.atI
  rw [ixN_nat h]
  with_unfolding_all rfl
theorem atI_of {α : Type} (xs : List α) (i : Int) (k : Nat) (h : i = k) (hk : k < xs.length) : L2.atI xs i = some xs[k] := by
  rw [h, atI_nat xs k hk, List.getElem?_eq_getElem hk]
theorem atI_last {α : Type} (xs : List α) (h : xs ≠ []) : L2.atI xs (-1) = xs.getLast? := by
  have h0 : 0 < xs.length := List.length_pos_iff.2 h
  unfold L2.atI L2.ixN
  rw [if_neg (by omega), if_pos (by omega), List.getLast?_eq_getElem?]
  show xs[(-1 + (xs.length : Int)).toNat]? = _
  congr 1
  omega
/-! ### rows by their entries -/
def tabI (m : Nat) (f : Nat → Int) : List Int := (List.range m).map f
abbrev tab (m : Nat) (f : Nat → Int) : List AV := iv (tabI m f)
theorem tab_len (m : Nat) (f : Nat → Int) : (tab m f).length = m := by simp [tabI]
theorem tabI_len (m : Nat) (f : Nat → Int) : (tabI m f).length = m := by simp [tabI]
theorem tab_get (m : Nat) (f : Nat → Int) (i : Nat) (h : i < m) : (tab m f)[i]? = some (.int (f i)) := by
  simp [tabI, h]
theorem tab_at (m : Nat) (f : Nat → Int) (i : Int) (k : Nat) (e : i = k) (h : k < m) : L2.atI (tab m f) i = some (.int (f k)) := by
  rw [e, atI_nat _ _ (by rw [tab_len]; with_unfolding_all exact h), tab_get m f k h]
theorem tab_set (m : Nat) (f : Nat → Int) (i : Nat) (v : Int) : (tab m f).set i (.int v) = tab m fun j => if j = i then v else f j := by
  apply List.ext_getElem?
  intro j
  rw [List.getElem?_set]
  by_cases hj : j < m
  · rw [tab_get _ _ _ hj]
    by_cases h : i = j
    · subst h; simp [hj, tabI]
    · rw [if_neg h, tab_get _ _ _ hj, if_neg (fun e => h e.symm)]
  · have h1 : (tab m f)[j]? = none := List.getElem?_eq_none (by rw [tab_len]; omega)
    have h2 : (tab m fun j => if j = i then v else f j)[j]? = none := List.getElem?_eq_none (by rw [tab_len]; omega)
    rw [h1, h2, tab_len]
    by_cases h : i = j
    · subst h; simp [hj]
    · rw [if_neg h]
theorem tabI_congr (m : Nat) (f g : Nat → Int) (h : ∀ i, i < m → f i = g i) : tabI m f = tabI m g :=
  List.map_congr_left fun i hi => h i (List.mem_range.1 hi)
theorem tabI_of (L : List Int) : L = tabI L.length fun i => L.getD i 0 := by
  apply List.ext_getElem?
  intro j
  by_cases hj : j < L.length
  · simp [tabI, hj]
  · rw [List.getElem?_eq_none (by omega), List.getElem?_eq_none (by rw [tabI_len]; omega)]
/-- an item of a list in the store -/
theorem P_ixL (S : Sto) (a : Nat) (lk : Bool) (xs : List AV) (i : Int) (k : Nat) (hS : S[a]? = some (.lst lk xs)) (e : i = k) (hk : k < xs.length) (Q : AV → Sto → Prop) : (oIx (.ref a) (.int i) S).P Q = Q xs[k] S := by
  unfold oIx
  simp only [hS]
  rw [atI_of xs i k e hk]; with_unfolding_all rfl
theorem P_ixTab (S : Sto) (a : Nat) (lk : Bool) (m : Nat) (f : Nat → Int) (i : Int) (k : Nat) (hS : S[a]? = some (.lst lk (tab m f))) (e : i = k) (hk : k < m) (Q : AV → Sto → Prop) : (oIx (.ref a) (.int i) S).P Q = Q (.int (f k)) S := by
  unfold oIx
  simp only [hS]
  rw [tab_at m f i k e hk]; with_unfolding_all rfl
theorem P_setTab (S : Sto) (a : Nat) (m : Nat) (f : Nat → Int) (i : Int) (k : Nat) (v : Int) (hS : S[a]? = some (.lst false (tab m f))) (e : i = k) (hk : k < m) (Q : Unit → Sto → Prop) : (oSet (.ref a) (.int i) (.int v) S).P Q = Q () (S.set a (.lst false (tab m fun j => if j = k then v else f j))) := by
  unfold oSet
  simp only [hS]
  rw [e, tab_len, ixN_nat hk]
  show Res.P (Res.ok () (S.set a (.lst false ((tab m f).set k (.int v))))) Q = _
  rw [Res.P_ok]
  rw [tab_set]
theorem P_sumL (S : Sto) (a : Nat) (lk : Bool) (ns : List Int) (hS : S[a]? = some (.lst lk (iv ns))) (Q : AV → Sto → Prop) : (pSum [.ref a] S).P Q = Q (.int ns.sum) S := by
  unfold pSum lstOf
  simp only [hS]
  show Res.P (match (some (iv ns)).bind intsOf with
    | some ns => .ok (.int ns.sum) S
    | none => .bad) Q = _
  show Res.P (match intsOf (iv ns) with
    | some ns => .ok (.int ns.sum) S
    | none => .bad) Q = _
  rw [intsOf_ints]; with_unfolding_all rfl
theorem P_sumT (S : Sto) (ns : List Int) (Q : AV → Sto → Prop) : (pSum [.tup (iv ns)] S).P Q = Q (.int ns.sum) S := by
  show Res.P (match intsOf (iv ns) with
    | some ns => .ok (.int ns.sum) S
    | none => .bad) Q = _
  rw [intsOf_ints]; with_unfolding_all rfl
theorem P_lenL (S : Sto) (a : Nat) (lk : Bool) (xs : List AV) (hS : S[a]? = some (.lst lk xs)) (Q : AV → Sto → Prop) : (pLen [.ref a] S).P Q = Q (.int xs.length) S := by
  unfold pLen
  simp only [hS]; with_unfolding_all rfl
theorem P_lenT (S : Sto) (xs : List AV) (Q : AV → Sto → Prop) : (pLen [.tup xs] S).P Q = Q (.int xs.length) S := by with_unfolding_all exact rfl
theorem P_lenD (S : Sto) (a : Nat) (kvs : List (AV × AV)) (hS : S[a]? = some (.dct false kvs)) (Q : AV → Sto → Prop) : (pLen [.ref a] S).P Q = Q (.int kvs.length) S := by
  unfold pLen
  simp only [hS]; with_unfolding_all rfl
def blsI (bs : List Bool) : List AV := bs.map AV.bl
theorem blsOf_bls (bs : List Bool) : blsOf (blsI bs) = some bs := by
  induction bs with
  | nil => with_unfolding_all rfl
  | cons n ns ih => show (blsOf (blsI ns)).map (n :: ·) = _; rw [ih]; with_unfolding_all rfl
theorem P_allL (S : Sto) (a : Nat) (lk : Bool) (bs : List Bool) (hS : S[a]? = some (.lst lk (blsI bs))) (Q : AV → Sto → Prop) : (pAll [.ref a] S).P Q = Q (.bl (bs.all id)) S := by
  unfold pAll lstOf
  simp only [hS]
  show Res.P (match blsOf (blsI bs) with
    | some bs => .ok (.bl (bs.all id)) S
    | none => .bad) Q = _
  rw [blsOf_bls]; with_unfolding_all rfl
theorem P_tupL (S : Sto) (a : Nat) (lk : Bool) (xs : List AV) (hS : S[a]? = some (.lst lk xs)) (Q : AV → Sto → Prop) : (pTuple [.ref a] S).P Q = Q (.tup xs) S := by
  unfold pTuple
  simp only [hS]; with_unfolding_all rfl
theorem P_listT (S : Sto) (xs : List AV) (Q : AV → Sto → Prop) : (pListD [.tup xs] S).P Q = Q (.ref S.length) (S ++ [.lst false xs]) := by with_unfolding_all exact rfl
theorem P_listL (S : Sto) (a : Nat) (lk : Bool) (xs : List AV) (hS : S[a]? = some (.lst lk xs)) (Q : AV → Sto → Prop) : (pListD [.ref a] S).P Q = Q (.ref S.length) (S ++ [.lst false xs]) := by
  unfold pListD
  simp only [hS]
  unfold pList
  simp only [hS]
  with_unfolding_all rfl
theorem P_listK (S : Sto) (a : Nat) (lk : Bool) (kvs : List (AV × AV)) (hS : S[a]? = some (.dct lk kvs)) (Q : AV → Sto → Prop) : (pListD [.ref a] S).P Q = Q (.ref S.length) (S ++ [.lst false (kvs.map (·.1))]) := by
  unfold pListD
  simp only [hS]
  with_unfolding_all rfl
/-! ### what is walked -/
theorem P_rng1 (t : DA) (r : Env) (S : Sto) (Q : Src → Sto → Prop) (h : (t r S).P fun vs S1 => ∃ j : Int, vs = [.int j] ∧ -(2 ^ 62) ≤ j ∧ j < 2 ^ 62 ∧ Q (uFix (rngL 0 j.toNat)) S1) : (iRng1 t r S).P Q := by
  unfold iRng1
  rw [Res.P_bind]
  refine h.mono ?_
  rintro vs S1 ⟨j, rfl, h1, h2, h3⟩
  show (if decide (-RB ≤ j) && decide (j < RB) then Res.ok (uFix (rngL 0 j.toNat)) S1 else .bad).P Q
  rw [if_pos (by simp only [Bool.and_eq_true, decide_eq_true_eq]; with_unfolding_all exact ⟨h1, h2⟩)]
  with_unfolding_all exact h3
theorem P_rng2 (t : DA) (r : Env) (S : Sto) (Q : Src → Sto → Prop) (h : (t r S).P fun vs S1 => ∃ i j : Int, vs = [.int i, .int j] ∧ -(2 ^ 62) ≤ i ∧ i < 2 ^ 62 ∧ -(2 ^ 62) ≤ j ∧ j < 2 ^ 62 ∧ Q (uFix (rngL i (j - i).toNat)) S1) : (iRng2 t r S).P Q := by
  unfold iRng2
  rw [Res.P_bind]
  refine h.mono ?_
  rintro vs S1 ⟨i, j, rfl, h1, h2, h3, h4, h5⟩
  show (if decide (-RB ≤ i) && decide (i < RB) && decide (-RB ≤ j) && decide (j < RB) then Res.ok (uFix (rngL i (j - i).toNat)) S1 else .bad).P Q
  rw [if_pos (by simp only [Bool.and_eq_true, decide_eq_true_eq]; with_unfolding_all exact ⟨⟨⟨h1, h2⟩, h3⟩, h4⟩)]
  with_unfolding_all exact h5
theorem P_rng3 (t : DA) (r : Env) (S : Sto) (Q : Src → Sto → Prop) (h : (t r S).P fun vs S1 => ∃ i j : Int, vs = [.int i, .int j, .int (-1)] ∧ -(2 ^ 62) ≤ i ∧ i < 2 ^ 62 ∧ -(2 ^ 62) ≤ j ∧ j < 2 ^ 62 ∧ Q (uFix (rngC i (-1) (i - j).toNat)) S1) : (iRng3 t r S).P Q := by
  unfold iRng3
  rw [Res.P_bind]
  refine h.mono ?_
  rintro vs S1 ⟨i, j, rfl, h1, h2, h3, h4, h5⟩
  show (if decide ((-1 : Int) = -1) && decide (-RB ≤ i) && decide (i < RB) && decide (-RB ≤ j) && decide (j < RB) then Res.ok (uFix (rngC i (-1) (i - j).toNat)) S1 else .bad).P Q
  rw [if_pos (by simp only [Bool.and_eq_true, decide_eq_true_eq]; with_unfolding_all exact ⟨⟨⟨⟨trivial, h1⟩, h2⟩, h3⟩, h4⟩)]
  with_unfolding_all exact h5
theorem rngL_len (lo : Int) (n : Nat) : (rngL lo n).length = n := by simp [rngL]
theorem rngL_get {lo : Int} {n i : Nat} {v : AV} (h : (rngL lo n)[i]? = some v) : i < n ∧ v = .int (lo + i) := by
  by_cases hi : i < n
  · simp [rngL, hi] at h
    with_unfolding_all exact ⟨hi, h.symm⟩
  · rw [List.getElem?_eq_none (by rw [rngL_len]; omega)] at h
    cases h
theorem rngC_len (lo c : Int) (n : Nat) : (rngC lo c n).length = n := by simp [rngC]
theorem rngC_get {lo c : Int} {n i : Nat} {v : AV} (h : (rngC lo c n)[i]? = some v) : i < n ∧ v = .int (lo + i * c) := by
  by_cases hi : i < n
  · simp [rngC, hi] at h
    with_unfolding_all exact ⟨hi, h.symm⟩
  · rw [List.getElem?_eq_none (by rw [rngC_len]; omega)] at h
    cases h
theorem P_seqT (a : DE) (r : Env) (S : Sto) (Q : Src → Sto → Prop) (h : (a r S).P fun v S1 => ∃ xs, v = .tup xs ∧ Q (uFix xs) S1) : (iSeq a r S).P Q := by
  unfold iSeq
  rw [Res.P_bind]
  refine h.mono ?_
  rintro v S1 ⟨xs, rfl, h⟩
  with_unfolding_all exact h
theorem P_seqL (a : DE) (r : Env) (S : Sto) (Q : Src → Sto → Prop) (h : (a r S).P fun v S1 => ∃ p lk xs, v = .ref p ∧ S1[p]? = some (.lst lk xs) ∧ Q (uLive p) S1) : (iSeq a r S).P Q := by
  unfold iSeq
  rw [Res.P_bind]
  refine h.mono ?_
  rintro v S1 ⟨p, lk, xs, rfl, hS, h⟩
  show (match S1[p]? with
    | some (.lst _ _) => Res.ok (uLive p) S1
    | _ => .bad).P Q
  rw [hS]
  with_unfolding_all exact h
theorem P_dct (any : Bool) (f : Nat → Src) (o : DE) (r : Env) (S : Sto) (Q : Src → Sto → Prop) (h : (o r S).P fun v S1 => ∃ p kvs, v = .ref p ∧ S1[p]? = some (.dct true kvs) ∧ (any = true ∨ ∀ q ∈ kvs, isTK q.1 = false) ∧ Q (f p) S1) : (iDct any f o r S).P Q := by
  unfold iDct
  rw [Res.P_bind]
  refine h.mono ?_
  rintro v S1 ⟨p, kvs, rfl, hS, ha, h⟩
  show (match S1[p]? with
    | some (.dct true kvs) => if (any || kvs.all fun p => !isTK p.1) = true then Res.ok (f p) S1 else .bad
    | _ => .bad).P Q
  rw [hS]
  have : (any || kvs.all fun p => !isTK p.1) = true := by
    rcases ha with ha | ha
    · simp [ha]
    · have : (kvs.all fun p => !isTK p.1) = true := List.all_eq_true.2 fun q hq => by simp [ha q hq]
      simp [this]
  show (if (any || kvs.all fun p => !isTK p.1) = true then Res.ok (f p) S1 else .bad).P Q
  rw [if_pos this]
  with_unfolding_all exact h
theorem uDct_get {f : AV × AV → AV} {a : Nat} {S : Sto} {kvs : List (AV × AV)} (h : S[a]? = some (.dct true kvs)) (i : Nat) : uDct f a S i = some (kvs.map f)[i]? := by
  unfold uDct
  rw [h]
  simp
theorem uLive_get {a : Nat} {S : Sto} {lk : Bool} {xs : List AV} (h : S[a]? = some (.lst lk xs)) (i : Nat) : uLive a S i = some xs[i]? := by
  unfold uLive
  rw [h]
end Mc
end
section
set_option Elab.async false
set_option linter.all false
set_option maxRecDepth 100000
/-! N1: products of 1 - x^n, cut at a degree: plain Lean, no program -/
namespace Mc.Py
abbrev Sr := Nat → Int
def sh (g : Sr) : Sr
  | 0 => 0
  | j + 1 => g j
theorem sh_z (g : Sr) : sh g 0 = 0 := rfl
theorem sh_s (g : Sr) (j : Nat) : sh g (j + 1) = g j := rfl
def act : List Int → Sr → Sr
  | [], _ => fun _ => 0
  | c :: p, f => fun i => c * f i + sh (act p f) i
def one : Sr := fun i => if i = 0 then 1 else 0
theorem act_lin (p : List Int) (c : Int) (f g : Sr) : act p (fun i => c * f i + sh g i) = fun i => c * act p f i + sh (act p g) i := by
  induction p with
  | nil => funext i; cases i <;> simp [act, sh]
  | cons a p ih =>
    funext i
    cases i with
    | zero => simp only [act, sh_z]; grind
    | succ j => simp only [act, sh_s, ih]; grind
theorem act_zero (p : List Int) : act p (fun _ => 0) = fun _ => 0 := by
  induction p with
  | nil => rfl
  | cons a p ih => funext i; cases i <;> simp [act, ih, sh]
theorem act_comm (p q : List Int) (f : Sr) : act p (act q f) = act q (act p f) := by
  induction p with
  | nil => simp [act, act_zero]
  | cons a p ih =>
    show (fun i => a * act q f i + sh (act p (act q f)) i) = act q (fun i => a * f i + sh (act p f) i)
    rw [act_lin, ih]
def padd : List Int → List Int → List Int
  | [], q => q
  | a :: p, [] => a :: p
  | a :: p, b :: q => (a + b) :: padd p q
def pmul : List Int → List Int → List Int
  | [], _ => []
  | c :: p, q => padd (q.map (c * ·)) (0 :: pmul p q)
theorem act_padd (p q : List Int) (f : Sr) : act (padd p q) f = fun i => act p f i + act q f i := by
  induction p generalizing q with
  | nil => funext i; simp [padd, act]
  | cons a p ih =>
    cases q with
    | nil => funext i; simp [padd, act]
    | cons b q =>
      funext i
      cases i with
      | zero => simp only [padd, act, sh_z]; grind
      | succ j => simp only [padd, act, sh_s, ih]; grind
theorem act_smul (c : Int) (q : List Int) (f : Sr) : act (q.map (c * ·)) f = fun i => c * act q f i := by
  induction q with
  | nil => funext i; simp [act]
  | cons a q ih =>
    funext i
    cases i with
    | zero => simp only [List.map, act, sh_z]; grind
    | succ j => simp only [List.map, act, sh_s, ih]; grind
theorem act_pmul (p q : List Int) (f : Sr) : act (pmul p q) f = act p (act q f) := by
  induction p with
  | nil => rfl
  | cons a p ih =>
    funext i
    simp only [pmul, act_padd, act_smul, act, ih]
    cases i <;> simp [sh]
def EqT (m : Nat) (f g : Sr) : Prop := ∀ i, i < m → f i = g i
theorem EqT.refl (m : Nat) (f : Sr) : EqT m f f := fun _ _ => rfl
theorem EqT.symm {m : Nat} {f g : Sr} (h : EqT m f g) : EqT m g f := fun i hi => (h i hi).symm
theorem EqT.trans {m : Nat} {f g k : Sr} (h : EqT m f g) (h' : EqT m g k) : EqT m f k := fun i hi => (h i hi).trans (h' i hi)
theorem sh_cong {m : Nat} {f g : Sr} (h : EqT m f g) : EqT (m + 1) (sh f) (sh g) := fun i hi => by
  cases i with
  | zero => rfl
  | succ j => exact h j (by omega)
theorem act_cong {m : Nat} {f g : Sr} (p : List Int) (h : EqT m f g) : EqT m (act p f) (act p g) := by
  induction p with
  | nil => exact EqT.refl _ _
  | cons a p ih =>
    intro i hi
    show a * f i + sh (act p f) i = a * g i + sh (act p g) i
    rw [h i hi, sh_cong ih i (by omega)]
theorem act_inj {m : Nat} {f g : Sr} (p : List Int) (h : EqT m (act (1 :: p) f) (act (1 :: p) g)) : EqT m f g := by
  intro i
  induction i using Nat.strongRecOn with
  | ind i ih =>
    intro hi
    have e := h i hi
    simp only [act] at e
    have c : EqT i (act p f) (act p g) := act_cong p fun j hj => ih j hj (by omega)
    have := sh_cong c i (by omega)
    omega

/-! ### the factors -/
def M (n : Nat) (f : Sr) : Sr := fun i => f i - if n ≤ i then f (i - n) else 0
def xn (n : Nat) : List Int := 1 :: (List.replicate (n - 1) 0 ++ [-1])
theorem act_tail (k : Nat) (f : Sr) (i : Nat) : act (List.replicate k 0 ++ [-1]) f i = if k ≤ i then - f (i - k) else 0 := by
  induction k generalizing i with
  | zero => cases i <;> simp [act, sh]
  | succ k ih =>
    cases i with
    | zero => simp [List.replicate_succ, act, sh]
    | succ j => simp [List.replicate_succ, act, sh, ih]
theorem act_xn (n : Nat) (hn : 1 ≤ n) (f : Sr) : act (xn n) f = M n f := by
  funext i
  obtain ⟨k, rfl⟩ : ∃ k, n = k + 1 := ⟨n - 1, by omega⟩
  cases i with
  | zero => simp [xn, act, sh, M]
  | succ j =>
    simp only [xn, act, sh, M, Nat.add_sub_cancel, act_tail]
    have : k + 1 ≤ j + 1 ↔ k ≤ j := by omega
    have e : j + 1 - (k + 1) = j - k := by omega
    rw [e]
    by_cases h : k ≤ j
    · simp [h, this]; omega
    · simp [h, this]
theorem M_comm (n k : Nat) (f : Sr) (hn : 1 ≤ n) (hk : 1 ≤ k) : M n (M k f) = M k (M n f) := by
  rw [← act_xn n hn, ← act_xn k hk, ← act_xn k hk, ← act_xn n hn, act_comm]
theorem M_cong {m : Nat} {f g : Sr} (n : Nat) (h : EqT m f g) : EqT m (M n f) (M n g) := by
  intro i hi
  simp only [M]
  rw [h i hi]
  by_cases c : n ≤ i
  · simp [c, h (i - n) (by omega)]
  · simp [c]
theorem M_skip {m n : Nat} (f : Sr) (h : m ≤ n) : EqT m (M n f) f := by
  intro i hi
  have : ¬ n ≤ i := by omega
  simp [M, this]
def Mu (l : List Nat) (f : Sr) : Sr := l.foldr M f
theorem Mu_cong {m : Nat} {f g : Sr} (l : List Nat) (h : EqT m f g) : EqT m (Mu l f) (Mu l g) := by
  induction l with
  | nil => exact h
  | cons n l ih => exact M_cong n ih
theorem Mu_comm (l : List Nat) (n : Nat) (f : Sr) (hl : ∀ k ∈ l, 1 ≤ k) (hn : 1 ≤ n) : Mu l (M n f) = M n (Mu l f) := by
  induction l with
  | nil => rfl
  | cons k l ih =>
    show M k (Mu l (M n f)) = M n (M k (Mu l f))
    rw [ih fun j hj => hl j (List.mem_cons_of_mem _ hj), M_comm _ _ _ (hl k (List.mem_cons_self ..)) hn]

/-! ### 1 - x^n in parts -/
def Ps : Nat → List Int
  | 1 => [1, -1]
  | 2 => [1, 1]
  | 3 => [1, 1, 1]
  | 4 => [1, 0, 1]
  | 5 => [1, 1, 1, 1, 1]
  | 6 => [1, -1, 1]
  | 7 => [1, 1, 1, 1, 1, 1, 1]
  | 8 => [1, 0, 0, 0, 1]
  | 9 => [1, 0, 0, 1, 0, 0, 1]
  | 10 => [1, -1, 1, -1, 1]
  | 11 => [1, 1, 1, 1, 1, 1, 1, 1, 1, 1, 1]
  | 12 => [1, 0, -1, 0, 1]
  | 13 => [1, 1, 1, 1, 1, 1, 1, 1, 1, 1, 1, 1, 1]
  | 14 => [1, -1, 1, -1, 1, -1, 1]
  | _ => [1]
theorem Ps_one (d : Nat) : ∃ p, Ps d = 1 :: p := by
  unfold Ps
  split <;> exact ⟨_, rfl⟩
def dvs (n : Nat) : List Nat := (List.range (n + 1)).filter fun d => decide (0 < d) && decide (n % d = 0)
def LL (l : List Nat) : List Int := l.foldr (fun d p => pmul (Ps d) p) [1]
def actL (l : List Nat) (f : Sr) : Sr := l.foldr (fun d g => act (Ps d) g) f
theorem xn_LL : ∀ n, n < 15 → 1 ≤ n → LL (dvs n) = xn n := by decide +kernel
theorem actL_LL (l : List Nat) (f : Sr) : act (LL l) f = actL l f := by
  induction l with
  | nil => funext i; cases i <;> simp [LL, actL, act, sh]
  | cons d l ih =>
    show act (pmul (Ps d) (LL l)) f = act (Ps d) (actL l f)
    rw [act_pmul, ih]
theorem M_actL (n : Nat) (h : n < 15) (h1 : 1 ≤ n) (f : Sr) : M n f = actL (dvs n) f := by
  rw [← actL_LL, xn_LL n h h1, act_xn n h1]
theorem actL_append (a b : List Nat) (f : Sr) : actL (a ++ b) f = actL a (actL b f) := by
  simp [actL, List.foldr_append]
theorem Mu_actL (l : List Nat) (h : ∀ n ∈ l, 1 ≤ n ∧ n < 15) (f : Sr) : Mu l f = actL (l.flatMap dvs) f := by
  induction l with
  | nil => rfl
  | cons n l ih =>
    show M n (Mu l f) = _
    rw [ih fun k hk => h k (List.mem_cons_of_mem _ hk), M_actL n (h n (List.mem_cons_self ..)).2 (h n (List.mem_cons_self ..)).1, List.flatMap_cons, actL_append]
theorem actL_perm {a b : List Nat} (h : a.Perm b) (f : Sr) : actL a f = actL b f := by
  induction h with
  | nil => rfl
  | cons d _ ih => show act _ (actL _ f) = act _ (actL _ f); rw [ih]
  | swap d e l => show act _ (act _ _) = act _ (act _ _); rw [act_comm]
  | trans _ _ i j => rw [i, j]
theorem cancel {m : Nat} (a : List Nat) : ∀ (b : List Nat) (f g : Sr), (∀ d, a.count d ≤ b.count d) → EqT m (actL a f) (actL b g) → ∃ c : List Nat, (∀ d, c.count d + a.count d = b.count d) ∧ EqT m f (actL c g) := by
  induction a with
  | nil => intro b f g _ h; exact ⟨b, by simp, h⟩
  | cons d a ih =>
    intro b f g hc h
    have hd : d ∈ b := by
      have := hc d
      rw [List.count_cons_self] at this
      exact List.count_pos_iff.1 (by omega)
    have hp := List.perm_cons_erase hd
    rw [actL_perm hp] at h
    obtain ⟨p, hp1⟩ := Ps_one d
    have h' : EqT m (act (1 :: p) (actL a f)) (act (1 :: p) (actL (b.erase d) g)) := by rw [← hp1]; exact h
    have hcnt : ∀ e, b.count e = (b.erase d).count e + if d = e then 1 else 0 := by
      intro e
      have := hp.count_eq e
      rw [this, List.count_cons]
      simp
    obtain ⟨c, h1, h2⟩ := ih (b.erase d) f g (fun e => by
      have := hc e
      rw [List.count_cons, hcnt e] at this
      simp at this
      omega) (act_inj p h')
    refine ⟨c, fun e => ?_, h2⟩
    rw [hcnt e, List.count_cons, ← h1 e]
    simp
    omega

/-! ### the product as a list -/
theorem act_oneS (p : List Int) (i : Nat) : act p one i = p.getD i 0 := by
  induction p generalizing i with
  | nil => simp [act]
  | cons a p ih =>
    cases i with
    | zero => simp [act, one, sh]
    | succ j => simp [act, one, sh, ih]
theorem padd_len (p q : List Int) : (padd p q).length = max p.length q.length := by
  induction p generalizing q with
  | nil => simp [padd]
  | cons a p ih => cases q <;> simp [padd, ih] <;> omega
theorem pmul_len (p q : List Int) (hp : p ≠ []) (hq : q ≠ []) : (pmul p q).length + 1 = p.length + q.length := by
  have hq' : 0 < q.length := List.length_pos_iff.2 hq
  induction p with
  | nil => exact absurd rfl hp
  | cons a p ih =>
    simp only [pmul, padd_len, List.length_map, List.length_cons]
    by_cases h : p = []
    · subst h
      simp [pmul]
      omega
    · have := ih h
      have hp' : 0 < p.length := List.length_pos_iff.2 h
      omega
theorem pmul_ne (p q : List Int) (hp : p ≠ []) : pmul p q ≠ [] := by
  cases p with
  | nil => exact absurd rfl hp
  | cons a p => simp only [pmul]; cases q <;> simp [padd]
theorem Ps_ne (d : Nat) : Ps d ≠ [] := by obtain ⟨p, h⟩ := Ps_one d; rw [h]; simp
theorem LL_ne (l : List Nat) : LL l ≠ [] := by
  cases l with
  | nil => simp [LL]
  | cons d l => exact pmul_ne _ _ (Ps_ne d)
theorem sum_padd (p q : List Int) : (padd p q).sum = p.sum + q.sum := by
  induction p generalizing q with
  | nil => simp [padd]
  | cons a p ih => cases q <;> simp [padd, ih]; omega
theorem sum_smul (c : Int) (q : List Int) : (q.map (c * ·)).sum = c * q.sum := by
  induction q with
  | nil => simp
  | cons a q ih => simp only [List.map, List.sum_cons, ih]; grind
theorem sum_pmul (p q : List Int) : (pmul p q).sum = p.sum * q.sum := by
  induction p with
  | nil => simp [pmul]
  | cons a p ih => simp only [pmul, sum_padd, sum_smul, List.sum_cons, ih]; grind
/-- the last entry -/
def la (p : List Int) : Int := p.getLast?.getD 0
theorem la_cons (a : Int) (p : List Int) (h : p ≠ []) : la (a :: p) = la p := by
  cases p with
  | nil => exact absurd rfl h
  | cons b p => simp [la]
theorem la_padd (p q : List Int) (h : p.length < q.length) : la (padd p q) = la q := by
  induction p generalizing q with
  | nil => simp [padd]
  | cons a p ih =>
    cases q with
    | nil => simp at h
    | cons b q =>
      simp only [List.length_cons] at h
      have hq : q ≠ [] := by intro e; rw [e] at h; simp at h
      have : padd p q ≠ [] := by
        intro e
        have := congrArg List.length e
        rw [padd_len] at this
        have h0 : 0 < q.length := List.length_pos_iff.2 hq
        simp at this
        exact hq this.2
      simp only [padd]
      rw [la_cons _ _ this, la_cons _ _ hq, ih q (by omega)]
theorem la_smul (c : Int) (q : List Int) : la (q.map (c * ·)) = c * la q := by
  cases h : q.getLast? <;> simp [la, List.getLast?_map, h]
theorem la_pmul (p q : List Int) (hp : p ≠ []) (hq : q ≠ []) : la (pmul p q) = la p * la q := by
  have hq' : 0 < q.length := List.length_pos_iff.2 hq
  induction p with
  | nil => exact absurd rfl hp
  | cons a p ih =>
    by_cases h : p = []
    · subst h
      cases q with
      | nil => exact absurd rfl hq
      | cons b q =>
        have : pmul [a] (b :: q) = (b :: q).map (a * ·) := by
          cases q <;> simp [pmul, padd]
        rw [this, la_smul]
        simp [la]
    · have hl := pmul_len p q h hq
      have hp' : 0 < p.length := List.length_pos_iff.2 h
      simp only [pmul]
      rw [la_padd _ _ (by simp; omega), la_cons _ _ (pmul_ne _ _ h), ih h, la_cons _ _ h]
def nm (p : List Int) : Nat := (p.map Int.natAbs).sum
theorem nm_padd (p q : List Int) : nm (padd p q) ≤ nm p + nm q := by
  induction p generalizing q with
  | nil => simp [padd, nm]
  | cons a p ih =>
    cases q with
    | nil => simp [padd, nm]
    | cons b q =>
      have := ih q
      simp only [padd, nm, List.map, List.sum_cons] at *
      have := Int.natAbs_add_le a b
      omega
theorem nm_smul (c : Int) (q : List Int) : nm (q.map (c * ·)) = c.natAbs * nm q := by
  induction q with
  | nil => simp [nm]
  | cons a q ih =>
    simp only [nm, List.map, List.sum_cons, Int.natAbs_mul] at *
    rw [ih, Nat.mul_add]
theorem nm_pmul (p q : List Int) : nm (pmul p q) ≤ nm p * nm q := by
  induction p with
  | nil => simp [pmul, nm]
  | cons a p ih =>
    have h := nm_padd (q.map (a * ·)) (0 :: pmul p q)
    rw [nm_smul] at h
    have e : nm (0 :: pmul p q) = nm (pmul p q) := by simp [nm]
    have e2 : nm (a :: p) = a.natAbs + nm p := by simp [nm]
    simp only [pmul]
    rw [e2, Nat.add_mul]
    omega
theorem nm_mem (p : List Int) (x : Int) (h : x ∈ p) : x.natAbs ≤ nm p := by
  induction p with
  | nil => cases h
  | cons a p ih =>
    simp only [nm, List.map, List.sum_cons] at *
    rcases List.mem_cons.1 h with rfl | h
    · omega
    · have := ih h
      omega
def phi (d : Nat) : Nat := (Ps d).length - 1
theorem Ps_facts : ∀ d, d < 15 → 1 ≤ d → nm (Ps d) ≤ 2 ^ phi d ∧ (d = 1 ∨ ((Ps d).sum ≠ 0 ∧ la (Ps d) = 1)) := by decide +kernel
theorem LL_len (l : List Nat) : (LL l).length = 1 + (l.map phi).sum := by
  induction l with
  | nil => rfl
  | cons d l ih =>
    have := pmul_len (Ps d) (LL l) (Ps_ne d) (LL_ne l)
    show (pmul (Ps d) (LL l)).length = _
    simp only [List.map, List.sum_cons]
    have : 0 < (Ps d).length := List.length_pos_iff.2 (Ps_ne d)
    have : phi d = (Ps d).length - 1 := rfl
    omega
theorem LL_nm (l : List Nat) (h : ∀ d ∈ l, 1 ≤ d ∧ d < 15) : nm (LL l) ≤ 2 ^ (l.map phi).sum := by
  induction l with
  | nil => decide
  | cons d l ih =>
    have := nm_pmul (Ps d) (LL l)
    have h1 := (Ps_facts d (h d (List.mem_cons_self ..)).2 (h d (List.mem_cons_self ..)).1).1
    have h2 := ih fun k hk => h k (List.mem_cons_of_mem _ hk)
    show nm (pmul (Ps d) (LL l)) ≤ _
    simp only [List.map, List.sum_cons, Nat.pow_add]
    exact Nat.le_trans this (Nat.mul_le_mul h1 h2)
theorem LL_good (l : List Nat) (h : ∀ d ∈ l, 2 ≤ d ∧ d < 15) : (LL l).sum ≠ 0 ∧ la (LL l) = 1 := by
  induction l with
  | nil => decide
  | cons d l ih =>
    have h2 := ih fun k hk => h k (List.mem_cons_of_mem _ hk)
    have hd := h d (List.mem_cons_self ..)
    rcases (Ps_facts d hd.2 (by omega)).2 with h1 | h1
    · omega
    · show (pmul (Ps d) (LL l)).sum ≠ 0 ∧ la (pmul (Ps d) (LL l)) = 1
      rw [sum_pmul, la_pmul _ _ (Ps_ne d) (LL_ne l), h1.2, h2.2]
      exact ⟨Int.mul_ne_zero h1.1 h2.1, by decide⟩
end Mc.Py
namespace Mc.Py
/-! ### factor tables -/
abbrev KV := List (Nat × Int)
def posK (k : KV) : List Nat := k.flatMap fun p => List.replicate p.2.toNat p.1
def negK (k : KV) : List Nat := k.flatMap fun p => List.replicate (-p.2).toNat p.1
def E (d : Nat) (k : KV) : Int := ((k.filter fun p => decide (p.1 % d = 0)).map (·.2)).sum
def degK (k : KV) : Int := (k.map fun p => (p.1 : Int) * p.2).sum
def totK (k : KV) : Int := (k.map (·.2)).sum
def sgK (k : KV) : Int := if totK k % 2 = 1 then -1 else 1
theorem E_nil (d : Nat) : E d [] = 0 := rfl
theorem E_cons (d : Nat) (p : Nat × Int) (k : KV) : E d (p :: k) = (if p.1 % d = 0 then p.2 else 0) + E d k := by
  by_cases h : p.1 % d = 0 <;> simp [E, h]
theorem E_one (k : KV) : E 1 k = totK k := by
  have : (k.filter fun p => decide (p.1 % 1 = 0)) = k := List.filter_eq_self.2 fun p _ => by simp [Nat.mod_one]
  simp only [E, this, totK]
theorem dvs_mem (n d : Nat) (h : d ∈ dvs n) : 1 ≤ d ∧ d ≤ n := by
  simp [dvs] at h
  omega
theorem dvs_count0 : ∀ n, n < 15 → ∀ d, d < 15 → 1 ≤ n → (dvs n).count d = if 0 < d ∧ n % d = 0 then 1 else 0 := by decide +kernel
theorem dvs_count (n d : Nat) (hn : 1 ≤ n) (hn' : n < 15) : (dvs n).count d = if 0 < d ∧ n % d = 0 then 1 else 0 := by
  by_cases h : d < 15
  · exact dvs_count0 n hn' d h hn
  · rw [List.count_eq_zero.2 (fun hm => by have := dvs_mem n d hm; omega), if_neg]
    rw [Nat.mod_eq_of_lt (by omega)]
    omega
theorem rep_count (n d k : Nat) (hn : 1 ≤ n) (hn' : n < 15) : ((List.replicate k n).flatMap dvs).count d = if 0 < d ∧ n % d = 0 then k else 0 := by
  induction k with
  | zero => simp
  | succ k ih =>
    rw [List.replicate_succ, List.flatMap_cons, List.count_append, ih, dvs_count n d hn hn']
    split <;> omega
theorem E_count (k : KV) (hk : ∀ p ∈ k, 1 ≤ p.1 ∧ p.1 < 15) (d : Nat) (hd : 1 ≤ d) : (((posK k).flatMap dvs).count d : Int) = ((negK k).flatMap dvs).count d + E d k := by
  induction k with
  | nil => simp [posK, negK, E]
  | cons p k ih =>
    have h1 := ih fun q hq => hk q (List.mem_cons_of_mem _ hq)
    have hp := hk p (List.mem_cons_self ..)
    have e1 : posK (p :: k) = List.replicate p.2.toNat p.1 ++ posK k := rfl
    have e2 : negK (p :: k) = List.replicate (-p.2).toNat p.1 ++ negK k := rfl
    rw [e1, e2, List.flatMap_append, List.flatMap_append, List.count_append, List.count_append, rep_count _ _ _ hp.1 hp.2, rep_count _ _ _ hp.1 hp.2, E_cons]
    by_cases c : p.1 % d = 0
    · simp only [c, and_true, show 0 < d from hd, if_true]
      omega
    · simp only [c, and_false, if_false]
      omega
theorem sum_add {α : Type} (l : List α) (f g : α → Int) : (l.map fun x => f x + g x).sum = (l.map f).sum + (l.map g).sum := by
  induction l with
  | nil => rfl
  | cons a l ih => simp only [List.map, List.sum_cons, ih]; omega
theorem sum_mulr {α : Type} (l : List α) (f : α → Int) (c : Int) : (l.map fun x => f x * c).sum = (l.map f).sum * c := by
  induction l with
  | nil => simp
  | cons a l ih => simp only [List.map, List.sum_cons, ih]; grind
theorem phi_sum : ∀ n : Nat, n < 15 → 1 ≤ n → ((List.range 15).map fun d => if n % d = 0 then (phi d : Int) else 0).sum = (n : Int) := by decide +kernel
theorem phi_one : ∀ x : Nat, x < 15 → ((List.range 15).map fun d => if x = d then (phi d : Int) else 0).sum = phi x := by decide +kernel
theorem deg_E (k : KV) (hk : ∀ p ∈ k, 1 ≤ p.1 ∧ p.1 < 15) : degK k = ((List.range 15).map fun d => (phi d : Int) * E d k).sum := by
  induction k with
  | nil => simp [degK, E]; decide +kernel
  | cons p k ih =>
    have h1 := ih fun q hq => hk q (List.mem_cons_of_mem _ hq)
    have hp := hk p (List.mem_cons_self ..)
    have e : (fun d => (phi d : Int) * E d (p :: k)) = fun d => (if p.1 % d = 0 then (phi d : Int) else 0) * p.2 + (phi d : Int) * E d k := by
      funext d
      rw [E_cons]
      split <;> grind
    rw [e, sum_add, sum_mulr, phi_sum _ hp.2 hp.1, ← h1]
    simp [degK]
theorem sum_count (c : List Nat) (hc : ∀ d ∈ c, d < 15) : ((c.map phi).sum : Int) = ((List.range 15).map fun d => (phi d : Int) * (c.count d : Int)).sum := by
  induction c with
  | nil => simp; decide +kernel
  | cons x c ih =>
    have h1 := ih fun q hq => hc q (List.mem_cons_of_mem _ hq)
    have e : (fun d => (phi d : Int) * ((x :: c).count d : Int)) = fun d => (if x = d then (phi d : Int) else 0) + (phi d : Int) * (c.count d : Int) := by
      funext d
      rw [List.count_cons]
      by_cases hx : x = d <;> simp [hx] <;> grind
    rw [e, sum_add, phi_one x (hc x (List.mem_cons_self ..)), ← h1]
    simp
theorem sum_nn {α : Type} (l : List α) (f : α → Int) (h : ∀ x ∈ l, 0 ≤ f x) : 0 ≤ (l.map f).sum := by
  induction l with
  | nil => simp
  | cons a l ih =>
    have := h a (List.mem_cons_self ..)
    have := ih fun x hx => h x (List.mem_cons_of_mem _ hx)
    simp only [List.map, List.sum_cons]
    omega
theorem deg_nn (k : KV) (hk : ∀ p ∈ k, 1 ≤ p.1 ∧ p.1 < 15) (hW : ∀ d, 1 ≤ d → d < 15 → 0 ≤ E d k) : 0 ≤ degK k := by
  rw [deg_E k hk]
  refine sum_nn _ _ fun d hd => ?_
  by_cases h : d = 0
  · subst h; simp [phi, Ps]
  · exact Int.mul_nonneg (by omega) (hW d (by omega) (by simpa using hd))

/-! ### the root one -/
def mx (q : List Int) : List Int := pmul [-1, 1] q
def mxN : Nat → List Int → List Int
  | 0, q => q
  | e + 1, q => mx (mxN e q)
/-- the sums of the tails -/
def sfx : List Int → List Int
  | [] => []
  | a :: l => (a + l.sum) :: sfx l
def wr (l : List Int) : List Int := sfx l.tail
inductive Ends : List Int → Nat → Int → Prop
  | z {l : List Int} : l.sum ≠ 0 → Ends l 0 l.sum
  | s {l : List Int} {e : Nat} {v : Int} : l.sum = 0 → Ends (wr l) e v → Ends l (e + 1) v
theorem map_padd (c : Int) (p q : List Int) : (padd p q).map (c * ·) = padd (p.map (c * ·)) (q.map (c * ·)) := by
  induction p generalizing q with
  | nil => simp [padd]
  | cons a p ih => cases q <;> simp [padd, ih]; grind
theorem map_map_mul (c d : Int) (p : List Int) : (p.map (d * ·)).map (c * ·) = (p.map (c * ·)).map (d * ·) := by
  simp only [List.map_map]
  congr 1
  funext x
  show c * (d * x) = d * (c * x)
  grind
theorem map_pmul_r (c : Int) (p q : List Int) : (pmul p q).map (c * ·) = pmul p (q.map (c * ·)) := by
  induction p with
  | nil => rfl
  | cons a p ih =>
    simp only [pmul, map_padd, List.map, ih]
    rw [map_map_mul]
    simp
theorem map_pmul_l (c : Int) (p q : List Int) : (pmul p q).map (c * ·) = pmul (p.map (c * ·)) q := by
  induction p with
  | nil => rfl
  | cons a p ih =>
    simp only [pmul, map_padd, List.map, ih, List.map_map]
    congr 1
    · congr 1
      funext x
      show c * (a * x) = c * a * x
      grind
    · simp
theorem map_one (p : List Int) : p.map ((1 : Int) * ·) = p := by
  induction p with
  | nil => rfl
  | cons a p ih => simp only [List.map, ih]; simp
def pw (e : Nat) : Int := if e % 2 = 1 then -1 else 1
theorem pw_succ (e : Nat) : pw (e + 1) = -1 * pw e := by
  unfold pw
  rcases Nat.mod_two_eq_zero_or_one e with h | h
  · rw [if_pos (by omega), if_neg (by omega)]; rfl
  · rw [if_neg (by omega), if_pos (by omega)]; rfl
theorem LL_mx (e : Nat) (c : List Nat) : (LL (List.replicate e 1 ++ c)).map (pw e * ·) = mxN e (LL c) := by
  induction e with
  | zero => simp only [List.replicate_zero, List.nil_append, mxN]; exact map_one _
  | succ e ih =>
    show (pmul [1, -1] (LL (List.replicate e 1 ++ c))).map (pw (e + 1) * ·) = pmul [-1, 1] (mxN e (LL c))
    rw [← ih, ← map_pmul_r, pw_succ]
    have : pmul [-1, 1] (LL (List.replicate e 1 ++ c)) = (pmul [1, -1] (LL (List.replicate e 1 ++ c))).map (-1 * ·) := by
      rw [map_pmul_l]; rfl
    rw [this, List.map_map]
    congr 1
    funext x
    show -1 * pw e * x = pw e * (-1 * x)
    grind
theorem mx_eq (a : Int) (q : List Int) : mx (a :: q) = (-1 * a) :: padd (q.map (-1 * ·)) (a :: q) := by
  have h1 : pmul [1] (a :: q) = a :: q := by
    show padd ((a :: q).map ((1 : Int) * ·)) [0] = a :: q
    rw [map_one]
    cases q <;> simp [padd]
  show padd ((a :: q).map (-1 * ·)) (0 :: pmul [1] (a :: q)) = _
  rw [h1]
  simp [padd]
theorem padd_sum (a : Int) (q : List Int) : (padd (q.map (-1 * ·)) (a :: q)).sum = a := by
  rw [sum_padd, sum_smul]
  simp only [List.sum_cons]
  omega
theorem sfx_padd (a : Int) (q : List Int) : sfx (padd (q.map (-1 * ·)) (a :: q)) = a :: q := by
  induction q generalizing a with
  | nil => simp [padd, sfx]
  | cons b q ih =>
    show sfx ((-1 * b + a) :: padd (q.map (-1 * ·)) (b :: q)) = _
    simp only [sfx, ih, padd_sum]
    congr 1
    omega
theorem wr_mx (q : List Int) (h : q ≠ []) : wr (mx q) = q := by
  cases q with
  | nil => exact absurd rfl h
  | cons a q => rw [mx_eq]; exact sfx_padd a q
theorem sum_mx (q : List Int) : (mx q).sum = 0 := by
  show (pmul [-1, 1] q).sum = 0
  rw [sum_pmul]
  simp
theorem mx_ne (q : List Int) : mx q ≠ [] := pmul_ne _ _ (by simp)
theorem mxN_ne (e : Nat) (q : List Int) (h : q ≠ []) : mxN e q ≠ [] := by
  cases e with
  | zero => exact h
  | succ e => exact mx_ne _
theorem ends_mx (e : Nat) (R : List Int) (h : R ≠ []) (hs : R.sum ≠ 0) : Ends (mxN e R) e R.sum := by
  induction e with
  | zero => exact .z hs
  | succ e ih =>
    refine .s (sum_mx _) ?_
    show Ends (wr (mx (mxN e R))) e R.sum
    rw [wr_mx _ (mxN_ne e R h)]
    exact ih
theorem la_mxN (e : Nat) (R : List Int) (h : R ≠ []) : la (mxN e R) = la R := by
  induction e with
  | zero => rfl
  | succ e ih =>
    show la (pmul [-1, 1] (mxN e R)) = _
    rw [la_pmul _ _ (by simp) (mxN_ne e R h), ih]
    simp [la]
theorem sfx_len (l : List Int) : (sfx l).length = l.length := by
  induction l with
  | nil => rfl
  | cons a l ih => simp [sfx, ih]
theorem la_sfx (l : List Int) : la (sfx l) = la l := by
  induction l with
  | nil => rfl
  | cons a l ih =>
    cases l with
    | nil => simp [sfx, la]
    | cons b l => rw [la_cons _ _ (by simp), ← ih]; simp only [sfx]; rw [la_cons _ _ (by simp)]
theorem ends_ex (n : Nat) : ∀ l : List Int, l.length = n → la l ≠ 0 → ∃ e v, Ends l e v ∧ e ≤ n := by
  induction n with
  | zero =>
    intro l hl h
    rw [List.length_eq_zero_iff.1 hl] at h
    exact absurd rfl h
  | succ n ih =>
    intro l hl h
    by_cases hs : l.sum = 0
    · match l, hl, h, hs with
      | [a], _, h, hs => simp [la] at h; simp at hs; exact absurd hs h
      | a :: b :: r, hl, h, hs =>
        have h2 : la (wr (a :: b :: r)) ≠ 0 := by
          show la (sfx (b :: r)) ≠ 0
          rw [la_sfx, ← la_cons a _ (by simp)]
          exact h
        obtain ⟨e, v, h3, h4⟩ := ih (wr (a :: b :: r)) (by show (sfx (b :: r)).length = n; rw [sfx_len]; simpa using hl) h2
        exact ⟨e + 1, v, .s hs h3, by omega⟩
    · exact ⟨0, l.sum, .z hs, by omega⟩
theorem ends_len {l : List Int} {e : Nat} {v : Int} (h : Ends l e v) (hl : la l ≠ 0) : e ≤ l.length := by
  induction h with
  | z => omega
  | @s l e v hs h ih =>
    match l, hl, hs, h, ih with
    | [], hl, _, _, _ => exact absurd rfl hl
    | [a], hl, hs, _, _ => simp [la] at hl; simp at hs; exact absurd hs hl
    | a :: b :: r, hl, hs, h, ih =>
      have := ih (by show la (sfx (b :: r)) ≠ 0; rw [la_sfx, ← la_cons a _ (by simp)]; exact hl)
      have e : (wr (a :: b :: r)).length = r.length + 1 := by show (sfx (b :: r)).length = _; rw [sfx_len]; rfl
      simp only [List.length_cons]
      omega

/-! ### what the program's product is -/
theorem core (k : KV) (hk : ∀ p ∈ k, 1 ≤ p.1 ∧ p.1 < 15) (hW : ∀ d, 1 ≤ d → d < 15 → 0 ≤ E d k) (m : Nat) (hm : (m : Int) = 1 + degK k) (h : Sr) (hr : EqT m (Mu (negK k) h) (Mu (posK k) one)) :
    ∃ L : List Int, ∃ e : Nat, ∃ v : Int, (e : Int) = totK k ∧ Ends L e v ∧ la L = 1 ∧ L.length = m ∧ (∀ i, i < m → sgK k * h i = L.getD i 0) ∧ ∀ x ∈ L, x.natAbs ≤ 2 ^ (m - 1) := by
  have hp1 : ∀ n ∈ posK k, 1 ≤ n ∧ n < 15 := fun n hn => by
    obtain ⟨p, hp, hn⟩ := List.mem_flatMap.1 hn
    rw [(List.mem_replicate.1 hn).2]
    exact hk p hp
  have hn1 : ∀ n ∈ negK k, 1 ≤ n ∧ n < 15 := fun n hn => by
    obtain ⟨p, hp, hn⟩ := List.mem_flatMap.1 hn
    rw [(List.mem_replicate.1 hn).2]
    exact hk p hp
  rw [Mu_actL _ hn1, Mu_actL _ hp1] at hr
  have hmem : ∀ d ∈ (posK k).flatMap dvs, 1 ≤ d ∧ d < 15 := fun d hd => by
    obtain ⟨n, hn, hd⟩ := List.mem_flatMap.1 hd
    have := dvs_mem n d hd
    have := hp1 n hn
    omega
  have hmemn : ∀ d ∈ (negK k).flatMap dvs, 1 ≤ d ∧ d < 15 := fun d hd => by
    obtain ⟨n, hn, hd⟩ := List.mem_flatMap.1 hd
    have := dvs_mem n d hd
    have := hn1 n hn
    omega
  obtain ⟨c, hc, hq⟩ := cancel _ _ _ _ (fun d => by
    by_cases hd : 1 ≤ d ∧ d < 15
    · have h1 := E_count k hk d hd.1
      have h2 := hW d hd.1 hd.2
      omega
    · rw [List.count_eq_zero.2 fun hm => hd (hmemn d hm)]
      omega) hr
  have hcm : ∀ d ∈ c, 1 ≤ d ∧ d < 15 := fun d hd => by
    refine hmem d (List.count_pos_iff.1 ?_)
    have := hc d
    have := List.count_pos_iff.2 hd
    omega
  have hcE : ∀ d, 1 ≤ d → (c.count d : Int) = E d k := fun d hd => by
    have h1 := E_count k hk d hd
    have h2 := hc d
    omega
  have hp : c.Perm (List.replicate (c.count 1) 1 ++ c.filter fun d => !(d == 1)) := by
    have h1 := List.filter_append_perm (· == 1) c
    rw [List.filter_beq] at h1
    exact h1.symm
  have hlen : ((c.map phi).sum : Int) = degK k := by
    rw [sum_count c fun d hd => (hcm d hd).2, deg_E k hk]
    congr 1
    refine List.map_congr_left fun d hd => ?_
    by_cases h0 : d = 0
    · subst h0; simp [phi, Ps]
    · rw [hcE d (by omega)]
  have hlen2 : ((List.replicate (c.count 1) 1 ++ c.filter fun d => !(d == 1)).map phi).sum = (c.map phi).sum := ((hp.map phi).sum_nat).symm
  have hR := LL_good (c.filter fun d => !(d == 1)) fun d hd => by
    have h1 := List.mem_filter.1 hd
    have h2 := hcm d h1.1
    have h3 : d ≠ 1 := by simpa using h1.2
    omega
  rw [actL_perm hp, ← actL_LL] at hq
  refine ⟨mxN (c.count 1) (LL (c.filter fun d => !(d == 1))), c.count 1, _, ?_, ends_mx _ _ (LL_ne _) hR.1, ?_, ?_, fun i hi => ?_, fun x hx => ?_⟩
  · rw [hcE 1 (by omega)]
    exact E_one k
  · rw [la_mxN _ _ (LL_ne _)]; exact hR.2
  · rw [← LL_mx, List.length_map, LL_len, hlen2]
    omega
  · have h1 := hq i hi
    rw [act_oneS] at h1
    have hs : sgK k = pw (c.count 1) := by
      have h2 : (c.count 1 : Int) = totK k := by
        rw [hcE 1 (by omega)]
        exact E_one k
      unfold sgK pw
      rw [← h2]
      by_cases hh : c.count 1 % 2 = 1
      · rw [if_pos (by omega), if_pos hh]
      · rw [if_neg (by omega), if_neg hh]
    rw [h1, hs, ← LL_mx]
    simp only [List.getD_eq_getElem?_getD, List.getElem?_map]
    cases (LL (List.replicate (c.count 1) 1 ++ c.filter fun d => !(d == 1)))[i]? <;> simp
  · rw [← LL_mx] at hx
    obtain ⟨y, hy, rfl⟩ := List.mem_map.1 hx
    have h1 := nm_mem _ _ hy
    have h2 := LL_nm (List.replicate (c.count 1) 1 ++ c.filter fun d => !(d == 1)) fun d hd => hcm d (hp.mem_iff.2 hd)
    rw [hlen2] at h2
    have e : (c.map phi).sum = m - 1 := by omega
    rw [e] at h2
    have h3 : (pw (c.count 1) * y).natAbs = y.natAbs := by
      rw [Int.natAbs_mul]
      unfold pw
      split <;> simp
    omega
end Mc.Py
end
section
set_option Elab.async false
set_option linter.all false
set_option maxRecDepth 100000
/-! K83_p: what the functions of the law answer, by the machine -/
namespace Mc.Lk83
open PySem Mc.Py
def G : Int := 1000000000000000000000000000000000000000000000000000000000000
def isG : AV → Bool
  | .int i => decide (-G < i) && decide (i < G)
  | _ => false
def flat : AV → Bool
  | .non | .bl _ | .int _ | .str _ | .tup _ => true
  | _ => false
theorem x_whole (v : AV) (S : Sto) (hv : flat v = true) (Q : AV → Sto → Prop) (h : Q (.bl (match v with | .int _ => true | _ => false)) S) : (d_is_whole [v] S).P Q := by
  refine P_mkF [some v] rfl ?_
  simp only [P_seq, P_if, P_ret, P_expr, P_nil, P_asg, P_gNm, P_par, P_aug, P_gSub, P_gsNil, P_gsCons, P_loc, P_eK, P_e1, P_e2, P_eT, P_aNil, P_aCons, P_call, P_tup, P_lst, P_eIf, P_andB, P_orB, P_notB, P_ofO, P_tV, P_tB, P_tAnd, P_tOr, P_tNot, P_tYes, P_tC, P_ch, P_sl, P_oNo, P_oYes, P_mt, P_new, P_stp, Res.P_ok, SR.P_nx, SR.P_ret, P_if_res, P_bad, wip, List.set_cons_succ, List.set_cons_zero, List.getElem?_cons_succ, List.getElem?_cons_zero, List.getElem?_nil, List.length_cons, List.length_nil, P_addI, P_subI, P_augI, P_negI, P_lt, P_le, P_gt, P_ge, P_absI, P_intI, P_intB, cEq_ii, cNe_ii, cEq_bb, cEq_ss, cEq_ts, cEq_tn, cEq_tt, cNe_tt, P_sumT, P_lenT, P_listT, if_true, if_false, Bool.false_eq_true]
  cases v <;> first | (with_unfolding_all exact h) | cases hv
theorem x_integer (v : AV) (S : Sto) (hv : flat v = true) (Q : AV → Sto → Prop) (h : Q (.bl (isG v)) S) : (d_is_integer [v] S).P Q := by
  refine P_mkF [some v] rfl ?_
  simp only [P_seq, P_if, P_ret, P_expr, P_nil, P_asg, P_gNm, P_par, P_aug, P_gSub, P_gsNil, P_gsCons, P_loc, P_eK, P_e1, P_e2, P_eT, P_aNil, P_aCons, P_call, P_tup, P_lst, P_eIf, P_andB, P_orB, P_notB, P_ofO, P_tV, P_tB, P_tAnd, P_tOr, P_tNot, P_tYes, P_tC, P_ch, P_sl, P_oNo, P_oYes, P_mt, P_new, P_stp, Res.P_ok, SR.P_nx, SR.P_ret, P_if_res, P_bad, wip, List.set_cons_succ, List.set_cons_zero, List.getElem?_cons_succ, List.getElem?_cons_zero, List.getElem?_nil, List.length_cons, List.length_nil, P_addI, P_subI, P_augI, P_negI, P_lt, P_le, P_gt, P_ge, P_absI, P_intI, P_intB, cEq_ii, cNe_ii, cEq_bb, cEq_ss, cEq_ts, cEq_tn, cEq_tt, cNe_tt, P_sumT, P_lenT, P_listT, if_true, if_false, Bool.false_eq_true]
  refine x_whole v S hv _ ?_
  cases v with
  | int i =>
    simp only [P_seq, P_if, P_ret, P_expr, P_nil, P_asg, P_gNm, P_par, P_aug, P_gSub, P_gsNil, P_gsCons, P_loc, P_eK, P_e1, P_e2, P_eT, P_aNil, P_aCons, P_call, P_tup, P_lst, P_eIf, P_andB, P_orB, P_notB, P_ofO, P_tV, P_tB, P_tAnd, P_tOr, P_tNot, P_tYes, P_tC, P_ch, P_sl, P_oNo, P_oYes, P_mt, P_new, P_stp, Res.P_ok, SR.P_nx, SR.P_ret, P_if_res, P_bad, wip, List.set_cons_succ, List.set_cons_zero, List.getElem?_cons_succ, List.getElem?_cons_zero, List.getElem?_nil, List.length_cons, List.length_nil, P_addI, P_subI, P_augI, P_negI, P_lt, P_le, P_gt, P_ge, P_absI, P_intI, P_intB, cEq_ii, cNe_ii, cEq_bb, cEq_ss, cEq_ts, cEq_tn, cEq_tt, cNe_tt, P_sumT, P_lenT, P_listT, if_true, if_false, Bool.false_eq_true]
    by_cases c : -G < i
    · have e : decide (-1000000000000000000000000000000000000000000000000000000000000 < i) = true := decide_eq_true c
      rw [e]
      simp only [P_seq, P_if, P_ret, P_expr, P_nil, P_asg, P_gNm, P_par, P_aug, P_gSub, P_gsNil, P_gsCons, P_loc, P_eK, P_e1, P_e2, P_eT, P_aNil, P_aCons, P_call, P_tup, P_lst, P_eIf, P_andB, P_orB, P_notB, P_ofO, P_tV, P_tB, P_tAnd, P_tOr, P_tNot, P_tYes, P_tC, P_ch, P_sl, P_oNo, P_oYes, P_mt, P_new, P_stp, Res.P_ok, SR.P_nx, SR.P_ret, P_if_res, P_bad, wip, List.set_cons_succ, List.set_cons_zero, List.getElem?_cons_succ, List.getElem?_cons_zero, List.getElem?_nil, List.length_cons, List.length_nil, P_addI, P_subI, P_augI, P_negI, P_lt, P_le, P_gt, P_ge, P_absI, P_intI, P_intB, cEq_ii, cNe_ii, cEq_bb, cEq_ss, cEq_ts, cEq_tn, cEq_tt, cNe_tt, P_sumT, P_lenT, P_listT, if_true, if_false, Bool.false_eq_true]
      have : isG (.int i) = decide (i < G) := by simp [isG, c]
      rw [this] at h
      exact h
    · have e : decide (-1000000000000000000000000000000000000000000000000000000000000 < i) = false := decide_eq_false c
      rw [e]
      simp only [P_seq, P_if, P_ret, P_expr, P_nil, P_asg, P_gNm, P_par, P_aug, P_gSub, P_gsNil, P_gsCons, P_loc, P_eK, P_e1, P_e2, P_eT, P_aNil, P_aCons, P_call, P_tup, P_lst, P_eIf, P_andB, P_orB, P_notB, P_ofO, P_tV, P_tB, P_tAnd, P_tOr, P_tNot, P_tYes, P_tC, P_ch, P_sl, P_oNo, P_oYes, P_mt, P_new, P_stp, Res.P_ok, SR.P_nx, SR.P_ret, P_if_res, P_bad, wip, List.set_cons_succ, List.set_cons_zero, List.getElem?_cons_succ, List.getElem?_cons_zero, List.getElem?_nil, List.length_cons, List.length_nil, P_addI, P_subI, P_augI, P_negI, P_lt, P_le, P_gt, P_ge, P_absI, P_intI, P_intB, cEq_ii, cNe_ii, cEq_bb, cEq_ss, cEq_ts, cEq_tn, cEq_tt, cNe_tt, P_sumT, P_lenT, P_listT, if_true, if_false, Bool.false_eq_true]
      have : isG (.int i) = false := by simp [isG, c]
      rw [this] at h
      exact h
  | non => exact h
  | bl => exact h
  | str => exact h
  | tup => exact h
  | ref => cases hv
  | glo => cases hv
  | ty => cases hv
theorem P_isi (v : AV) (n : String) (b : Bool) (S : Sto) (h : ((tyN S v).bind fun a => subT a n) = some b) (Q : AV → Sto → Prop) : (pIsi [v, .ty n] S).P Q = Q (.bl b) S := by
  show Res.P (match (tyN S v).bind fun a => subT a n with
    | some b => .ok (.bl b) S
    | none => .bad) Q = _
  rw [h]; with_unfolding_all rfl
theorem flat_iv (ns : List Int) : ∀ v ∈ iv ns, flat v = true := fun v hv => by
  obtain ⟨n, _, rfl⟩ := List.mem_map.1 hv
  rfl
theorem flatMap_bl (xs : List AV) : (xs.flatMap fun v => [AV.bl (isG v)]) = blsI (xs.map isG) := by
  induction xs with
  | nil => rfl
  | cons x xs ih => show AV.bl (isG x) :: (xs.flatMap fun v => [AV.bl (isG v)]) = _; rw [ih]; rfl
/-- the first test of is_polynomial: a tuple -/
theorem x_poly (xs : List AV) (S : Sto) (hf : ∀ v ∈ xs, flat v = true) (hl : xs.length < 10000) (Q : AV → Sto → Prop)
    (h : ∀ S', Ext S S' → (xs.all isG = false → Q (.bl false) S') ∧ (∀ ns, xs = iv ns → (∀ n ∈ ns, -G < n ∧ n < G) → Q (.bl (decide (ns = []) || decide (la ns ≠ 0))) S')) : (d_is_polynomial [.tup xs] S).P Q := by
  refine P_mkF [some (.tup xs), none] rfl ?_
  simp only [P_seq, P_if, P_ret, P_expr, P_nil, P_asg, P_gNm, P_par, P_aug, P_gSub, P_gsNil, P_gsCons, P_loc, P_eK, P_e1, P_e2, P_eT, P_aNil, P_aCons, P_call, P_tup, P_lst, P_eIf, P_andB, P_orB, P_notB, P_ofO, P_tV, P_tB, P_tAnd, P_tOr, P_tNot, P_tYes, P_tC, P_ch, P_sl, P_oNo, P_oYes, P_mt, P_new, P_stp, Res.P_ok, SR.P_nx, SR.P_ret, P_if_res, P_bad, wip, List.set_cons_succ, List.set_cons_zero, List.getElem?_cons_succ, List.getElem?_cons_zero, List.getElem?_nil, List.length_cons, List.length_nil, P_addI, P_subI, P_augI, P_negI, P_lt, P_le, P_gt, P_ge, P_absI, P_intI, P_intB, cEq_ii, cNe_ii, cEq_bb, cEq_ss, cEq_ts, cEq_tn, cEq_tt, cNe_tt, P_sumT, P_lenT, P_listT, if_true, if_false, Bool.false_eq_true, P_isi (.tup xs) "tuple" true _ (by simp [tyN, subT])]
  simp only [P_seq, P_if, P_ret, P_expr, P_nil, P_asg, P_gNm, P_par, P_aug, P_gSub, P_gsNil, P_gsCons, P_loc, P_eK, P_e1, P_e2, P_eT, P_aNil, P_aCons, P_call, P_tup, P_lst, P_eIf, P_andB, P_orB, P_notB, P_ofO, P_tV, P_tB, P_tAnd, P_tOr, P_tNot, P_tYes, P_tC, P_ch, P_sl, P_oNo, P_oYes, P_mt, P_new, P_stp, Res.P_ok, SR.P_nx, SR.P_ret, P_if_res, P_bad, wip, List.set_cons_succ, List.set_cons_zero, List.getElem?_cons_succ, List.getElem?_cons_zero, List.getElem?_nil, List.length_cons, List.length_nil, P_addI, P_subI, P_augI, P_negI, P_lt, P_le, P_gt, P_ge, P_absI, P_intI, P_intB, cEq_ii, cNe_ii, cEq_bb, cEq_ss, cEq_ts, cEq_tn, cEq_tt, cNe_tt, P_sumT, P_lenT, P_listT, if_true, if_false, Bool.false_eq_true, Bool.not_true]
  refine P_lc_pure xs (fun v => [.bl (isG v)]) (by unfold LIM; omega) ?_ ?_ ?_
  · refine P_seqT _ _ _ _ ?_
    simp only [P_seq, P_if, P_ret, P_expr, P_nil, P_asg, P_gNm, P_par, P_aug, P_gSub, P_gsNil, P_gsCons, P_loc, P_eK, P_e1, P_e2, P_eT, P_aNil, P_aCons, P_call, P_tup, P_lst, P_eIf, P_andB, P_orB, P_notB, P_ofO, P_tV, P_tB, P_tAnd, P_tOr, P_tNot, P_tYes, P_tC, P_ch, P_sl, P_oNo, P_oYes, P_mt, P_new, P_stp, Res.P_ok, SR.P_nx, SR.P_ret, P_if_res, P_bad, wip, List.set_cons_succ, List.set_cons_zero, List.getElem?_cons_succ, List.getElem?_cons_zero, List.getElem?_nil, List.length_cons, List.length_nil, P_addI, P_subI, P_augI, P_negI, P_lt, P_le, P_gt, P_ge, P_absI, P_intI, P_intB, cEq_ii, cNe_ii, cEq_bb, cEq_ss, cEq_ts, cEq_tn, cEq_tt, cNe_tt, P_sumT, P_lenT, P_listT, if_true, if_false, Bool.false_eq_true]
    exact ⟨xs, rfl, fun _ => rfl, trivial⟩
  · intro v hv
    unfold lcStp
    simp only [P_seq, P_if, P_ret, P_expr, P_nil, P_asg, P_gNm, P_par, P_aug, P_gSub, P_gsNil, P_gsCons, P_loc, P_eK, P_e1, P_e2, P_eT, P_aNil, P_aCons, P_call, P_tup, P_lst, P_eIf, P_andB, P_orB, P_notB, P_ofO, P_tV, P_tB, P_tAnd, P_tOr, P_tNot, P_tYes, P_tC, P_ch, P_sl, P_oNo, P_oYes, P_mt, P_new, P_stp, Res.P_ok, SR.P_nx, SR.P_ret, P_if_res, P_bad, wip, List.set_cons_succ, List.set_cons_zero, List.getElem?_cons_succ, List.getElem?_cons_zero, List.getElem?_nil, List.length_cons, List.length_nil, P_addI, P_subI, P_augI, P_negI, P_lt, P_le, P_gt, P_ge, P_absI, P_intI, P_intB, cEq_ii, cNe_ii, cEq_bb, cEq_ss, cEq_ts, cEq_tn, cEq_tt, cNe_tt, P_sumT, P_lenT, P_listT, if_true, if_false, Bool.false_eq_true]
    exact x_integer v S (hf v hv) _ ⟨rfl, rfl⟩
  · rw [flatMap_bl, P_allL _ _ _ _ (app_new _ _)]
    have hh := h (S ++ [.lst false (blsI (xs.map isG))]) (Ext.app _ _)
    have ea : (xs.map isG).all id = xs.all isG := by rw [List.all_map]; rfl
    rw [ea]
    cases hc : xs.all isG with
    | false => simp only [P_seq, P_if, P_ret, P_expr, P_nil, P_asg, P_gNm, P_par, P_aug, P_gSub, P_gsNil, P_gsCons, P_loc, P_eK, P_e1, P_e2, P_eT, P_aNil, P_aCons, P_call, P_tup, P_lst, P_eIf, P_andB, P_orB, P_notB, P_ofO, P_tV, P_tB, P_tAnd, P_tOr, P_tNot, P_tYes, P_tC, P_ch, P_sl, P_oNo, P_oYes, P_mt, P_new, P_stp, Res.P_ok, SR.P_nx, SR.P_ret, P_if_res, P_bad, wip, List.set_cons_succ, List.set_cons_zero, List.getElem?_cons_succ, List.getElem?_cons_zero, List.getElem?_nil, List.length_cons, List.length_nil, P_addI, P_subI, P_augI, P_negI, P_lt, P_le, P_gt, P_ge, P_absI, P_intI, P_intB, cEq_ii, cNe_ii, cEq_bb, cEq_ss, cEq_ts, cEq_tn, cEq_tt, cNe_tt, P_sumT, P_lenT, P_listT, if_true, if_false, Bool.false_eq_true, Bool.not_false]; exact hh.1 hc
    | true =>
      simp only [P_seq, P_if, P_ret, P_expr, P_nil, P_asg, P_gNm, P_par, P_aug, P_gSub, P_gsNil, P_gsCons, P_loc, P_eK, P_e1, P_e2, P_eT, P_aNil, P_aCons, P_call, P_tup, P_lst, P_eIf, P_andB, P_orB, P_notB, P_ofO, P_tV, P_tB, P_tAnd, P_tOr, P_tNot, P_tYes, P_tC, P_ch, P_sl, P_oNo, P_oYes, P_mt, P_new, P_stp, Res.P_ok, SR.P_nx, SR.P_ret, P_if_res, P_bad, wip, List.set_cons_succ, List.set_cons_zero, List.getElem?_cons_succ, List.getElem?_cons_zero, List.getElem?_nil, List.length_cons, List.length_nil, P_addI, P_subI, P_augI, P_negI, P_lt, P_le, P_gt, P_ge, P_absI, P_intI, P_intB, cEq_ii, cNe_ii, cEq_bb, cEq_ss, cEq_ts, cEq_tn, cEq_tt, cNe_tt, P_sumT, P_lenT, P_listT, if_true, if_false, Bool.false_eq_true, Bool.not_true]
      have hx : ∃ ns, xs = iv ns ∧ ∀ n ∈ ns, -G < n ∧ n < G := by
        have hc2 := List.all_eq_true.1 hc
        clear ea hh h hf hl hc
        induction xs with
        | nil => exact ⟨[], rfl, by simp⟩
        | cons x xs ih =>
          obtain ⟨ns, e, hn⟩ := ih fun y hy => hc2 y (List.mem_cons_of_mem _ hy)
          have h1 := hc2 x (List.mem_cons_self ..)
          cases x with
          | int i =>
            refine ⟨i :: ns, by rw [e]; rfl, fun n hn' => ?_⟩
            rcases List.mem_cons.1 hn' with rfl | hn'
            · simpa [isG] using h1
            · exact hn n hn'
          | _ => cases h1
      obtain ⟨ns, rfl, hn⟩ := hx
      have h2 := hh.2 ns rfl hn
      simp only [P_seq, P_if, P_ret, P_expr, P_nil, P_asg, P_gNm, P_par, P_aug, P_gSub, P_gsNil, P_gsCons, P_loc, P_eK, P_e1, P_e2, P_eT, P_aNil, P_aCons, P_call, P_tup, P_lst, P_eIf, P_andB, P_orB, P_notB, P_ofO, P_tV, P_tB, P_tAnd, P_tOr, P_tNot, P_tYes, P_tC, P_ch, P_sl, P_oNo, P_oYes, P_mt, P_new, P_stp, Res.P_ok, SR.P_nx, SR.P_ret, P_if_res, P_bad, wip, List.set_cons_succ, List.set_cons_zero, List.getElem?_cons_succ, List.getElem?_cons_zero, List.getElem?_nil, List.length_cons, List.length_nil, P_addI, P_subI, P_augI, P_negI, P_lt, P_le, P_gt, P_ge, P_absI, P_intI, P_intB, cEq_ii, cNe_ii, cEq_bb, cEq_ss, cEq_ts, cEq_tn, cEq_tt, cNe_tt, P_sumT, P_lenT, P_listT, if_true, if_false, Bool.false_eq_true]
      by_cases hz : ns = []
      · subst hz
        simp only [decide_true, if_true]
        exact h2
      · rw [decide_eq_false hz] at h2 ⊢
        simp only [P_seq, P_if, P_ret, P_expr, P_nil, P_asg, P_gNm, P_par, P_aug, P_gSub, P_gsNil, P_gsCons, P_loc, P_eK, P_e1, P_e2, P_eT, P_aNil, P_aCons, P_call, P_tup, P_lst, P_eIf, P_andB, P_orB, P_notB, P_ofO, P_tV, P_tB, P_tAnd, P_tOr, P_tNot, P_tYes, P_tC, P_ch, P_sl, P_oNo, P_oYes, P_mt, P_new, P_stp, Res.P_ok, SR.P_nx, SR.P_ret, P_if_res, P_bad, wip, List.set_cons_succ, List.set_cons_zero, List.getElem?_cons_succ, List.getElem?_cons_zero, List.getElem?_nil, List.length_cons, List.length_nil, P_addI, P_subI, P_augI, P_negI, P_lt, P_le, P_gt, P_ge, P_absI, P_intI, P_intB, cEq_ii, cNe_ii, cEq_bb, cEq_ss, cEq_ts, cEq_tn, cEq_tt, cNe_tt, P_sumT, P_lenT, P_listT, if_true, if_false, Bool.false_eq_true]
        have h3 : oIx (.tup (iv ns)) (.int (-1)) (S ++ [.lst false (blsI ((iv ns).map isG))]) = .ok (.int (la ns)) (S ++ [.lst false (blsI ((iv ns).map isG))]) := by
          show ofO _ (L2.atI (iv ns) (-1)) = _
          rw [atI_last _ (by simpa using hz), List.getLast?_map]
          cases hq : ns.getLast? with
          | none => exact absurd (List.getLast?_eq_none_iff.1 hq) hz
          | some z => simp [la, hq]
        rw [h3]
        simp only [P_seq, P_if, P_ret, P_expr, P_nil, P_asg, P_gNm, P_par, P_aug, P_gSub, P_gsNil, P_gsCons, P_loc, P_eK, P_e1, P_e2, P_eT, P_aNil, P_aCons, P_call, P_tup, P_lst, P_eIf, P_andB, P_orB, P_notB, P_ofO, P_tV, P_tB, P_tAnd, P_tOr, P_tNot, P_tYes, P_tC, P_ch, P_sl, P_oNo, P_oYes, P_mt, P_new, P_stp, Res.P_ok, SR.P_nx, SR.P_ret, P_if_res, P_bad, wip, List.set_cons_succ, List.set_cons_zero, List.getElem?_cons_succ, List.getElem?_cons_zero, List.getElem?_nil, List.length_cons, List.length_nil, P_addI, P_subI, P_augI, P_negI, P_lt, P_le, P_gt, P_ge, P_absI, P_intI, P_intB, cEq_ii, cNe_ii, cEq_bb, cEq_ss, cEq_ts, cEq_tn, cEq_tt, cNe_tt, P_sumT, P_lenT, P_listT, if_true, if_false, Bool.false_eq_true]
        have e4 : (!(la ns == 0)) = (false || decide (la ns ≠ 0)) := by
          by_cases hl : la ns = 0 <;> simp [hl]
        rw [e4]
        exact h2
theorem x_poly_iv (ns : List Int) (S : Sto) (hn : ∀ n ∈ ns, -G < n ∧ n < G) (hl : ns.length < 10000) (Q : AV → Sto → Prop)
    (h : ∀ S', Ext S S' → Q (.bl (decide (ns = []) || decide (la ns ≠ 0))) S') : (d_is_polynomial [.tup (iv ns)] S).P Q := by
  refine x_poly (iv ns) S (flat_iv ns) (by simpa using hl) Q fun S' e => ⟨fun ha => ?_, fun ms em _ => ?_⟩
  · exfalso
    have : (iv ns).all isG = true := List.all_eq_true.2 fun v hv => by
      obtain ⟨n, hm, rfl⟩ := List.mem_map.1 hv
      have := hn n hm
      simp [isG, this]
    rw [this] at ha
    cases ha
  · have : ns = ms := by
      have := congrArg intsOf em
      rw [intsOf_ints, intsOf_ints] at this
      exact Option.some.inj this
    subst this
    exact h S' e
theorem x_poly_no (xs : List AV) (S : Sto) (hf : ∀ v ∈ xs, flat v = true) (hl : xs.length < 10000) (ha : xs.all isG = false) (Q : AV → Sto → Prop)
    (h : ∀ S', Ext S S' → Q (.bl false) S') : (d_is_polynomial [.tup xs] S).P Q := by
  refine x_poly xs S hf hl Q fun S' e => ⟨fun _ => h S' e, fun ms em hn => ?_⟩
  exfalso
  subst em
  have : (iv ms).all isG = true := List.all_eq_true.2 fun v hv => by
    obtain ⟨n, hm, rfl⟩ := List.mem_map.1 hv
    have := hn n hm
    simp [isG, this]
  rw [this] at ha
  cases ha
theorem x_poly_nt (v : AV) (S : Sto) (hv : ((tyN S v).bind fun a => subT a "tuple") = some false) (Q : AV → Sto → Prop) (h : Q (.bl false) S) : (d_is_polynomial [v] S).P Q := by
  refine P_mkF [some v, none] rfl ?_
  simp only [P_seq, P_if, P_ret, P_expr, P_nil, P_asg, P_gNm, P_par, P_aug, P_gSub, P_gsNil, P_gsCons, P_loc, P_eK, P_e1, P_e2, P_eT, P_aNil, P_aCons, P_call, P_tup, P_lst, P_eIf, P_andB, P_orB, P_notB, P_ofO, P_tV, P_tB, P_tAnd, P_tOr, P_tNot, P_tYes, P_tC, P_ch, P_sl, P_oNo, P_oYes, P_mt, P_new, P_stp, Res.P_ok, SR.P_nx, SR.P_ret, P_if_res, P_bad, wip, List.set_cons_succ, List.set_cons_zero, List.getElem?_cons_succ, List.getElem?_cons_zero, List.getElem?_nil, List.length_cons, List.length_nil, P_addI, P_subI, P_augI, P_negI, P_lt, P_le, P_gt, P_ge, P_absI, P_intI, P_intB, cEq_ii, cNe_ii, cEq_bb, cEq_ss, cEq_ts, cEq_tn, cEq_tt, cNe_tt, P_sumT, P_lenT, P_listT, if_true, if_false, Bool.false_eq_true, P_isi v "tuple" false _ hv]
  simp only [P_seq, P_if, P_ret, P_expr, P_nil, P_asg, P_gNm, P_par, P_aug, P_gSub, P_gsNil, P_gsCons, P_loc, P_eK, P_e1, P_e2, P_eT, P_aNil, P_aCons, P_call, P_tup, P_lst, P_eIf, P_andB, P_orB, P_notB, P_ofO, P_tV, P_tB, P_tAnd, P_tOr, P_tNot, P_tYes, P_tC, P_ch, P_sl, P_oNo, P_oYes, P_mt, P_new, P_stp, Res.P_ok, SR.P_nx, SR.P_ret, P_if_res, P_bad, wip, List.set_cons_succ, List.set_cons_zero, List.getElem?_cons_succ, List.getElem?_cons_zero, List.getElem?_nil, List.length_cons, List.length_nil, P_addI, P_subI, P_augI, P_negI, P_lt, P_le, P_gt, P_ge, P_absI, P_intI, P_intB, cEq_ii, cNe_ii, cEq_bb, cEq_ss, cEq_ts, cEq_tn, cEq_tt, cNe_tt, P_sumT, P_lenT, P_listT, if_true, if_false, Bool.false_eq_true, Bool.not_false]
  exact h
/-! ### the root one -/
def rn (T : List Int) (j : Nat) : Int := (T.reverse.take (j + 1)).sum
theorem rn_rev (T : List Int) : (tabI T.length (rn T)).reverse = sfx T := by
  induction T with
  | nil => rfl
  | cons a T ih =>
    have e : tabI (a :: T).length (rn (a :: T)) = tabI T.length (rn T) ++ [a + T.sum] := by
      unfold tabI
      rw [List.length_cons, List.range_succ, List.map_append]
      congr 1
      · refine List.map_congr_left fun j hj => ?_
        have : j < T.length := List.mem_range.1 hj
        unfold rn
        rw [List.reverse_cons, List.take_append_of_le_length (by simp; omega)]
      · simp [rn, List.take_of_length_le]
        omega
    rw [e, List.reverse_append, ih]
    rfl
theorem rn_step (T : List Int) (i : Nat) (n : Int) (h : T.reverse[i]? = some n) : (T.reverse.take i).sum + n = rn T i := by
  unfold rn
  rw [List.take_add_one, h]
  simp
theorem tabI_succ (m : Nat) (f : Nat → Int) : tabI (m + 1) f = tabI m f ++ [f m] := by
  unfold tabI
  rw [List.range_succ, List.map_append]
  rfl
theorem P_app (a : Nat) (xs : List AV) (v : AV) (S : Sto) (hS : S[a]? = some (.lst false xs)) (hl : xs.length < 10000000) (Q : AV → Sto → Prop) : (mAppend (.ref a) [v] S).P Q = Q .non (S.set a (.lst false (xs ++ [v]))) := by
  unfold mAppend
  simp only [hS]
  rw [if_pos (by rw [szl]; omega)]
  with_unfolding_all rfl
theorem P_revT (k : Nat) (xs : List AV) (S : Sto) (Q : AV → Sto → Prop) : (oRev k (.tup xs) S).P Q = Q (.tup (xs.drop k).reverse) S := by with_unfolding_all exact rfl
theorem tyA_list (a : Nat) (lk : Bool) (xs : List AV) (S : Sto) (hS : S[a]? = some (.lst lk xs)) : tyA "list" S (.ref a) = true := by
  unfold tyA
  simp only [hS]
  rfl
theorem iv_get {ns : List Int} {i : Nat} {v : AV} (h : (iv ns)[i]? = some v) : ∃ n, ns[i]? = some n ∧ v = .int n := by
  rw [List.getElem?_map] at h
  cases hn : ns[i]? with
  | none => rw [hn] at h; cases h
  | some n => rw [hn] at h; exact ⟨n, rfl, (Option.some.inj h).symm⟩
theorem x_without (L : List Int) (S : Sto) (hl : L.length < 10000) (Q : AV → Sto → Prop) (h : ∀ S', Ext S S' → Q (.tup (iv (wr L))) S') : (d_without_root [.tup (iv L)] S).P Q := by
  refine P_mkF [some (.tup (iv L)), none, none, none] rfl ?_
  simp only [P_seq, P_if, P_ret, P_expr, P_nil, P_asg, P_gNm, P_par, P_aug, P_gSub, P_gsNil, P_gsCons, P_loc, P_eK, P_e1, P_e2, P_eT, P_aNil, P_aCons, P_call, P_tup, P_lst, P_eIf, P_andB, P_orB, P_notB, P_ofO, P_tV, P_tB, P_tAnd, P_tOr, P_tNot, P_tYes, P_tC, P_ch, P_sl, P_oNo, P_oYes, P_mt, P_new, P_stp, Res.P_ok, SR.P_nx, SR.P_ret, P_if_res, P_bad, wip, List.set_cons_succ, List.set_cons_zero, List.getElem?_cons_succ, List.getElem?_cons_zero, List.getElem?_nil, List.length_cons, List.length_nil, P_addI, P_subI, P_augI, P_negI, P_lt, P_le, P_gt, P_ge, P_absI, P_intI, P_intB, cEq_ii, cNe_ii, cEq_bb, cEq_ss, cEq_ts, cEq_tn, cEq_tt, cNe_tt, P_sumT, P_lenT, P_listT, if_true, if_false, Bool.false_eq_true, szl]
  simp only [show (0 : Nat) ≤ 16777216 from by omega, if_true]
  have hT : ((iv L).drop 1).reverse = iv L.tail.reverse := by simp [List.map_reverse]
  refine P_for (iv L.tail.reverse) (fun i r S' => ∃ o, r = [some (.tup (iv L)), some (.ref S.length), some (.int (L.tail.reverse.take i).sum), o] ∧ S'[S.length]? = some (.lst false (iv (tabI i (rn L.tail)))) ∧ Ext S S') (by unfold LIM; simp; omega) ?_ ?_ ?_
  · refine P_seqT _ _ _ _ ?_
    simp only [P_seq, P_if, P_ret, P_expr, P_nil, P_asg, P_gNm, P_par, P_aug, P_gSub, P_gsNil, P_gsCons, P_loc, P_eK, P_e1, P_e2, P_eT, P_aNil, P_aCons, P_call, P_tup, P_lst, P_eIf, P_andB, P_orB, P_notB, P_ofO, P_tV, P_tB, P_tAnd, P_tOr, P_tNot, P_tYes, P_tC, P_ch, P_sl, P_oNo, P_oYes, P_mt, P_new, P_stp, Res.P_ok, SR.P_nx, SR.P_ret, P_if_res, P_bad, wip, List.set_cons_succ, List.set_cons_zero, List.getElem?_cons_succ, List.getElem?_cons_zero, List.getElem?_nil, List.length_cons, List.length_nil, P_addI, P_subI, P_augI, P_negI, P_lt, P_le, P_gt, P_ge, P_absI, P_intI, P_intB, cEq_ii, cNe_ii, cEq_bb, cEq_ss, cEq_ts, cEq_tn, cEq_tt, cNe_tt, P_sumT, P_lenT, P_listT, if_true, if_false, Bool.false_eq_true, P_revT]
    refine ⟨_, rfl, fun i r' S' _ => ?_, none, rfl, app_new _ _, Ext.app _ _⟩
    show some ((iv L).drop 1).reverse[i]? = _
    rw [hT]
  · rintro i v r S1 hv ⟨o, rfl, hb, he⟩
    obtain ⟨n, hn, rfl⟩ := iv_get hv
    have hi := get_lt (S := S1) hb
    have hil : i < L.tail.reverse.length := by
      have := List.getElem?_eq_some_iff.1 hn
      exact this.1
    simp only [P_seq, P_if, P_ret, P_expr, P_nil, P_asg, P_gNm, P_par, P_aug, P_gSub, P_gsNil, P_gsCons, P_loc, P_eK, P_e1, P_e2, P_eT, P_aNil, P_aCons, P_call, P_tup, P_lst, P_eIf, P_andB, P_orB, P_notB, P_ofO, P_tV, P_tB, P_tAnd, P_tOr, P_tNot, P_tYes, P_tC, P_ch, P_sl, P_oNo, P_oYes, P_mt, P_new, P_stp, Res.P_ok, SR.P_nx, SR.P_ret, P_if_res, P_bad, wip, List.set_cons_succ, List.set_cons_zero, List.getElem?_cons_succ, List.getElem?_cons_zero, List.getElem?_nil, List.length_cons, List.length_nil, P_addI, P_subI, P_augI, P_negI, P_lt, P_le, P_gt, P_ge, P_absI, P_intI, P_intB, cEq_ii, cNe_ii, cEq_bb, cEq_ss, cEq_ts, cEq_tn, cEq_tt, cNe_tt, P_sumT, P_lenT, P_listT, if_true, if_false, Bool.false_eq_true]
    simp only [tyA_list _ _ _ _ hb, if_true]
    rw [P_app _ _ _ _ hb (by simp [tabI_len]; simp at hil; omega)]
    refine ⟨some (.int n), by rw [rn_step _ _ _ hn]; rfl, ?_, ext_set _ he (Nat.le_refl _)⟩
    rw [set_get _ _ _ hi, rn_step _ _ _ hn, tabI_succ]
    simp
  · rintro r S1 ⟨o, rfl, hb, he⟩
    simp only [P_seq, P_if, P_ret, P_expr, P_nil, P_asg, P_gNm, P_par, P_aug, P_gSub, P_gsNil, P_gsCons, P_loc, P_eK, P_e1, P_e2, P_eT, P_aNil, P_aCons, P_call, P_tup, P_lst, P_eIf, P_andB, P_orB, P_notB, P_ofO, P_tV, P_tB, P_tAnd, P_tOr, P_tNot, P_tYes, P_tC, P_ch, P_sl, P_oNo, P_oYes, P_mt, P_new, P_stp, Res.P_ok, SR.P_nx, SR.P_ret, P_if_res, P_bad, wip, List.set_cons_succ, List.set_cons_zero, List.getElem?_cons_succ, List.getElem?_cons_zero, List.getElem?_nil, List.length_cons, List.length_nil, P_addI, P_subI, P_augI, P_negI, P_lt, P_le, P_gt, P_ge, P_absI, P_intI, P_intB, cEq_ii, cNe_ii, cEq_bb, cEq_ss, cEq_ts, cEq_tn, cEq_tt, cNe_tt, P_sumT, P_lenT, P_listT, if_true, if_false, Bool.false_eq_true]
    have e3 : oRev 0 (.ref S.length) S1 = new S1 (.lst false (iv (tabI (iv L.tail.reverse).length (rn L.tail))).reverse) := by
      unfold oRev
      simp only [hb]
      rfl
    rw [e3]
    simp only [P_seq, P_if, P_ret, P_expr, P_nil, P_asg, P_gNm, P_par, P_aug, P_gSub, P_gsNil, P_gsCons, P_loc, P_eK, P_e1, P_e2, P_eT, P_aNil, P_aCons, P_call, P_tup, P_lst, P_eIf, P_andB, P_orB, P_notB, P_ofO, P_tV, P_tB, P_tAnd, P_tOr, P_tNot, P_tYes, P_tC, P_ch, P_sl, P_oNo, P_oYes, P_mt, P_new, P_stp, Res.P_ok, SR.P_nx, SR.P_ret, P_if_res, P_bad, wip, List.set_cons_succ, List.set_cons_zero, List.getElem?_cons_succ, List.getElem?_cons_zero, List.getElem?_nil, List.length_cons, List.length_nil, P_addI, P_subI, P_augI, P_negI, P_lt, P_le, P_gt, P_ge, P_absI, P_intI, P_intB, cEq_ii, cNe_ii, cEq_bb, cEq_ss, cEq_ts, cEq_tn, cEq_tt, cNe_tt, P_sumT, P_lenT, P_listT, if_true, if_false, Bool.false_eq_true]
    rw [P_tupL _ _ _ _ (app_new _ _)]
    have e4 : (iv (tabI (iv L.tail.reverse).length (rn L.tail))).reverse = iv (wr L) := by
      have : (iv L.tail.reverse).length = L.tail.length := by simp
      rw [this]
      unfold wr
      rw [← rn_rev]
      exact List.map_reverse.symm
    rw [e4]
    exact h _ (he.trans (Ext.app _ _))
theorem wr_len (L : List Int) : (wr L).length = L.length - 1 := by
  unfold wr
  rw [sfx_len, List.length_tail]
theorem x_at_one (L : List Int) (e : Nat) (v : Int) (S : Sto) (hE : Ends L e v) (h0 : la L ≠ 0) (hn : ∀ n ∈ L, -G < n ∧ n < G) (hl : L.length < 10000) (Q : AV → Sto → Prop)
    (h : ∀ S', Ext S S' → Q (.tup (iv [(e : Int), v])) S') : (d_at_one [.tup (iv L)] S).P Q := by
  have hne : L ≠ [] := by intro e; rw [e] at h0; exact h0 rfl
  refine P_mkF [some (.tup (iv L)), none, none] rfl ?_
  simp only [P_seq, P_if, P_ret, P_expr, P_nil, P_asg, P_gNm, P_par, P_aug, P_gSub, P_gsNil, P_gsCons, P_loc, P_eK, P_e1, P_e2, P_eT, P_aNil, P_aCons, P_call, P_tup, P_lst, P_eIf, P_andB, P_orB, P_notB, P_ofO, P_tV, P_tB, P_tAnd, P_tOr, P_tNot, P_tYes, P_tC, P_ch, P_sl, P_oNo, P_oYes, P_mt, P_new, P_stp, Res.P_ok, SR.P_nx, SR.P_ret, P_if_res, P_bad, wip, List.set_cons_succ, List.set_cons_zero, List.getElem?_cons_succ, List.getElem?_cons_zero, List.getElem?_nil, List.length_cons, List.length_nil, P_addI, P_subI, P_augI, P_negI, P_lt, P_le, P_gt, P_ge, P_absI, P_intI, P_intB, cEq_ii, cNe_ii, cEq_bb, cEq_ss, cEq_ts, cEq_tn, cEq_tt, cNe_tt, P_sumT, P_lenT, P_listT, if_true, if_false, Bool.false_eq_true]
  refine x_poly_iv L S hn hl _ fun S1 e1 => ?_
  have hd : (decide (L = []) || decide (la L ≠ 0)) = true := by simp [h0]
  rw [hd]
  simp only [P_seq, P_if, P_ret, P_expr, P_nil, P_asg, P_gNm, P_par, P_aug, P_gSub, P_gsNil, P_gsCons, P_loc, P_eK, P_e1, P_e2, P_eT, P_aNil, P_aCons, P_call, P_tup, P_lst, P_eIf, P_andB, P_orB, P_notB, P_ofO, P_tV, P_tB, P_tAnd, P_tOr, P_tNot, P_tYes, P_tC, P_ch, P_sl, P_oNo, P_oYes, P_mt, P_new, P_stp, Res.P_ok, SR.P_nx, SR.P_ret, P_if_res, P_bad, wip, List.set_cons_succ, List.set_cons_zero, List.getElem?_cons_succ, List.getElem?_cons_zero, List.getElem?_nil, List.length_cons, List.length_nil, P_addI, P_subI, P_augI, P_negI, P_lt, P_le, P_gt, P_ge, P_absI, P_intI, P_intB, cEq_ii, cNe_ii, cEq_bb, cEq_ss, cEq_ts, cEq_tn, cEq_tt, cNe_tt, P_sumT, P_lenT, P_listT, if_true, if_false, Bool.false_eq_true, Bool.not_true, szl]
  simp only [show (0 : Nat) ≤ 16777216 from by omega, if_true]
  simp only [P_seq, P_if, P_ret, P_expr, P_nil, P_asg, P_gNm, P_par, P_aug, P_gSub, P_gsNil, P_gsCons, P_loc, P_eK, P_e1, P_e2, P_eT, P_aNil, P_aCons, P_call, P_tup, P_lst, P_eIf, P_andB, P_orB, P_notB, P_ofO, P_tV, P_tB, P_tAnd, P_tOr, P_tNot, P_tYes, P_tC, P_ch, P_sl, P_oNo, P_oYes, P_mt, P_new, P_stp, Res.P_ok, SR.P_nx, SR.P_ret, P_if_res, P_bad, wip, List.set_cons_succ, List.set_cons_zero, List.getElem?_cons_succ, List.getElem?_cons_zero, List.getElem?_nil, List.length_cons, List.length_nil, P_addI, P_subI, P_augI, P_negI, P_lt, P_le, P_gt, P_ge, P_absI, P_intI, P_intB, cEq_ii, cNe_ii, cEq_bb, cEq_ss, cEq_ts, cEq_tn, cEq_tt, cNe_tt, P_sumT, P_lenT, P_listT, if_true, if_false, Bool.false_eq_true, decide_eq_false hne]
  refine P_while (fun j r S' => ∃ L', Ends L' j v ∧ j ≤ e ∧ L'.length < 10000 ∧ r = [some (.tup (iv L)), some (.int ((e : Int) - j)), some (.tup (iv L'))] ∧ Ext S S') e (by have := ends_len hE h0; unfold LIM; omega) ⟨L, hE, Nat.le_refl _, hl, by simp, e1⟩ ?_
  rintro j r S' ⟨L', hE', hj, hl', rfl, e2⟩
  simp only [P_seq, P_if, P_ret, P_expr, P_nil, P_asg, P_gNm, P_par, P_aug, P_gSub, P_gsNil, P_gsCons, P_loc, P_eK, P_e1, P_e2, P_eT, P_aNil, P_aCons, P_call, P_tup, P_lst, P_eIf, P_andB, P_orB, P_notB, P_ofO, P_tV, P_tB, P_tAnd, P_tOr, P_tNot, P_tYes, P_tC, P_ch, P_sl, P_oNo, P_oYes, P_mt, P_new, P_stp, Res.P_ok, SR.P_nx, SR.P_ret, P_if_res, P_bad, wip, List.set_cons_succ, List.set_cons_zero, List.getElem?_cons_succ, List.getElem?_cons_zero, List.getElem?_nil, List.length_cons, List.length_nil, P_addI, P_subI, P_augI, P_negI, P_lt, P_le, P_gt, P_ge, P_absI, P_intI, P_intB, cEq_ii, cNe_ii, cEq_bb, cEq_ss, cEq_ts, cEq_tn, cEq_tt, cNe_tt, P_sumT, P_lenT, P_listT, if_true, if_false, Bool.false_eq_true]
  cases hE' with
  | z hz =>
    have : (L'.sum == 0) = false := by simp [hz]
    rw [this]
    simp only [P_seq, P_if, P_ret, P_expr, P_nil, P_asg, P_gNm, P_par, P_aug, P_gSub, P_gsNil, P_gsCons, P_loc, P_eK, P_e1, P_e2, P_eT, P_aNil, P_aCons, P_call, P_tup, P_lst, P_eIf, P_andB, P_orB, P_notB, P_ofO, P_tV, P_tB, P_tAnd, P_tOr, P_tNot, P_tYes, P_tC, P_ch, P_sl, P_oNo, P_oYes, P_mt, P_new, P_stp, Res.P_ok, SR.P_nx, SR.P_ret, P_if_res, P_bad, wip, List.set_cons_succ, List.set_cons_zero, List.getElem?_cons_succ, List.getElem?_cons_zero, List.getElem?_nil, List.length_cons, List.length_nil, P_addI, P_subI, P_augI, P_negI, P_lt, P_le, P_gt, P_ge, P_absI, P_intI, P_intB, cEq_ii, cNe_ii, cEq_bb, cEq_ss, cEq_ts, cEq_tn, cEq_tt, cNe_tt, P_sumT, P_lenT, P_listT, if_true, if_false, Bool.false_eq_true, szl]
    simp only [show (0 + 1 + 1 : Nat) ≤ 16777216 from by omega, if_true]
    have e5 : (e : Int) - ((0 : Nat) : Int) = e := by simp
    rw [e5]
    exact h S' e2
  | @s _ j v hz hE' =>
    have : (L'.sum == 0) = true := by simp [hz]
    rw [this]
    simp only [if_true]
    refine ⟨j, rfl, ?_⟩
    refine x_without L' S' hl' _ fun S'' e3 => ?_
    refine ⟨wr L', hE', by omega, by rw [wr_len]; omega, ?_, e2.trans e3⟩
    have : (e : Int) - ((j + 1 : Nat) : Int) + 1 = (e : Int) - (j : Int) := by omega
    rw [this]
theorem P_for2 {N : Env → Sto → Prop} {R : AV → Sto → Prop} {u : DI} {g : DG} {b : DS} {r : Env} {S : Sto} (xs : List AV) (Inv : Nat → Env → Sto → Prop) (S1 : Sto) (s : Src)
    (hl : xs.length < LIM)
    (hu : u r S = .ok s S1)
    (hg : ∀ i r' S', Inv i r' S' → s S' i = some xs[i]?) (h0 : Inv 0 r S1)
    (step : ∀ i v r1 S1, xs[i]? = some v → Inv i r1 S1 → (stp g b v r1 S1).P (Inv (i + 1)) R)
    (fin : ∀ r1 S1, Inv xs.length r1 S1 → N r1 S1) : (sFor u g b r S).P N R :=
  P_for xs Inv hl (by rw [hu, Res.P_ok]; exact ⟨hg, h0⟩) step fin
theorem oRev_L (a : Nat) (lk : Bool) (ns : List Int) (S : Sto) (hS : S[a]? = some (.lst lk (iv ns))) : oRev 0 (.ref a) S = new S (.lst false (iv ns.reverse)) := by
  unfold oRev
  simp only [hS]
  exact congrArg (fun x => new S (.lst false x)) List.map_reverse.symm
theorem oSl_L (a : Nat) (lk : Bool) (xs : List AV) (lo hi : Option Int) (S : Sto) (hS : S[a]? = some (.lst lk xs)) : oSl (.ref a) lo hi S = new S (.lst false (cutA xs lo hi)) := by
  unfold oSl
  simp only [hS]
theorem cutA_last (xs : List AV) : cutA xs none (some (-1)) = xs.dropLast := by
  unfold cutA
  rw [List.dropLast_eq_take]
  show (xs.drop 0).take ((if (-1 : Int) < 0 then (-1 + (xs.length : Int)).toNat else min (-1 : Int).toNat xs.length) - 0) = _
  rw [if_pos (by omega), List.drop_zero]
  congr 1
  omega
theorem x_parted (L : List Int) (e : Nat) (v : Int) (S : Sto) (hE : Ends L e v) (h0 : la L ≠ 0) (hl : L.length < 10000) (Q : AV → Sto → Prop)
    (h : ∀ S', Ext S S' → Q (.tup (iv [(e : Int), v])) S') : (d_q_parted_at_one [.tup (iv L)] S).P Q := by
  refine P_mkF [some (.tup (iv L)), none, none, none, none, none] rfl ?_
  simp only [P_seq, P_if, P_ret, P_expr, P_nil, P_asg, P_gNm, P_par, P_aug, P_gSub, P_gsNil, P_gsCons, P_loc, P_eK, P_e1, P_e2, P_eT, P_aNil, P_aCons, P_call, P_tup, P_lst, P_eIf, P_andB, P_orB, P_notB, P_ofO, P_tV, P_tB, P_tAnd, P_tOr, P_tNot, P_tYes, P_tC, P_ch, P_sl, P_oNo, P_oYes, P_mt, P_new, P_stp, Res.P_ok, SR.P_nx, SR.P_ret, P_if_res, P_bad, wip, List.set_cons_succ, List.set_cons_zero, List.getElem?_cons_succ, List.getElem?_cons_zero, List.getElem?_nil, List.length_cons, List.length_nil, P_addI, P_subI, P_augI, P_negI, P_lt, P_le, P_gt, P_ge, P_absI, P_intI, P_intB, cEq_ii, cNe_ii, cEq_bb, cEq_ss, cEq_ts, cEq_tn, cEq_tt, cNe_tt, P_sumT, P_lenT, P_listT, if_true, if_false, Bool.false_eq_true]
  refine P_while (fun j r S' => ∃ L' p o3 o4 o5, Ends L' j v ∧ j ≤ e ∧ L'.length < 10000 ∧ r = [some (.tup (iv L)), some (.int ((e : Int) - j)), some (.ref p), o3, o4, o5] ∧ S'[p]? = some (.lst false (iv L')) ∧ Ext S S') e (by have := ends_len hE h0; unfold LIM; omega) ⟨L, S.length, none, none, none, hE, Nat.le_refl _, hl, by simp, app_new _ _, Ext.app _ _⟩ ?_
  rintro j r S1 ⟨L', p, o3, o4, o5, hE', hj, hl', rfl, hp, e2⟩
  simp only [P_seq, P_if, P_ret, P_expr, P_nil, P_asg, P_gNm, P_par, P_aug, P_gSub, P_gsNil, P_gsCons, P_loc, P_eK, P_e1, P_e2, P_eT, P_aNil, P_aCons, P_call, P_tup, P_lst, P_eIf, P_andB, P_orB, P_notB, P_ofO, P_tV, P_tB, P_tAnd, P_tOr, P_tNot, P_tYes, P_tC, P_ch, P_sl, P_oNo, P_oYes, P_mt, P_new, P_stp, Res.P_ok, SR.P_nx, SR.P_ret, P_if_res, P_bad, wip, List.set_cons_succ, List.set_cons_zero, List.getElem?_cons_succ, List.getElem?_cons_zero, List.getElem?_nil, List.length_cons, List.length_nil, P_addI, P_subI, P_augI, P_negI, P_lt, P_le, P_gt, P_ge, P_absI, P_intI, P_intB, cEq_ii, cNe_ii, cEq_bb, cEq_ss, cEq_ts, cEq_tn, cEq_tt, cNe_tt, P_sumT, P_lenT, P_listT, if_true, if_false, Bool.false_eq_true, P_sumL _ _ _ _ hp]
  cases hE' with
  | z hz =>
    have : (L'.sum == 0) = false := by simp [hz]
    rw [this]
    simp only [P_seq, P_if, P_ret, P_expr, P_nil, P_asg, P_gNm, P_par, P_aug, P_gSub, P_gsNil, P_gsCons, P_loc, P_eK, P_e1, P_e2, P_eT, P_aNil, P_aCons, P_call, P_tup, P_lst, P_eIf, P_andB, P_orB, P_notB, P_ofO, P_tV, P_tB, P_tAnd, P_tOr, P_tNot, P_tYes, P_tC, P_ch, P_sl, P_oNo, P_oYes, P_mt, P_new, P_stp, Res.P_ok, SR.P_nx, SR.P_ret, P_if_res, P_bad, wip, List.set_cons_succ, List.set_cons_zero, List.getElem?_cons_succ, List.getElem?_cons_zero, List.getElem?_nil, List.length_cons, List.length_nil, P_addI, P_subI, P_augI, P_negI, P_lt, P_le, P_gt, P_ge, P_absI, P_intI, P_intB, cEq_ii, cNe_ii, cEq_bb, cEq_ss, cEq_ts, cEq_tn, cEq_tt, cNe_tt, P_sumT, P_lenT, P_listT, if_true, if_false, Bool.false_eq_true, szl, P_sumL _ _ _ _ hp]
    simp only [show (0 + 1 + 1 : Nat) ≤ 16777216 from by omega, if_true]
    have e5 : (e : Int) - ((0 : Nat) : Int) = e := by simp
    rw [e5]
    exact h S1 e2
  | @s _ j v hz hE' =>
    have : (L'.sum == 0) = true := by simp [hz]
    rw [this]
    simp only [if_true]
    refine ⟨j, rfl, ?_⟩
    simp only [P_seq, P_if, P_ret, P_expr, P_nil, P_asg, P_gNm, P_par, P_aug, P_gSub, P_gsNil, P_gsCons, P_loc, P_eK, P_e1, P_e2, P_eT, P_aNil, P_aCons, P_call, P_tup, P_lst, P_eIf, P_andB, P_orB, P_notB, P_ofO, P_tV, P_tB, P_tAnd, P_tOr, P_tNot, P_tYes, P_tC, P_ch, P_sl, P_oNo, P_oYes, P_mt, P_new, P_stp, Res.P_ok, SR.P_nx, SR.P_ret, P_if_res, P_bad, wip, List.set_cons_succ, List.set_cons_zero, List.getElem?_cons_succ, List.getElem?_cons_zero, List.getElem?_nil, List.length_cons, List.length_nil, P_addI, P_subI, P_augI, P_negI, P_lt, P_le, P_gt, P_ge, P_absI, P_intI, P_intB, cEq_ii, cNe_ii, cEq_bb, cEq_ss, cEq_ts, cEq_tn, cEq_tt, cNe_tt, P_sumT, P_lenT, P_listT, if_true, if_false, Bool.false_eq_true, szl]
    simp only [show (0 : Nat) ≤ 16777216 from by omega, if_true]
    have hpl := get_lt hp
    have hp1 : (S1 ++ [AO.lst false []])[p]? = some (.lst false (iv L')) := app_get hp
    have hq : ((S1 ++ [AO.lst false []]) ++ [AO.lst false (iv L'.reverse)])[S1.length]? = some (.lst false (iv [])) := app_get (app_new _ _)
    refine P_for2 (iv L'.reverse) (fun i r S' => ∃ o, r = [some (.tup (iv L)), some (.int ((e : Int) - ((j + 1 : Nat) : Int))), some (.ref p), some (.ref S1.length), some (.int (L'.reverse.take i).sum), o] ∧ S'[S1.length]? = some (.lst false (iv (tabI i (rn L')))) ∧ S'[S1.length + 1]? = some (.lst false (iv L'.reverse)) ∧ Ext S1 S') ((S1 ++ [AO.lst false []]) ++ [AO.lst false (iv L'.reverse)]) (uLive (S1.length + 1)) (by unfold LIM; simp; omega) ?_ ?_ ?_ ?_ ?_
    · show ((oRev 0 (.ref p) (S1 ++ [AO.lst false []])).bind fun v S1 => match v with
        | .tup xs => .ok (uFix xs) S1
        | .ref p => (match S1[p]? with
          | some (.lst _ _) => .ok (uLive p) S1
          | _ => .bad)
        | _ => .bad) = _
      rw [oRev_L _ _ _ _ hp1]
      have hz := app_new (S1 ++ [AO.lst false []]) (AO.lst false (iv L'.reverse))
      show (match ((S1 ++ [AO.lst false []]) ++ [AO.lst false (iv L'.reverse)])[(S1 ++ [AO.lst false []]).length]? with
          | some (.lst _ _) => Res.ok (uLive (S1 ++ [AO.lst false []]).length) ((S1 ++ [AO.lst false []]) ++ [AO.lst false (iv L'.reverse)])
          | _ => .bad) = _
      rw [hz]
      simp
    · rintro i r' S' ⟨o, _, _, h2, _⟩
      exact uLive_get h2 i
    · refine ⟨o5, by simp, hq, ?_, (Ext.app _ _).trans (Ext.app _ _)⟩
      have := app_new (S1 ++ [AO.lst false []]) (AO.lst false (iv L'.reverse))
      simpa using this
    · rintro i w r' S' hw ⟨o, rfl, h1, h2, h3⟩
      obtain ⟨n, hn, rfl⟩ := iv_get hw
      have hi : i < L'.reverse.length := (List.getElem?_eq_some_iff.1 hn).1
      simp only [List.length_reverse] at hi
      simp only [P_seq, P_if, P_ret, P_expr, P_nil, P_asg, P_gNm, P_par, P_aug, P_gSub, P_gsNil, P_gsCons, P_loc, P_eK, P_e1, P_e2, P_eT, P_aNil, P_aCons, P_call, P_tup, P_lst, P_eIf, P_andB, P_orB, P_notB, P_ofO, P_tV, P_tB, P_tAnd, P_tOr, P_tNot, P_tYes, P_tC, P_ch, P_sl, P_oNo, P_oYes, P_mt, P_new, P_stp, Res.P_ok, SR.P_nx, SR.P_ret, P_if_res, P_bad, wip, List.set_cons_succ, List.set_cons_zero, List.getElem?_cons_succ, List.getElem?_cons_zero, List.getElem?_nil, List.length_cons, List.length_nil, P_addI, P_subI, P_augI, P_negI, P_lt, P_le, P_gt, P_ge, P_absI, P_intI, P_intB, cEq_ii, cNe_ii, cEq_bb, cEq_ss, cEq_ts, cEq_tn, cEq_tt, cNe_tt, P_sumT, P_lenT, P_listT, if_true, if_false, Bool.false_eq_true]
      simp only [tyA_list _ _ _ _ h1, if_true]
      rw [P_app _ _ _ _ h1 (by rw [tab_len]; omega)]
      refine ⟨some (.int n), by rw [rn_step _ _ _ hn]; rfl, ?_, ?_, ext_set _ h3 (Nat.le_refl _)⟩
      · rw [set_get _ _ _ (get_lt h1), rn_step _ _ _ hn, tabI_succ]
        simp
      · rw [set_ne _ _ _ _ (by omega)]
        exact h2
    · rintro r' S' ⟨o, rfl, h1, h2, h3⟩
      simp only [P_seq, P_if, P_ret, P_expr, P_nil, P_asg, P_gNm, P_par, P_aug, P_gSub, P_gsNil, P_gsCons, P_loc, P_eK, P_e1, P_e2, P_eT, P_aNil, P_aCons, P_call, P_tup, P_lst, P_eIf, P_andB, P_orB, P_notB, P_ofO, P_tV, P_tB, P_tAnd, P_tOr, P_tNot, P_tYes, P_tC, P_ch, P_sl, P_oNo, P_oYes, P_mt, P_new, P_stp, Res.P_ok, SR.P_nx, SR.P_ret, P_if_res, P_bad, wip, List.set_cons_succ, List.set_cons_zero, List.getElem?_cons_succ, List.getElem?_cons_zero, List.getElem?_nil, List.length_cons, List.length_nil, P_addI, P_subI, P_augI, P_negI, P_lt, P_le, P_gt, P_ge, P_absI, P_intI, P_intB, cEq_ii, cNe_ii, cEq_bb, cEq_ss, cEq_ts, cEq_tn, cEq_tt, cNe_tt, P_sumT, P_lenT, P_listT, if_true, if_false, Bool.false_eq_true]
      rw [oSl_L _ _ _ _ _ _ h1, cutA_last]
      simp only [P_seq, P_if, P_ret, P_expr, P_nil, P_asg, P_gNm, P_par, P_aug, P_gSub, P_gsNil, P_gsCons, P_loc, P_eK, P_e1, P_e2, P_eT, P_aNil, P_aCons, P_call, P_tup, P_lst, P_eIf, P_andB, P_orB, P_notB, P_ofO, P_tV, P_tB, P_tAnd, P_tOr, P_tNot, P_tYes, P_tC, P_ch, P_sl, P_oNo, P_oYes, P_mt, P_new, P_stp, Res.P_ok, SR.P_nx, SR.P_ret, P_if_res, P_bad, wip, List.set_cons_succ, List.set_cons_zero, List.getElem?_cons_succ, List.getElem?_cons_zero, List.getElem?_nil, List.length_cons, List.length_nil, P_addI, P_subI, P_augI, P_negI, P_lt, P_le, P_gt, P_ge, P_absI, P_intI, P_intB, cEq_ii, cNe_ii, cEq_bb, cEq_ss, cEq_ts, cEq_tn, cEq_tt, cNe_tt, P_sumT, P_lenT, P_listT, if_true, if_false, Bool.false_eq_true]
      have e6 : (tab (iv L'.reverse).length (rn L')).dropLast = iv (tabI L'.length (rn L')).dropLast := by
        have : (iv L'.reverse).length = L'.length := by simp
        rw [this]
        simp [List.map_dropLast]
      rw [e6, oRev_L _ _ _ _ (app_new _ _)]
      have e7 : (tabI L'.length (rn L')).dropLast.reverse = wr L' := by
        rw [← List.tail_reverse, rn_rev]
        cases L' <;> rfl
      simp only [P_seq, P_if, P_ret, P_expr, P_nil, P_asg, P_gNm, P_par, P_aug, P_gSub, P_gsNil, P_gsCons, P_loc, P_eK, P_e1, P_e2, P_eT, P_aNil, P_aCons, P_call, P_tup, P_lst, P_eIf, P_andB, P_orB, P_notB, P_ofO, P_tV, P_tB, P_tAnd, P_tOr, P_tNot, P_tYes, P_tC, P_ch, P_sl, P_oNo, P_oYes, P_mt, P_new, P_stp, Res.P_ok, SR.P_nx, SR.P_ret, P_if_res, P_bad, wip, List.set_cons_succ, List.set_cons_zero, List.getElem?_cons_succ, List.getElem?_cons_zero, List.getElem?_nil, List.length_cons, List.length_nil, P_addI, P_subI, P_augI, P_negI, P_lt, P_le, P_gt, P_ge, P_absI, P_intI, P_intB, cEq_ii, cNe_ii, cEq_bb, cEq_ss, cEq_ts, cEq_tn, cEq_tt, cNe_tt, P_sumT, P_lenT, P_listT, if_true, if_false, Bool.false_eq_true, e7]
      have : (e : Int) - ((j + 1 : Nat) : Int) + 1 = (e : Int) - (j : Int) := by omega
      rw [this]
      exact ⟨wr L', _, _, _, _, hE', by omega, by rw [wr_len]; omega, rfl, app_new _ _, e2.trans (h3.trans ((Ext.app _ _).trans (Ext.app _ _)))⟩
end Mc.Lk83
end
section
set_option Elab.async false
set_option linter.all false
set_option maxRecDepth 100000
namespace Mc.Lk83
open PySem Mc.Py
/-! ### the dice -/
def Dice (a : Nat) (S : Sto) : Prop := ∃ x y z : Int, S[a]? = some (.lst false [.int x, .int y, .int z])
theorem oIx_L (a : Nat) (lk : Bool) (xs : List AV) (i : Int) (v : AV) (S : Sto) (hS : S[a]? = some (.lst lk xs)) (h : L2.atI xs i = some v) : oIx (.ref a) (.int i) S = .ok v S := by
  unfold oIx
  simp only [hS]
  rw [h]
  rfl
theorem oSet_L (a : Nat) (xs : List AV) (i : Int) (k : Nat) (v : AV) (S : Sto) (hS : S[a]? = some (.lst false xs)) (h : L2.ixN xs.length i = some k) : oSet (.ref a) (.int i) v S = .ok () (S.set a (.lst false (xs.set k v))) := by
  unfold oSet
  simp only [hS]
  rw [h]
theorem x_roll (a : Nat) (t : Nat) (S : Sto) (hd : Dice a S) (ht : 0 < t) (ht' : t < 1000) (Q : AV → Sto → Prop)
    (h : ∀ (k : Nat) S', k < t → Kp a S S' → Dice a S' → Q (.int k) S') : (d_q_roll [.ref a, .int t] S).P Q := by
  obtain ⟨x, y, z, hS⟩ := hd
  have hal := get_lt hS
  refine P_mkF [some (.ref a), some (.int t), none, none, none] rfl ?_
  have fin : ∀ (i : Int) S', Kp a S S' → Dice a S' → Q (.int (i % (t : Int))) S' := fun i S' h1 h2 => by
    have h3 : 0 ≤ i % (t : Int) := Int.emod_nonneg _ (by omega)
    have h4 : i % (t : Int) < t := Int.emod_lt_of_pos _ (by omega)
    have := h (i % (t : Int)).toNat S' (by omega) h1 h2
    rwa [Int.toNat_of_nonneg h3] at this
  have e0 : oIx (.ref a) (.int 0) S = .ok (.int x) S := oIx_L _ _ _ _ _ _ hS rfl
  simp only [P_seq, P_if, P_ret, P_expr, P_nil, P_asg, P_gNm, P_par, P_aug, P_gSub, P_gsNil, P_gsCons, P_loc, P_eK, P_e1, P_e2, P_eT, P_aNil, P_aCons, P_call, P_tup, P_lst, P_eIf, P_andB, P_orB, P_notB, P_ofO, P_tV, P_tB, P_tAnd, P_tOr, P_tNot, P_tYes, P_tC, P_ch, P_sl, P_oNo, P_oYes, P_mt, P_new, P_stp, Res.P_ok, SR.P_nx, SR.P_ret, P_if_res, P_bad, wip, List.set_cons_succ, List.set_cons_zero, List.getElem?_cons_succ, List.getElem?_cons_zero, List.getElem?_nil, List.length_cons, List.length_nil, P_addI, P_subI, P_augI, P_negI, P_lt, P_le, P_gt, P_ge, P_absI, P_intI, P_intB, cEq_ii, cNe_ii, cEq_bb, cEq_ss, cEq_ts, cEq_tn, cEq_tt, cNe_tt, P_sumT, P_lenT, P_listT, if_true, if_false, Bool.false_eq_true, e0]
  by_cases hx : 0 < x
  · rw [decide_eq_true hx]
    simp only [P_seq, P_if, P_ret, P_expr, P_nil, P_asg, P_gNm, P_par, P_aug, P_gSub, P_gsNil, P_gsCons, P_loc, P_eK, P_e1, P_e2, P_eT, P_aNil, P_aCons, P_call, P_tup, P_lst, P_eIf, P_andB, P_orB, P_notB, P_ofO, P_tV, P_tB, P_tAnd, P_tOr, P_tNot, P_tYes, P_tC, P_ch, P_sl, P_oNo, P_oYes, P_mt, P_new, P_stp, Res.P_ok, SR.P_nx, SR.P_ret, P_if_res, P_bad, wip, List.set_cons_succ, List.set_cons_zero, List.getElem?_cons_succ, List.getElem?_cons_zero, List.getElem?_nil, List.length_cons, List.length_nil, P_addI, P_subI, P_augI, P_negI, P_lt, P_le, P_gt, P_ge, P_absI, P_intI, P_intB, cEq_ii, cNe_ii, cEq_bb, cEq_ss, cEq_ts, cEq_tn, cEq_tt, cNe_tt, P_sumT, P_lenT, P_listT, if_true, if_false, Bool.false_eq_true, e0]
    rw [P_modI _ _ _ _ (by omega)]
    simp only [P_seq, P_if, P_ret, P_expr, P_nil, P_asg, P_gNm, P_par, P_aug, P_gSub, P_gsNil, P_gsCons, P_loc, P_eK, P_e1, P_e2, P_eT, P_aNil, P_aCons, P_call, P_tup, P_lst, P_eIf, P_andB, P_orB, P_notB, P_ofO, P_tV, P_tB, P_tAnd, P_tOr, P_tNot, P_tYes, P_tC, P_ch, P_sl, P_oNo, P_oYes, P_mt, P_new, P_stp, Res.P_ok, SR.P_nx, SR.P_ret, P_if_res, P_bad, wip, List.set_cons_succ, List.set_cons_zero, List.getElem?_cons_succ, List.getElem?_cons_zero, List.getElem?_nil, List.length_cons, List.length_nil, P_addI, P_subI, P_augI, P_negI, P_lt, P_le, P_gt, P_ge, P_absI, P_intI, P_intB, cEq_ii, cNe_ii, cEq_bb, cEq_ss, cEq_ts, cEq_tn, cEq_tt, cNe_tt, P_sumT, P_lenT, P_listT, if_true, if_false, Bool.false_eq_true, e0]
    rw [P_divI _ _ _ _ (by omega) (by omega)]
    rw [oSet_L a _ _ 0 _ S hS rfl]
    try simp only [P_seq, P_if, P_ret, P_expr, P_nil, P_asg, P_gNm, P_par, P_aug, P_gSub, P_gsNil, P_gsCons, P_loc, P_eK, P_e1, P_e2, P_eT, P_aNil, P_aCons, P_call, P_tup, P_lst, P_eIf, P_andB, P_orB, P_notB, P_ofO, P_tV, P_tB, P_tAnd, P_tOr, P_tNot, P_tYes, P_tC, P_ch, P_sl, P_oNo, P_oYes, P_mt, P_new, P_stp, Res.P_ok, SR.P_nx, SR.P_ret, P_if_res, P_bad, wip, List.set_cons_succ, List.set_cons_zero, List.getElem?_cons_succ, List.getElem?_cons_zero, List.getElem?_nil, List.length_cons, List.length_nil, P_addI, P_subI, P_augI, P_negI, P_lt, P_le, P_gt, P_ge, P_absI, P_intI, P_intB, cEq_ii, cNe_ii, cEq_bb, cEq_ss, cEq_ts, cEq_tn, cEq_tt, cNe_tt, P_sumT, P_lenT, P_listT, if_true, if_false, Bool.false_eq_true]
    exact fin x _ (Kp.set _ _ _) ⟨x / t, y, z, set_get _ _ _ hal⟩
  · rw [decide_eq_false hx]
    have e2 : oIx (.ref a) (.int 2) S = .ok (.int z) S := oIx_L _ _ _ _ _ _ hS rfl
    simp only [P_seq, P_if, P_ret, P_expr, P_nil, P_asg, P_gNm, P_par, P_aug, P_gSub, P_gsNil, P_gsCons, P_loc, P_eK, P_e1, P_e2, P_eT, P_aNil, P_aCons, P_call, P_tup, P_lst, P_eIf, P_andB, P_orB, P_notB, P_ofO, P_tV, P_tB, P_tAnd, P_tOr, P_tNot, P_tYes, P_tC, P_ch, P_sl, P_oNo, P_oYes, P_mt, P_new, P_stp, Res.P_ok, SR.P_nx, SR.P_ret, P_if_res, P_bad, wip, List.set_cons_succ, List.set_cons_zero, List.getElem?_cons_succ, List.getElem?_cons_zero, List.getElem?_nil, List.length_cons, List.length_nil, P_addI, P_subI, P_augI, P_negI, P_lt, P_le, P_gt, P_ge, P_absI, P_intI, P_intB, cEq_ii, cNe_ii, cEq_bb, cEq_ss, cEq_ts, cEq_tn, cEq_tt, cNe_tt, P_sumT, P_lenT, P_listT, if_true, if_false, Bool.false_eq_true, e2]
    rw [oSet_L a _ _ 2 _ S hS rfl]
    simp only [P_seq, P_if, P_ret, P_expr, P_nil, P_asg, P_gNm, P_par, P_aug, P_gSub, P_gsNil, P_gsCons, P_loc, P_eK, P_e1, P_e2, P_eT, P_aNil, P_aCons, P_call, P_tup, P_lst, P_eIf, P_andB, P_orB, P_notB, P_ofO, P_tV, P_tB, P_tAnd, P_tOr, P_tNot, P_tYes, P_tC, P_ch, P_sl, P_oNo, P_oYes, P_mt, P_new, P_stp, Res.P_ok, SR.P_nx, SR.P_ret, P_if_res, P_bad, wip, List.set_cons_succ, List.set_cons_zero, List.getElem?_cons_succ, List.getElem?_cons_zero, List.getElem?_nil, List.length_cons, List.length_nil, P_addI, P_subI, P_augI, P_negI, P_lt, P_le, P_gt, P_ge, P_absI, P_intI, P_intB, cEq_ii, cNe_ii, cEq_bb, cEq_ss, cEq_ts, cEq_tn, cEq_tt, cNe_tt, P_sumT, P_lenT, P_listT, if_true, if_false, Bool.false_eq_true]
    have hS' := set_get S a (.lst false [AV.int x, AV.int y, AV.int (z + 1)]) hal
    have e3 : oIx (.ref a) (.int 1) (S.set a (.lst false [AV.int x, AV.int y, AV.int (z + 1)])) = .ok (.int y) _ := oIx_L _ _ _ _ _ _ hS' rfl
    have e4 : oIx (.ref a) (.int 2) (S.set a (.lst false [AV.int x, AV.int y, AV.int (z + 1)])) = .ok (.int (z + 1)) _ := oIx_L _ _ _ _ _ _ hS' rfl
    try simp only [P_seq, P_if, P_ret, P_expr, P_nil, P_asg, P_gNm, P_par, P_aug, P_gSub, P_gsNil, P_gsCons, P_loc, P_eK, P_e1, P_e2, P_eT, P_aNil, P_aCons, P_call, P_tup, P_lst, P_eIf, P_andB, P_orB, P_notB, P_ofO, P_tV, P_tB, P_tAnd, P_tOr, P_tNot, P_tYes, P_tC, P_ch, P_sl, P_oNo, P_oYes, P_mt, P_new, P_stp, Res.P_ok, SR.P_nx, SR.P_ret, P_if_res, P_bad, wip, List.set_cons_succ, List.set_cons_zero, List.getElem?_cons_succ, List.getElem?_cons_zero, List.getElem?_nil, List.length_cons, List.length_nil, P_addI, P_subI, P_augI, P_negI, P_lt, P_le, P_gt, P_ge, P_absI, P_intI, P_intB, cEq_ii, cNe_ii, cEq_bb, cEq_ss, cEq_ts, cEq_tn, cEq_tt, cNe_tt, P_sumT, P_lenT, P_listT, if_true, if_false, Bool.false_eq_true, e3, e4]
    rw [P_mulS _ _ _ _ (.inl (by decide))]
    try simp only [P_seq, P_if, P_ret, P_expr, P_nil, P_asg, P_gNm, P_par, P_aug, P_gSub, P_gsNil, P_gsCons, P_loc, P_eK, P_e1, P_e2, P_eT, P_aNil, P_aCons, P_call, P_tup, P_lst, P_eIf, P_andB, P_orB, P_notB, P_ofO, P_tV, P_tB, P_tAnd, P_tOr, P_tNot, P_tYes, P_tC, P_ch, P_sl, P_oNo, P_oYes, P_mt, P_new, P_stp, Res.P_ok, SR.P_nx, SR.P_ret, P_if_res, P_bad, wip, List.set_cons_succ, List.set_cons_zero, List.getElem?_cons_succ, List.getElem?_cons_zero, List.getElem?_nil, List.length_cons, List.length_nil, P_addI, P_subI, P_augI, P_negI, P_lt, P_le, P_gt, P_ge, P_absI, P_intI, P_intB, cEq_ii, cNe_ii, cEq_bb, cEq_ss, cEq_ts, cEq_tn, cEq_tt, cNe_tt, P_sumT, P_lenT, P_listT, if_true, if_false, Bool.false_eq_true]
    rw [P_modI _ _ _ _ (by decide)]
    try simp only [P_seq, P_if, P_ret, P_expr, P_nil, P_asg, P_gNm, P_par, P_aug, P_gSub, P_gsNil, P_gsCons, P_loc, P_eK, P_e1, P_e2, P_eT, P_aNil, P_aCons, P_call, P_tup, P_lst, P_eIf, P_andB, P_orB, P_notB, P_ofO, P_tV, P_tB, P_tAnd, P_tOr, P_tNot, P_tYes, P_tC, P_ch, P_sl, P_oNo, P_oYes, P_mt, P_new, P_stp, Res.P_ok, SR.P_nx, SR.P_ret, P_if_res, P_bad, wip, List.set_cons_succ, List.set_cons_zero, List.getElem?_cons_succ, List.getElem?_cons_zero, List.getElem?_nil, List.length_cons, List.length_nil, P_addI, P_subI, P_augI, P_negI, P_lt, P_le, P_gt, P_ge, P_absI, P_intI, P_intB, cEq_ii, cNe_ii, cEq_bb, cEq_ss, cEq_ts, cEq_tn, cEq_tt, cNe_tt, P_sumT, P_lenT, P_listT, if_true, if_false, Bool.false_eq_true, e3, e4]
    have hsm : ∀ i : Int, smA (i % 2305843009213693907) = true := fun i => by
      have h3 : 0 ≤ i % (2305843009213693907 : Int) := Int.emod_nonneg _ (by decide)
      have h4 : i % (2305843009213693907 : Int) < 2305843009213693907 := Int.emod_lt_of_pos _ (by decide)
      unfold smA
      simp only [Bool.and_eq_true, decide_eq_true_eq]
      omega
    rw [P_mulS _ _ _ _ (.inl (hsm _))]
    try simp only [P_seq, P_if, P_ret, P_expr, P_nil, P_asg, P_gNm, P_par, P_aug, P_gSub, P_gsNil, P_gsCons, P_loc, P_eK, P_e1, P_e2, P_eT, P_aNil, P_aCons, P_call, P_tup, P_lst, P_eIf, P_andB, P_orB, P_notB, P_ofO, P_tV, P_tB, P_tAnd, P_tOr, P_tNot, P_tYes, P_tC, P_ch, P_sl, P_oNo, P_oYes, P_mt, P_new, P_stp, Res.P_ok, SR.P_nx, SR.P_ret, P_if_res, P_bad, wip, List.set_cons_succ, List.set_cons_zero, List.getElem?_cons_succ, List.getElem?_cons_zero, List.getElem?_nil, List.length_cons, List.length_nil, P_addI, P_subI, P_augI, P_negI, P_lt, P_le, P_gt, P_ge, P_absI, P_intI, P_intB, cEq_ii, cNe_ii, cEq_bb, cEq_ss, cEq_ts, cEq_tn, cEq_tt, cNe_tt, P_sumT, P_lenT, P_listT, if_true, if_false, Bool.false_eq_true, e3, e4]
    rw [P_mulS _ _ _ _ (.inl (by decide))]
    try simp only [P_seq, P_if, P_ret, P_expr, P_nil, P_asg, P_gNm, P_par, P_aug, P_gSub, P_gsNil, P_gsCons, P_loc, P_eK, P_e1, P_e2, P_eT, P_aNil, P_aCons, P_call, P_tup, P_lst, P_eIf, P_andB, P_orB, P_notB, P_ofO, P_tV, P_tB, P_tAnd, P_tOr, P_tNot, P_tYes, P_tC, P_ch, P_sl, P_oNo, P_oYes, P_mt, P_new, P_stp, Res.P_ok, SR.P_nx, SR.P_ret, P_if_res, P_bad, wip, List.set_cons_succ, List.set_cons_zero, List.getElem?_cons_succ, List.getElem?_cons_zero, List.getElem?_nil, List.length_cons, List.length_nil, P_addI, P_subI, P_augI, P_negI, P_lt, P_le, P_gt, P_ge, P_absI, P_intI, P_intB, cEq_ii, cNe_ii, cEq_bb, cEq_ss, cEq_ts, cEq_tn, cEq_tt, cNe_tt, P_sumT, P_lenT, P_listT, if_true, if_false, Bool.false_eq_true]
    rw [P_modI _ _ _ _ (by decide)]
    try simp only [P_seq, P_if, P_ret, P_expr, P_nil, P_asg, P_gNm, P_par, P_aug, P_gSub, P_gsNil, P_gsCons, P_loc, P_eK, P_e1, P_e2, P_eT, P_aNil, P_aCons, P_call, P_tup, P_lst, P_eIf, P_andB, P_orB, P_notB, P_ofO, P_tV, P_tB, P_tAnd, P_tOr, P_tNot, P_tYes, P_tC, P_ch, P_sl, P_oNo, P_oYes, P_mt, P_new, P_stp, Res.P_ok, SR.P_nx, SR.P_ret, P_if_res, P_bad, wip, List.set_cons_succ, List.set_cons_zero, List.getElem?_cons_succ, List.getElem?_cons_zero, List.getElem?_nil, List.length_cons, List.length_nil, P_addI, P_subI, P_augI, P_negI, P_lt, P_le, P_gt, P_ge, P_absI, P_intI, P_intB, cEq_ii, cNe_ii, cEq_bb, cEq_ss, cEq_ts, cEq_tn, cEq_tt, cNe_tt, P_sumT, P_lenT, P_listT, if_true, if_false, Bool.false_eq_true]
    rw [P_mulS _ _ _ _ (.inr (by decide))]
    try simp only [P_seq, P_if, P_ret, P_expr, P_nil, P_asg, P_gNm, P_par, P_aug, P_gSub, P_gsNil, P_gsCons, P_loc, P_eK, P_e1, P_e2, P_eT, P_aNil, P_aCons, P_call, P_tup, P_lst, P_eIf, P_andB, P_orB, P_notB, P_ofO, P_tV, P_tB, P_tAnd, P_tOr, P_tNot, P_tYes, P_tC, P_ch, P_sl, P_oNo, P_oYes, P_mt, P_new, P_stp, Res.P_ok, SR.P_nx, SR.P_ret, P_if_res, P_bad, wip, List.set_cons_succ, List.set_cons_zero, List.getElem?_cons_succ, List.getElem?_cons_zero, List.getElem?_nil, List.length_cons, List.length_nil, P_addI, P_subI, P_augI, P_negI, P_lt, P_le, P_gt, P_ge, P_absI, P_intI, P_intB, cEq_ii, cNe_ii, cEq_bb, cEq_ss, cEq_ts, cEq_tn, cEq_tt, cNe_tt, P_sumT, P_lenT, P_listT, if_true, if_false, Bool.false_eq_true]
    rw [P_divI _ _ _ _ (by decide) (by decide)]
    try simp only [P_seq, P_if, P_ret, P_expr, P_nil, P_asg, P_gNm, P_par, P_aug, P_gSub, P_gsNil, P_gsCons, P_loc, P_eK, P_e1, P_e2, P_eT, P_aNil, P_aCons, P_call, P_tup, P_lst, P_eIf, P_andB, P_orB, P_notB, P_ofO, P_tV, P_tB, P_tAnd, P_tOr, P_tNot, P_tYes, P_tC, P_ch, P_sl, P_oNo, P_oYes, P_mt, P_new, P_stp, Res.P_ok, SR.P_nx, SR.P_ret, P_if_res, P_bad, wip, List.set_cons_succ, List.set_cons_zero, List.getElem?_cons_succ, List.getElem?_cons_zero, List.getElem?_nil, List.length_cons, List.length_nil, P_addI, P_subI, P_augI, P_negI, P_lt, P_le, P_gt, P_ge, P_absI, P_intI, P_intB, cEq_ii, cNe_ii, cEq_bb, cEq_ss, cEq_ts, cEq_tn, cEq_tt, cNe_tt, P_sumT, P_lenT, P_listT, if_true, if_false, Bool.false_eq_true]
    rw [P_modI _ _ _ _ (by omega)]
    exact fin _ _ (Kp.set _ _ _) ⟨x, y, z + 1, hS'⟩
theorem x_pick (a b : Nat) (xs : List AV) (S : Sto) (hd : Dice a S) (hab : b ≠ a) (hb : S[b]? = some (.lst false xs)) (h0 : xs ≠ []) (hl : xs.length < 1000) (Q : AV → Sto → Prop)
    (h : ∀ v ∈ xs, ∀ S', Kp a S S' → Dice a S' → Q v S') : (d_q_pick [.ref a, .ref b] S).P Q := by
  refine P_mkF [some (.ref a), some (.ref b)] rfl ?_
  simp only [P_seq, P_if, P_ret, P_expr, P_nil, P_asg, P_gNm, P_par, P_aug, P_gSub, P_gsNil, P_gsCons, P_loc, P_eK, P_e1, P_e2, P_eT, P_aNil, P_aCons, P_call, P_tup, P_lst, P_eIf, P_andB, P_orB, P_notB, P_ofO, P_tV, P_tB, P_tAnd, P_tOr, P_tNot, P_tYes, P_tC, P_ch, P_sl, P_oNo, P_oYes, P_mt, P_new, P_stp, Res.P_ok, SR.P_nx, SR.P_ret, P_if_res, P_bad, wip, List.set_cons_succ, List.set_cons_zero, List.getElem?_cons_succ, List.getElem?_cons_zero, List.getElem?_nil, List.length_cons, List.length_nil, P_addI, P_subI, P_augI, P_negI, P_lt, P_le, P_gt, P_ge, P_absI, P_intI, P_intB, cEq_ii, cNe_ii, cEq_bb, cEq_ss, cEq_ts, cEq_tn, cEq_tt, cNe_tt, P_sumT, P_lenT, P_listT, if_true, if_false, Bool.false_eq_true, P_lenL _ _ _ _ hb]
  refine x_roll a xs.length S hd (List.length_pos_iff.2 h0) hl _ fun k S' hk e1 e2 => ?_
  rw [oIx_L b _ xs _ xs[k] _ (e1 b _ hab hb) (by rw [atI_nat _ _ hk, List.getElem?_eq_getElem hk]), Res.P_ok]
  exact h _ (List.getElem_mem ..) S' e1 e2
def P16 : Int := 10 ^ 16
def P60 : Int := 10 ^ 60
def P120 : Int := 10 ^ 60 * 10 ^ 60
theorem pow16 (S : Sto) : oPow (.int 10) (.int 16) S = .ok (.int P16) S := rfl
theorem pow60 (S : Sto) : oPow (.int 10) (.int 60) S = .ok (.int P60) S := rfl
theorem mul60 (S : Sto) : oMul (.int P60) (.int P60) S = .ok (.int P120) S := by
  have h : (smA P60 || smA P60 || decide (P60.natAbs.log2 + P60.natAbs.log2 < 1000000)) = true := by decide +kernel
  show (if (smA P60 || smA P60 || decide (P60.natAbs.log2 + P60.natAbs.log2 < 1000000)) = true then Res.ok (AV.int (P60 * P60)) S else .bad) = _
  rw [if_pos h]
  rfl
theorem P120_pos : 0 < P120 := by decide +kernel
theorem pMax2 (x y : Int) (S : Sto) : pMax [.int x, .int y] S = .ok (.int (if y > x then y else x)) S := rfl
theorem x_dice (b : Nat) (lk : Bool) (ns : List Int) (i : Nat) (S : Sto) (hb : S[b]? = some (.lst lk (iv ns))) (Q : AV → Sto → Prop)
    (h : ∀ a S', S.length ≤ a → Ext S S' → Dice a S' → Q (.ref a) S') : (d_q_dice [.ref b, .int i] S).P Q := by
  refine P_mkF [some (.ref b), some (.int i), none, none] rfl ?_
  rw [P_seq]
  refine SR.P.mono (N := fun r1 S1 => S1 = S ∧ ∃ c : Int, r1 = [some (.ref b), some (.int i), some (.int c), none]) (R := fun _ _ => False) ?_ ?_ (fun _ _ h => h.elim)
  · simp only [P_seq, P_if, P_ret, P_expr, P_nil, P_asg, P_gNm, P_par, P_aug, P_gSub, P_gsNil, P_gsCons, P_loc, P_eK, P_e1, P_e2, P_eT, P_aNil, P_aCons, P_call, P_tup, P_lst, P_eIf, P_andB, P_orB, P_notB, P_ofO, P_tV, P_tB, P_tAnd, P_tOr, P_tNot, P_tYes, P_tC, P_ch, P_sl, P_oNo, P_oYes, P_mt, P_new, P_stp, Res.P_ok, SR.P_nx, SR.P_ret, P_if_res, P_bad, wip, List.set_cons_succ, List.set_cons_zero, List.getElem?_cons_succ, List.getElem?_cons_zero, List.getElem?_nil, List.length_cons, List.length_nil, P_addI, P_subI, P_augI, P_negI, P_lt, P_le, P_gt, P_ge, P_absI, P_intI, P_intB, cEq_ii, cNe_ii, cEq_bb, cEq_ss, cEq_ts, cEq_tn, cEq_tt, cNe_tt, P_sumT, P_lenT, P_listT, if_true, if_false, Bool.false_eq_true, P_lenL _ _ _ _ hb]
    by_cases hi : (i : Int) < (iv ns).length
    · have hi' : i < (iv ns).length := by omega
      have hi2 : i < ns.length := by simpa using hi'
      rw [decide_eq_true hi]
      simp only [if_true]
      rw [oIx_L b _ _ _ (.int ns[i]) _ hb (by rw [atI_nat _ _ hi']; simp [hi2])]
      try simp only [P_seq, P_if, P_ret, P_expr, P_nil, P_asg, P_gNm, P_par, P_aug, P_gSub, P_gsNil, P_gsCons, P_loc, P_eK, P_e1, P_e2, P_eT, P_aNil, P_aCons, P_call, P_tup, P_lst, P_eIf, P_andB, P_orB, P_notB, P_ofO, P_tV, P_tB, P_tAnd, P_tOr, P_tNot, P_tYes, P_tC, P_ch, P_sl, P_oNo, P_oYes, P_mt, P_new, P_stp, Res.P_ok, SR.P_nx, SR.P_ret, P_if_res, P_bad, wip, List.set_cons_succ, List.set_cons_zero, List.getElem?_cons_succ, List.getElem?_cons_zero, List.getElem?_nil, List.length_cons, List.length_nil, P_addI, P_subI, P_augI, P_negI, P_lt, P_le, P_gt, P_ge, P_absI, P_intI, P_intB, cEq_ii, cNe_ii, cEq_bb, cEq_ss, cEq_ts, cEq_tn, cEq_tt, cNe_tt, P_sumT, P_lenT, P_listT, if_true, if_false, Bool.false_eq_true]
      exact ⟨trivial, _, rfl⟩
    · rw [decide_eq_false hi]
      simp only [Bool.false_eq_true, if_false]
      rw [P_mulS _ _ _ _ (.inl (by decide))]
      try simp only [P_seq, P_if, P_ret, P_expr, P_nil, P_asg, P_gNm, P_par, P_aug, P_gSub, P_gsNil, P_gsCons, P_loc, P_eK, P_e1, P_e2, P_eT, P_aNil, P_aCons, P_call, P_tup, P_lst, P_eIf, P_andB, P_orB, P_notB, P_ofO, P_tV, P_tB, P_tAnd, P_tOr, P_tNot, P_tYes, P_tC, P_ch, P_sl, P_oNo, P_oYes, P_mt, P_new, P_stp, Res.P_ok, SR.P_nx, SR.P_ret, P_if_res, P_bad, wip, List.set_cons_succ, List.set_cons_zero, List.getElem?_cons_succ, List.getElem?_cons_zero, List.getElem?_nil, List.length_cons, List.length_nil, P_addI, P_subI, P_augI, P_negI, P_lt, P_le, P_gt, P_ge, P_absI, P_intI, P_intB, cEq_ii, cNe_ii, cEq_bb, cEq_ss, cEq_ts, cEq_tn, cEq_tt, cNe_tt, P_sumT, P_lenT, P_listT, if_true, if_false, Bool.false_eq_true]
      exact ⟨trivial, _, rfl⟩
  · rintro r1 S1 ⟨rfl, c, rfl⟩
    simp only [P_seq, P_if, P_ret, P_expr, P_nil, P_asg, P_gNm, P_par, P_aug, P_gSub, P_gsNil, P_gsCons, P_loc, P_eK, P_e1, P_e2, P_eT, P_aNil, P_aCons, P_call, P_tup, P_lst, P_eIf, P_andB, P_orB, P_notB, P_ofO, P_tV, P_tB, P_tAnd, P_tOr, P_tNot, P_tYes, P_tC, P_ch, P_sl, P_oNo, P_oYes, P_mt, P_new, P_stp, Res.P_ok, SR.P_nx, SR.P_ret, P_if_res, P_bad, wip, List.set_cons_succ, List.set_cons_zero, List.getElem?_cons_succ, List.getElem?_cons_zero, List.getElem?_nil, List.length_cons, List.length_nil, P_addI, P_subI, P_augI, P_negI, P_lt, P_le, P_gt, P_ge, P_absI, P_intI, P_intB, cEq_ii, cNe_ii, cEq_bb, cEq_ss, cEq_ts, cEq_tn, cEq_tt, cNe_tt, P_sumT, P_lenT, P_listT, if_true, if_false, Bool.false_eq_true, pow16, pow60, mul60, pMax2]
    rw [P_modI _ _ _ _ P120_pos]
    try simp only [P_seq, P_if, P_ret, P_expr, P_nil, P_asg, P_gNm, P_par, P_aug, P_gSub, P_gsNil, P_gsCons, P_loc, P_eK, P_e1, P_e2, P_eT, P_aNil, P_aCons, P_call, P_tup, P_lst, P_eIf, P_andB, P_orB, P_notB, P_ofO, P_tV, P_tB, P_tAnd, P_tOr, P_tNot, P_tYes, P_tC, P_ch, P_sl, P_oNo, P_oYes, P_mt, P_new, P_stp, Res.P_ok, SR.P_nx, SR.P_ret, P_if_res, P_bad, wip, List.set_cons_succ, List.set_cons_zero, List.getElem?_cons_succ, List.getElem?_cons_zero, List.getElem?_nil, List.length_cons, List.length_nil, P_addI, P_subI, P_augI, P_negI, P_lt, P_le, P_gt, P_ge, P_absI, P_intI, P_intB, cEq_ii, cNe_ii, cEq_bb, cEq_ss, cEq_ts, cEq_tn, cEq_tt, cNe_tt, P_sumT, P_lenT, P_listT, if_true, if_false, Bool.false_eq_true]
    rw [P_modI _ _ _ _ (by decide)]
    try simp only [P_seq, P_if, P_ret, P_expr, P_nil, P_asg, P_gNm, P_par, P_aug, P_gSub, P_gsNil, P_gsCons, P_loc, P_eK, P_e1, P_e2, P_eT, P_aNil, P_aCons, P_call, P_tup, P_lst, P_eIf, P_andB, P_orB, P_notB, P_ofO, P_tV, P_tB, P_tAnd, P_tOr, P_tNot, P_tYes, P_tC, P_ch, P_sl, P_oNo, P_oYes, P_mt, P_new, P_stp, Res.P_ok, SR.P_nx, SR.P_ret, P_if_res, P_bad, wip, List.set_cons_succ, List.set_cons_zero, List.getElem?_cons_succ, List.getElem?_cons_zero, List.getElem?_nil, List.length_cons, List.length_nil, P_addI, P_subI, P_augI, P_negI, P_lt, P_le, P_gt, P_ge, P_absI, P_intI, P_intB, cEq_ii, cNe_ii, cEq_bb, cEq_ss, cEq_ts, cEq_tn, cEq_tt, cNe_tt, P_sumT, P_lenT, P_listT, if_true, if_false, Bool.false_eq_true]
    rw [P_mulS _ _ _ _ (.inr (by decide))]
    try simp only [P_seq, P_if, P_ret, P_expr, P_nil, P_asg, P_gNm, P_par, P_aug, P_gSub, P_gsNil, P_gsCons, P_loc, P_eK, P_e1, P_e2, P_eT, P_aNil, P_aCons, P_call, P_tup, P_lst, P_eIf, P_andB, P_orB, P_notB, P_ofO, P_tV, P_tB, P_tAnd, P_tOr, P_tNot, P_tYes, P_tC, P_ch, P_sl, P_oNo, P_oYes, P_mt, P_new, P_stp, Res.P_ok, SR.P_nx, SR.P_ret, P_if_res, P_bad, wip, List.set_cons_succ, List.set_cons_zero, List.getElem?_cons_succ, List.getElem?_cons_zero, List.getElem?_nil, List.length_cons, List.length_nil, P_addI, P_subI, P_augI, P_negI, P_lt, P_le, P_gt, P_ge, P_absI, P_intI, P_intB, cEq_ii, cNe_ii, cEq_bb, cEq_ss, cEq_ts, cEq_tn, cEq_tt, cNe_tt, P_sumT, P_lenT, P_listT, if_true, if_false, Bool.false_eq_true]
    rw [P_mulS _ _ _ _ (.inl (by decide))]
    try simp only [P_seq, P_if, P_ret, P_expr, P_nil, P_asg, P_gNm, P_par, P_aug, P_gSub, P_gsNil, P_gsCons, P_loc, P_eK, P_e1, P_e2, P_eT, P_aNil, P_aCons, P_call, P_tup, P_lst, P_eIf, P_andB, P_orB, P_notB, P_ofO, P_tV, P_tB, P_tAnd, P_tOr, P_tNot, P_tYes, P_tC, P_ch, P_sl, P_oNo, P_oYes, P_mt, P_new, P_stp, Res.P_ok, SR.P_nx, SR.P_ret, P_if_res, P_bad, wip, List.set_cons_succ, List.set_cons_zero, List.getElem?_cons_succ, List.getElem?_cons_zero, List.getElem?_nil, List.length_cons, List.length_nil, P_addI, P_subI, P_augI, P_negI, P_lt, P_le, P_gt, P_ge, P_absI, P_intI, P_intB, cEq_ii, cNe_ii, cEq_bb, cEq_ss, cEq_ts, cEq_tn, cEq_tt, cNe_tt, P_sumT, P_lenT, P_listT, if_true, if_false, Bool.false_eq_true]
    rw [P_mulS _ _ _ _ (.inl (by decide))]
    try simp only [P_seq, P_if, P_ret, P_expr, P_nil, P_asg, P_gNm, P_par, P_aug, P_gSub, P_gsNil, P_gsCons, P_loc, P_eK, P_e1, P_e2, P_eT, P_aNil, P_aCons, P_call, P_tup, P_lst, P_eIf, P_andB, P_orB, P_notB, P_ofO, P_tV, P_tB, P_tAnd, P_tOr, P_tNot, P_tYes, P_tC, P_ch, P_sl, P_oNo, P_oYes, P_mt, P_new, P_stp, Res.P_ok, SR.P_nx, SR.P_ret, P_if_res, P_bad, wip, List.set_cons_succ, List.set_cons_zero, List.getElem?_cons_succ, List.getElem?_cons_zero, List.getElem?_nil, List.length_cons, List.length_nil, P_addI, P_subI, P_augI, P_negI, P_lt, P_le, P_gt, P_ge, P_absI, P_intI, P_intB, cEq_ii, cNe_ii, cEq_bb, cEq_ss, cEq_ts, cEq_tn, cEq_tt, cNe_tt, P_sumT, P_lenT, P_listT, if_true, if_false, Bool.false_eq_true, szl]
    simp only [show (0 + 1 + 1 + 1 : Nat) ≤ 16777216 from by omega, if_true]
    exact h _ _ (Nat.le_refl _) (Ext.app _ _) ⟨_, _, _, app_new _ _⟩
end Mc.Lk83
end
section
set_option Elab.async false
set_option linter.all false
set_option maxRecDepth 100000
/-! K83_r: factor tables by the machine -/
namespace Mc.Lk83
open PySem Mc.Py
theorem sm_of {i : Int} (h : 0 ≤ i) (h' : i < 10001) : smA i = true := by
  unfold smA
  simp only [Bool.and_eq_true, decide_eq_true_eq]
  omega
theorem P_gTup2 (t : List AV → Env → Sto → SR) (x y : AV) (r : Env) (S : Sto) (N : Env → Sto → Prop) (R : AV → Sto → Prop) : (gTup 2 t (.tup [x, y]) r S).P N R = (t [x, y] r S).P N R := nrf rfl
theorem G_big : (100000 : Int) < G := by decide +kernel
def kvA (k : KV) : List (AV × AV) := k.map fun p => (.int (p.1 : Int), .int p.2)
theorem P_lcD {o : DE} {vs : List Nat} {any : Bool} {g : DG} {t : DT} {a : DE} {r : Env} {S : Sto} {d : Nat} {kvs : List (AV × AV)} {Q : AV → Sto → Prop} (uf : AV × AV → AV) (F : AV → List AV)
    (ho : ∀ S, o r S = .ok (.ref d) S) (hS : S[d]? = some (.dct false kvs)) (ha : any = true ∨ ∀ q ∈ kvs, isTK q.1 = false) (hl : kvs.length < 10000)
    (step : ∀ v ∈ kvs.map uf, lcStp g t a v (wip r vs) (S.set d (.dct true kvs)) fun ys S2 => S2 = S.set d (.dct true kvs) ∧ ys = F v)
    (fin : ∀ S', Ext S S' → S'[S.length]? = some (.lst false ((kvs.map uf).flatMap F)) → Q (.ref S.length) S') : (lkE o (eLc vs (iDct any (uDct uf) o) g t a) r S).P Q := by
  have hd := get_lt hS
  refine P_lkE2 (ho S) hS ?_
  refine P_lc_pure (kvs.map uf) F (by unfold LIM; simp; omega) ?_ step ?_
  · refine P_dct _ _ _ _ _ _ ?_
    rw [ho, Res.P_ok]
    exact ⟨d, kvs, rfl, set_get _ _ _ hd, ha, fun i => uDct_get (set_get _ _ _ hd) i, by trivial⟩
  · have hlen : (S.set d (.dct true kvs)).length = S.length := by simp
    have e1 := Ext.app (S.set d (.dct true kvs)) [.lst false ((kvs.map uf).flatMap F)]
    refine ⟨e1, ?_⟩
    rw [hlen]
    refine fin _ (ext_unlk hS e1) ?_
    rw [set_ne _ _ _ _ (by omega)]
    have := app_new (S.set d (.dct true kvs)) (.lst false ((kvs.map uf).flatMap F))
    rwa [hlen] at this
theorem kvA_tk (k : KV) : ∀ q ∈ kvA k, isTK q.1 = false := fun q hq => by
  obtain ⟨p, _, rfl⟩ := List.mem_map.1 hq
  rfl
theorem kvA_len (k : KV) : (kvA k).length = k.length := by simp [kvA]
theorem flatMap_map' {α β γ : Type} (l : List α) (f : α → β) (g : β → List γ) : (l.map f).flatMap g = l.flatMap fun x => g (f x) := by
  induction l with
  | nil => rfl
  | cons a l ih => simp [ih]
theorem mem_kv {k : KV} {uf : AV × AV → AV} {v : AV} (h : v ∈ (kvA k).map uf) : ∃ p ∈ k, v = uf (.int (p.1 : Int), .int p.2) := by
  obtain ⟨q, hq, rfl⟩ := List.mem_map.1 h
  obtain ⟨p, hp, rfl⟩ := List.mem_map.1 hq
  exact ⟨p, hp, rfl⟩
/-- tables whose keys are in bounds -/
def Bd (k : KV) : Prop := (∀ p ∈ k, 1 ≤ p.1 ∧ p.1 ≤ 10000 ∧ p.2 ≠ 0 ∧ p.2.natAbs ≤ 1000) ∧ k.length ≤ 60
theorem flat_iv1 (k : KV) (f : Nat × Int → Int) (F : AV → List AV) (uf : AV × AV → AV) (h : ∀ p ∈ k, F (uf (.int (p.1 : Int), .int p.2)) = [.int (f p)]) : ((kvA k).map uf).flatMap F = iv (k.map f) := by
  induction k with
  | nil => rfl
  | cons p k ih =>
    show F (uf (.int (p.1 : Int), .int p.2)) ++ (((kvA k).map uf).flatMap F) = _
    rw [h p (List.mem_cons_self ..), ih fun q hq => h q (List.mem_cons_of_mem _ hq)]
    rfl
theorem x_degree (k : KV) (d : Nat) (S : Sto) (hb : Bd k) (hS : S[d]? = some (.dct false (kvA k))) (Q : AV → Sto → Prop)
    (h : ∀ S', Ext S S' → Q (.int (degK k)) S') : (d_degree_of_table [.ref d] S).P Q := by
  refine P_mkF [some (.ref d), none, none] rfl ?_
  simp only [P_seq, P_if, P_ret, P_expr, P_nil, P_asg, P_gNm, P_par, P_aug, P_gSub, P_gsNil, P_gsCons, P_loc, P_eK, P_e1, P_e2, P_eT, P_aNil, P_aCons, P_call, P_tup, P_lst, P_eIf, P_andB, P_orB, P_notB, P_ofO, P_tV, P_tB, P_tAnd, P_tOr, P_tNot, P_tYes, P_tC, P_ch, P_sl, P_oNo, P_oYes, P_mt, P_new, P_stp, Res.P_ok, SR.P_nx, SR.P_ret, P_if_res, P_bad, wip, List.set_cons_succ, List.set_cons_zero, List.getElem?_cons_succ, List.getElem?_cons_zero, List.getElem?_nil, List.length_cons, List.length_nil, P_addI, P_subI, P_augI, P_negI, P_lt, P_le, P_gt, P_ge, P_absI, P_intI, P_intB, cEq_ii, cNe_ii, cEq_bb, cEq_ss, cEq_ts, cEq_tn, cEq_tt, cNe_tt, P_sumT, P_lenT, P_listT, if_true, if_false, Bool.false_eq_true]
  refine P_lcD (fun p => .tup [p.1, p.2]) (fun v => match v with | .tup [.int i, .int j] => [.int (i * j)] | _ => []) (fun _ => rfl) hS (.inr (kvA_tk k)) (by rw [kvA_len]; have := hb.2; omega) ?_ ?_
  · intro v hv
    obtain ⟨p, hp, rfl⟩ := mem_kv hv
    have hp' := hb.1 p hp
    unfold lcStp
    rw [P_gTup2]
    simp only [P_seq, P_if, P_ret, P_expr, P_nil, P_asg, P_gNm, P_par, P_aug, P_gSub, P_gsNil, P_gsCons, P_loc, P_eK, P_e1, P_e2, P_eT, P_aNil, P_aCons, P_call, P_tup, P_lst, P_eIf, P_andB, P_orB, P_notB, P_ofO, P_tV, P_tB, P_tAnd, P_tOr, P_tNot, P_tYes, P_tC, P_ch, P_sl, P_oNo, P_oYes, P_mt, P_new, P_stp, Res.P_ok, SR.P_nx, SR.P_ret, P_if_res, P_bad, wip, List.set_cons_succ, List.set_cons_zero, List.getElem?_cons_succ, List.getElem?_cons_zero, List.getElem?_nil, List.length_cons, List.length_nil, P_addI, P_subI, P_augI, P_negI, P_lt, P_le, P_gt, P_ge, P_absI, P_intI, P_intB, cEq_ii, cNe_ii, cEq_bb, cEq_ss, cEq_ts, cEq_tn, cEq_tt, cNe_tt, P_sumT, P_lenT, P_listT, if_true, if_false, Bool.false_eq_true]
    rw [P_mulS _ _ _ _ (.inl (sm_of (by omega) (by omega)))]
    exact ⟨by trivial, by trivial⟩
  · intro S' e1 e2
    rw [flat_iv1 k (fun p => (p.1 : Int) * p.2) _ _ fun p _ => rfl] at e2
    rw [P_sumL _ _ _ _ e2]
    exact h S' e1
theorem flat_bl1 (k : KV) (f : Nat × Int → Bool) (F : AV → List AV) (uf : AV × AV → AV) (h : ∀ p ∈ k, F (uf (.int (p.1 : Int), .int p.2)) = [.bl (f p)]) : ((kvA k).map uf).flatMap F = blsI (k.map f) := by
  induction k with
  | nil => rfl
  | cons p k ih =>
    show F (uf (.int (p.1 : Int), .int p.2)) ++ (((kvA k).map uf).flatMap F) = _
    rw [h p (List.mem_cons_self ..), ih fun q hq => h q (List.mem_cons_of_mem _ hq)]
    rfl
theorem tyN_dct (d : Nat) (kvs : List (AV × AV)) (S : Sto) (hS : S[d]? = some (.dct false kvs)) : tyN S (.ref d) = some "dict" := by
  unfold tyN
  simp only [hS]
theorem x_is_factor (k : KV) (d : Nat) (S : Sto) (hb : Bd k) (hS : S[d]? = some (.dct false (kvA k))) (Q : AV → Sto → Prop)
    (h : ∀ S', Ext S S' → Q (.bl true) S') : (d_is_factor_table [.ref d] S).P Q := by
  refine P_mkF [some (.ref d), none, none] rfl ?_
  have hl : ¬ (60 : Int) < (kvA k).length := by rw [kvA_len]; have := hb.2; omega
  simp only [P_seq, P_if, P_ret, P_expr, P_nil, P_asg, P_gNm, P_par, P_aug, P_gSub, P_gsNil, P_gsCons, P_loc, P_eK, P_e1, P_e2, P_eT, P_aNil, P_aCons, P_call, P_tup, P_lst, P_eIf, P_andB, P_orB, P_notB, P_ofO, P_tV, P_tB, P_tAnd, P_tOr, P_tNot, P_tYes, P_tC, P_ch, P_sl, P_oNo, P_oYes, P_mt, P_new, P_stp, Res.P_ok, SR.P_nx, SR.P_ret, P_if_res, P_bad, wip, List.set_cons_succ, List.set_cons_zero, List.getElem?_cons_succ, List.getElem?_cons_zero, List.getElem?_nil, List.length_cons, List.length_nil, P_addI, P_subI, P_augI, P_negI, P_lt, P_le, P_gt, P_ge, P_absI, P_intI, P_intB, cEq_ii, cNe_ii, cEq_bb, cEq_ss, cEq_ts, cEq_tn, cEq_tt, cNe_tt, P_sumT, P_lenT, P_listT, if_true, if_false, Bool.false_eq_true, P_isi (.ref d) "dict" true S (by rw [tyN_dct d _ S hS]; simp [subT]), Bool.not_true, P_lenD _ _ _ hS, decide_eq_false hl]
  refine P_lcD (fun p => p.1) (fun v => [.bl true]) (fun _ => rfl) hS (.inl rfl) (by rw [kvA_len]; have := hb.2; omega) ?_ ?_
  · intro v hv
    obtain ⟨p, hp, rfl⟩ := mem_kv hv
    have hp' := hb.1 p hp
    unfold lcStp
    simp only [P_seq, P_if, P_ret, P_expr, P_nil, P_asg, P_gNm, P_par, P_aug, P_gSub, P_gsNil, P_gsCons, P_loc, P_eK, P_e1, P_e2, P_eT, P_aNil, P_aCons, P_call, P_tup, P_lst, P_eIf, P_andB, P_orB, P_notB, P_ofO, P_tV, P_tB, P_tAnd, P_tOr, P_tNot, P_tYes, P_tC, P_ch, P_sl, P_oNo, P_oYes, P_mt, P_new, P_stp, Res.P_ok, SR.P_nx, SR.P_ret, P_if_res, P_bad, wip, List.set_cons_succ, List.set_cons_zero, List.getElem?_cons_succ, List.getElem?_cons_zero, List.getElem?_nil, List.length_cons, List.length_nil, P_addI, P_subI, P_augI, P_negI, P_lt, P_le, P_gt, P_ge, P_absI, P_intI, P_intB, cEq_ii, cNe_ii, cEq_bb, cEq_ss, cEq_ts, cEq_tn, cEq_tt, cNe_tt, P_sumT, P_lenT, P_listT, if_true, if_false, Bool.false_eq_true]
    refine x_integer _ _ rfl _ ?_
    have e : isG (.int (p.1 : Int)) = true := by
      have hG := G_big
      simp only [isG, Bool.and_eq_true, decide_eq_true_eq]
      omega
    simp only [P_seq, P_if, P_ret, P_expr, P_nil, P_asg, P_gNm, P_par, P_aug, P_gSub, P_gsNil, P_gsCons, P_loc, P_eK, P_e1, P_e2, P_eT, P_aNil, P_aCons, P_call, P_tup, P_lst, P_eIf, P_andB, P_orB, P_notB, P_ofO, P_tV, P_tB, P_tAnd, P_tOr, P_tNot, P_tYes, P_tC, P_ch, P_sl, P_oNo, P_oYes, P_mt, P_new, P_stp, Res.P_ok, SR.P_nx, SR.P_ret, P_if_res, P_bad, wip, List.set_cons_succ, List.set_cons_zero, List.getElem?_cons_succ, List.getElem?_cons_zero, List.getElem?_nil, List.length_cons, List.length_nil, P_addI, P_subI, P_augI, P_negI, P_lt, P_le, P_gt, P_ge, P_absI, P_intI, P_intB, cEq_ii, cNe_ii, cEq_bb, cEq_ss, cEq_ts, cEq_tn, cEq_tt, cNe_tt, P_sumT, P_lenT, P_listT, if_true, if_false, Bool.false_eq_true, e]
    have e1 : decide ((1 : Int) ≤ (p.1 : Int)) = true := decide_eq_true (by omega)
    have e2 : decide ((p.1 : Int) ≤ 10000) = true := decide_eq_true (by omega)
    simp only [P_seq, P_if, P_ret, P_expr, P_nil, P_asg, P_gNm, P_par, P_aug, P_gSub, P_gsNil, P_gsCons, P_loc, P_eK, P_e1, P_e2, P_eT, P_aNil, P_aCons, P_call, P_tup, P_lst, P_eIf, P_andB, P_orB, P_notB, P_ofO, P_tV, P_tB, P_tAnd, P_tOr, P_tNot, P_tYes, P_tC, P_ch, P_sl, P_oNo, P_oYes, P_mt, P_new, P_stp, Res.P_ok, SR.P_nx, SR.P_ret, P_if_res, P_bad, wip, List.set_cons_succ, List.set_cons_zero, List.getElem?_cons_succ, List.getElem?_cons_zero, List.getElem?_nil, List.length_cons, List.length_nil, P_addI, P_subI, P_augI, P_negI, P_lt, P_le, P_gt, P_ge, P_absI, P_intI, P_intB, cEq_ii, cNe_ii, cEq_bb, cEq_ss, cEq_ts, cEq_tn, cEq_tt, cNe_tt, P_sumT, P_lenT, P_listT, if_true, if_false, Bool.false_eq_true, e1, e2]
    exact ⟨by trivial, by trivial⟩
  · intro S1 e1 e2
    rw [flat_bl1 k (fun p => true) _ _ fun p _ => rfl] at e2
    rw [P_allL _ _ _ _ e2]
    have e3 : (k.map fun p => true).all id = true := by simp
    simp only [P_seq, P_if, P_ret, P_expr, P_nil, P_asg, P_gNm, P_par, P_aug, P_gSub, P_gsNil, P_gsCons, P_loc, P_eK, P_e1, P_e2, P_eT, P_aNil, P_aCons, P_call, P_tup, P_lst, P_eIf, P_andB, P_orB, P_notB, P_ofO, P_tV, P_tB, P_tAnd, P_tOr, P_tNot, P_tYes, P_tC, P_ch, P_sl, P_oNo, P_oYes, P_mt, P_new, P_stp, Res.P_ok, SR.P_nx, SR.P_ret, P_if_res, P_bad, wip, List.set_cons_succ, List.set_cons_zero, List.getElem?_cons_succ, List.getElem?_cons_zero, List.getElem?_nil, List.length_cons, List.length_nil, P_addI, P_subI, P_augI, P_negI, P_lt, P_le, P_gt, P_ge, P_absI, P_intI, P_intB, cEq_ii, cNe_ii, cEq_bb, cEq_ss, cEq_ts, cEq_tn, cEq_tt, cNe_tt, P_sumT, P_lenT, P_listT, if_true, if_false, Bool.false_eq_true, e3, Bool.not_true]
    refine P_lcD (fun p => p.2) (fun v => [.bl true]) (fun _ => rfl) (e1 _ _ hS) (.inr (kvA_tk k)) (by rw [kvA_len]; have := hb.2; omega) ?_ ?_
    · intro v hv
      obtain ⟨p, hp, rfl⟩ := mem_kv hv
      have hp' := hb.1 p hp
      unfold lcStp
      simp only [P_seq, P_if, P_ret, P_expr, P_nil, P_asg, P_gNm, P_par, P_aug, P_gSub, P_gsNil, P_gsCons, P_loc, P_eK, P_e1, P_e2, P_eT, P_aNil, P_aCons, P_call, P_tup, P_lst, P_eIf, P_andB, P_orB, P_notB, P_ofO, P_tV, P_tB, P_tAnd, P_tOr, P_tNot, P_tYes, P_tC, P_ch, P_sl, P_oNo, P_oYes, P_mt, P_new, P_stp, Res.P_ok, SR.P_nx, SR.P_ret, P_if_res, P_bad, wip, List.set_cons_succ, List.set_cons_zero, List.getElem?_cons_succ, List.getElem?_cons_zero, List.getElem?_nil, List.length_cons, List.length_nil, P_addI, P_subI, P_augI, P_negI, P_lt, P_le, P_gt, P_ge, P_absI, P_intI, P_intB, cEq_ii, cNe_ii, cEq_bb, cEq_ss, cEq_ts, cEq_tn, cEq_tt, cNe_tt, P_sumT, P_lenT, P_listT, if_true, if_false, Bool.false_eq_true]
      refine x_integer _ _ rfl _ ?_
      have e : isG (.int p.2) = true := by
        have hG := G_big
        simp only [isG, Bool.and_eq_true, decide_eq_true_eq]
        omega
      have e4 : (p.2 == 0) = false := by simpa using hp'.2.2.1
      simp only [P_seq, P_if, P_ret, P_expr, P_nil, P_asg, P_gNm, P_par, P_aug, P_gSub, P_gsNil, P_gsCons, P_loc, P_eK, P_e1, P_e2, P_eT, P_aNil, P_aCons, P_call, P_tup, P_lst, P_eIf, P_andB, P_orB, P_notB, P_ofO, P_tV, P_tB, P_tAnd, P_tOr, P_tNot, P_tYes, P_tC, P_ch, P_sl, P_oNo, P_oYes, P_mt, P_new, P_stp, Res.P_ok, SR.P_nx, SR.P_ret, P_if_res, P_bad, wip, List.set_cons_succ, List.set_cons_zero, List.getElem?_cons_succ, List.getElem?_cons_zero, List.getElem?_nil, List.length_cons, List.length_nil, P_addI, P_subI, P_augI, P_negI, P_lt, P_le, P_gt, P_ge, P_absI, P_intI, P_intB, cEq_ii, cNe_ii, cEq_bb, cEq_ss, cEq_ts, cEq_tn, cEq_tt, cNe_tt, P_sumT, P_lenT, P_listT, if_true, if_false, Bool.false_eq_true, e, e4, Bool.not_false]
      have e5 : decide ((if p.2 < 0 then -p.2 else p.2) ≤ 1000) = true := decide_eq_true (by split <;> omega)
      simp only [P_seq, P_if, P_ret, P_expr, P_nil, P_asg, P_gNm, P_par, P_aug, P_gSub, P_gsNil, P_gsCons, P_loc, P_eK, P_e1, P_e2, P_eT, P_aNil, P_aCons, P_call, P_tup, P_lst, P_eIf, P_andB, P_orB, P_notB, P_ofO, P_tV, P_tB, P_tAnd, P_tOr, P_tNot, P_tYes, P_tC, P_ch, P_sl, P_oNo, P_oYes, P_mt, P_new, P_stp, Res.P_ok, SR.P_nx, SR.P_ret, P_if_res, P_bad, wip, List.set_cons_succ, List.set_cons_zero, List.getElem?_cons_succ, List.getElem?_cons_zero, List.getElem?_nil, List.length_cons, List.length_nil, P_addI, P_subI, P_augI, P_negI, P_lt, P_le, P_gt, P_ge, P_absI, P_intI, P_intB, cEq_ii, cNe_ii, cEq_bb, cEq_ss, cEq_ts, cEq_tn, cEq_tt, cNe_tt, P_sumT, P_lenT, P_listT, if_true, if_false, Bool.false_eq_true, e5]
      exact ⟨by trivial, by trivial⟩
    · intro S2 e4 e5
      rw [flat_bl1 k (fun p => true) _ _ fun p _ => rfl] at e5
      rw [P_allL _ _ _ _ e5, e3]
      exact h S2 (e1.trans e4)
end Mc.Lk83
end
section
set_option Elab.async false
set_option linter.all false
set_option maxRecDepth 100000
/-! K83_s: whole tables, multiplied, divided -/
namespace Mc.Lk83
open PySem Mc.Py
theorem mxI_ge : ∀ (ns : List Int) (a : Int), a ≤ mxI a ns ∧ (∀ n ∈ ns, n ≤ mxI a ns) ∧ ∀ B, a ≤ B → (∀ n ∈ ns, n ≤ B) → mxI a ns ≤ B
  | [], a => ⟨Int.le_refl _, by simp, fun B h _ => h⟩
  | b :: r, a => by
    have ih := mxI_ge r (if b > a then b else a)
    show a ≤ mxI (if b > a then b else a) r ∧ (∀ n ∈ b :: r, n ≤ mxI (if b > a then b else a) r) ∧ ∀ B, a ≤ B → (∀ n ∈ b :: r, n ≤ B) → mxI (if b > a then b else a) r ≤ B
    refine ⟨?_, fun n hn => ?_, fun B h1 h2 => ih.2.2 B ?_ fun n hn => h2 n (List.mem_cons_of_mem _ hn)⟩
    · have := ih.1
      split at this <;> omega
    · rcases List.mem_cons.1 hn with rfl | hn
      · have := ih.1
        split at this <;> omega
      · exact ih.2.1 n hn
    · have := h2 b (List.mem_cons_self ..)
      split <;> omega
def keysI (k : KV) : List Int := k.map fun p => (p.1 : Int)
theorem keys_kvA (k : KV) : (kvA k).map (·.1) = iv (keysI k) := by
  simp [kvA, keysI, iv]
theorem E_zero (k : KV) (hb : Bd k) (d : Nat) (hd : ∀ p ∈ k, p.1 < d) : E d k = 0 := by
  have hb2 := hb.1
  clear hb
  induction k with
  | nil => rfl
  | cons p k ih =>
    have h1 := hd p (List.mem_cons_self ..)
    have h2 := hb2 p (List.mem_cons_self ..)
    rw [E_cons, if_neg (by rw [Nat.mod_eq_of_lt h1]; omega), ih (fun q hq => hd q (List.mem_cons_of_mem _ hq)) fun q hq => hb2 q (List.mem_cons_of_mem _ hq)]
    rfl
def WH (k : KV) : Prop := ∀ d : Nat, 1 ≤ d → 0 ≤ E d k
def fItem (n : Int) : AV → List AV
  | .tup [.int i, .int j] => if i % n = 0 then [.int j] else []
  | _ => []
theorem flat_filter (k : KV) (d : Nat) (F : AV → List AV) (uf : AV × AV → AV) (h : ∀ p ∈ k, F (uf (.int (p.1 : Int), .int p.2)) = if p.1 % d = 0 then [.int p.2] else []) : ((kvA k).map uf).flatMap F = iv ((k.filter fun p => decide (p.1 % d = 0)).map (·.2)) := by
  induction k with
  | nil => rfl
  | cons p k ih =>
    show F (uf (.int (p.1 : Int), .int p.2)) ++ (((kvA k).map uf).flatMap F) = _
    rw [h p (List.mem_cons_self ..), ih fun q hq => h q (List.mem_cons_of_mem _ hq)]
    by_cases c : p.1 % d = 0 <;> simp [c]
theorem modc (i n : Nat) : ((i : Int) % (n : Int) = 0) ↔ i % n = 0 := by omega
theorem x_whole_table (k : KV) (d : Nat) (S : Sto) (hb : Bd k) (hS : S[d]? = some (.dct false (kvA k))) (Q : AV → Sto → Prop)
    (h : ∀ b S', Ext S S' → (b = true ↔ WH k) → Q (.bl b) S') : (d_is_whole_table [.ref d] S).P Q := by
  refine P_mkF [some (.ref d), none, none, none] rfl ?_
  have hm : ∃ B : Nat, B ≤ 10000 ∧ (∀ p ∈ k, p.1 ≤ B) ∧ pMaxD (eLoc 0) (eK (.int 0)) [some (.ref d), none, none, none] S = .ok (.int B) S := by
    have e : pMaxD (eLoc 0) (eK (.int 0)) [some (.ref d), none, none, none] S = (match intsOf ((kvA k).map (·.1)) with
      | some [] => .ok (.int 0) S
      | some (i :: ns) => .ok (.int (mxI i ns)) S
      | none => .bad) := by
      show (match S[d]? with
        | some (.dct false kvs) => (match intsOf (kvs.map (·.1)) with
          | some [] => .ok (.int 0) S
          | some (i :: ns) => .ok (.int (mxI i ns)) S
          | none => .bad)
        | _ => .bad : Res AV) = _
      rw [hS]
    rw [keys_kvA, intsOf_ints] at e
    cases k with
    | nil => exact ⟨0, by omega, by simp, e⟩
    | cons p k =>
      have e : pMaxD (eLoc 0) (eK (.int 0)) [some (.ref d), none, none, none] S = .ok (.int (mxI p.1 (keysI k))) S := e
      have g := mxI_ge (keysI k) p.1
      have h1 : mxI (p.1 : Int) (keysI k) ≤ 10000 := g.2.2 10000 (by have := hb.1 p (List.mem_cons_self ..); omega) fun n hn => by
        obtain ⟨q, hq, rfl⟩ := List.mem_map.1 hn
        have := hb.1 q (List.mem_cons_of_mem _ hq)
        omega
      have h0 : 0 ≤ mxI (p.1 : Int) (keysI k) := by have := g.1; omega
      refine ⟨(mxI (p.1 : Int) (keysI k)).toNat, by omega, fun q hq => ?_, by rw [e, Int.toNat_of_nonneg h0]⟩
      rcases List.mem_cons.1 hq with rfl | hq
      · have := g.1
        omega
      · have := g.2.1 (q.1 : Int) (List.mem_map.2 ⟨q, hq, rfl⟩)
        omega
  obtain ⟨B, hB, hk, hm⟩ := hm
  simp only [P_seq, P_if, P_ret, P_expr, P_nil, P_asg, P_gNm, P_par, P_aug, P_gSub, P_gsNil, P_gsCons, P_loc, P_eK, P_e1, P_e2, P_eT, P_aNil, P_aCons, P_call, P_tup, P_lst, P_eIf, P_andB, P_orB, P_notB, P_ofO, P_tV, P_tB, P_tAnd, P_tOr, P_tNot, P_tYes, P_tC, P_ch, P_sl, P_oNo, P_oYes, P_mt, P_new, P_stp, Res.P_ok, SR.P_nx, SR.P_ret, P_if_res, P_bad, wip, List.set_cons_succ, List.set_cons_zero, List.getElem?_cons_succ, List.getElem?_cons_zero, List.getElem?_nil, List.length_cons, List.length_nil, P_addI, P_subI, P_augI, P_negI, P_lt, P_le, P_gt, P_ge, P_absI, P_intI, P_intB, cEq_ii, cNe_ii, cEq_bb, cEq_ss, cEq_ts, cEq_tn, cEq_tt, cNe_tt, P_sumT, P_lenT, P_listT, if_true, if_false, Bool.false_eq_true]
  refine P_for (rngL 1 B) (fun i r S' => ∃ o1 o2 o3, r = [some (.ref d), o1, o2, o3] ∧ Ext S S' ∧ ∀ e : Nat, 1 ≤ e → e ≤ i → 0 ≤ E e k) (by rw [rngL_len]; unfold LIM; omega) ?_ ?_ ?_
  · refine P_rng2 _ _ _ _ ?_
    simp only [P_seq, P_if, P_ret, P_expr, P_nil, P_asg, P_gNm, P_par, P_aug, P_gSub, P_gsNil, P_gsCons, P_loc, P_eK, P_e1, P_e2, P_eT, P_aNil, P_aCons, P_call, P_tup, P_lst, P_eIf, P_andB, P_orB, P_notB, P_ofO, P_tV, P_tB, P_tAnd, P_tOr, P_tNot, P_tYes, P_tC, P_ch, P_sl, P_oNo, P_oYes, P_mt, P_new, P_stp, Res.P_ok, SR.P_nx, SR.P_ret, P_if_res, P_bad, wip, List.set_cons_succ, List.set_cons_zero, List.getElem?_cons_succ, List.getElem?_cons_zero, List.getElem?_nil, List.length_cons, List.length_nil, P_addI, P_subI, P_augI, P_negI, P_lt, P_le, P_gt, P_ge, P_absI, P_intI, P_intB, cEq_ii, cNe_ii, cEq_bb, cEq_ss, cEq_ts, cEq_tn, cEq_tt, cNe_tt, P_sumT, P_lenT, P_listT, if_true, if_false, Bool.false_eq_true, hm]
    refine ⟨1, (B : Int) + 1, rfl, by omega, by omega, by omega, by omega, fun i r' S' _ => ?_, none, none, none, rfl, Ext.refl _, fun e h1 h2 => by omega⟩
    have : ((B : Int) + 1 - 1).toNat = B := by omega
    rw [this]
    rfl
  · rintro i v r S1 hv ⟨o1, o2, o3, rfl, e1, hE⟩
    obtain ⟨hi, rfl⟩ := rngL_get hv
    have hc : (1 : Int) + (i : Int) = ((i + 1 : Nat) : Int) := by omega
    rw [hc]
    simp only [P_seq, P_if, P_ret, P_expr, P_nil, P_asg, P_gNm, P_par, P_aug, P_gSub, P_gsNil, P_gsCons, P_loc, P_eK, P_e1, P_e2, P_eT, P_aNil, P_aCons, P_call, P_tup, P_lst, P_eIf, P_andB, P_orB, P_notB, P_ofO, P_tV, P_tB, P_tAnd, P_tOr, P_tNot, P_tYes, P_tC, P_ch, P_sl, P_oNo, P_oYes, P_mt, P_new, P_stp, Res.P_ok, SR.P_nx, SR.P_ret, P_if_res, P_bad, wip, List.set_cons_succ, List.set_cons_zero, List.getElem?_cons_succ, List.getElem?_cons_zero, List.getElem?_nil, List.length_cons, List.length_nil, P_addI, P_subI, P_augI, P_negI, P_lt, P_le, P_gt, P_ge, P_absI, P_intI, P_intB, cEq_ii, cNe_ii, cEq_bb, cEq_ss, cEq_ts, cEq_tn, cEq_tt, cNe_tt, P_sumT, P_lenT, P_listT, if_true, if_false, Bool.false_eq_true]
    refine P_lcD (fun p => .tup [p.1, p.2]) (fItem ((i + 1 : Nat) : Int)) (fun _ => rfl) (e1 _ _ hS) (.inr (kvA_tk k)) (by rw [kvA_len]; have := hb.2; omega) ?_ ?_
    · intro v hv
      obtain ⟨p, hp, rfl⟩ := mem_kv hv
      unfold lcStp
      rw [P_gTup2]
      simp only [P_seq, P_if, P_ret, P_expr, P_nil, P_asg, P_gNm, P_par, P_aug, P_gSub, P_gsNil, P_gsCons, P_loc, P_eK, P_e1, P_e2, P_eT, P_aNil, P_aCons, P_call, P_tup, P_lst, P_eIf, P_andB, P_orB, P_notB, P_ofO, P_tV, P_tB, P_tAnd, P_tOr, P_tNot, P_tYes, P_tC, P_ch, P_sl, P_oNo, P_oYes, P_mt, P_new, P_stp, Res.P_ok, SR.P_nx, SR.P_ret, P_if_res, P_bad, wip, List.set_cons_succ, List.set_cons_zero, List.getElem?_cons_succ, List.getElem?_cons_zero, List.getElem?_nil, List.length_cons, List.length_nil, P_addI, P_subI, P_augI, P_negI, P_lt, P_le, P_gt, P_ge, P_absI, P_intI, P_intB, cEq_ii, cNe_ii, cEq_bb, cEq_ss, cEq_ts, cEq_tn, cEq_tt, cNe_tt, P_sumT, P_lenT, P_listT, if_true, if_false, Bool.false_eq_true]
      rw [P_modI _ _ _ _ (by omega)]
      simp only [P_seq, P_if, P_ret, P_expr, P_nil, P_asg, P_gNm, P_par, P_aug, P_gSub, P_gsNil, P_gsCons, P_loc, P_eK, P_e1, P_e2, P_eT, P_aNil, P_aCons, P_call, P_tup, P_lst, P_eIf, P_andB, P_orB, P_notB, P_ofO, P_tV, P_tB, P_tAnd, P_tOr, P_tNot, P_tYes, P_tC, P_ch, P_sl, P_oNo, P_oYes, P_mt, P_new, P_stp, Res.P_ok, SR.P_nx, SR.P_ret, P_if_res, P_bad, wip, List.set_cons_succ, List.set_cons_zero, List.getElem?_cons_succ, List.getElem?_cons_zero, List.getElem?_nil, List.length_cons, List.length_nil, P_addI, P_subI, P_augI, P_negI, P_lt, P_le, P_gt, P_ge, P_absI, P_intI, P_intB, cEq_ii, cNe_ii, cEq_bb, cEq_ss, cEq_ts, cEq_tn, cEq_tt, cNe_tt, P_sumT, P_lenT, P_listT, if_true, if_false, Bool.false_eq_true]
      by_cases hz : (p.1 : Int) % ((i + 1 : Nat) : Int) = 0
      · have : ((p.1 : Int) % ((i + 1 : Nat) : Int) == 0) = true := beq_iff_eq.2 hz
        simp only [P_seq, P_if, P_ret, P_expr, P_nil, P_asg, P_gNm, P_par, P_aug, P_gSub, P_gsNil, P_gsCons, P_loc, P_eK, P_e1, P_e2, P_eT, P_aNil, P_aCons, P_call, P_tup, P_lst, P_eIf, P_andB, P_orB, P_notB, P_ofO, P_tV, P_tB, P_tAnd, P_tOr, P_tNot, P_tYes, P_tC, P_ch, P_sl, P_oNo, P_oYes, P_mt, P_new, P_stp, Res.P_ok, SR.P_nx, SR.P_ret, P_if_res, P_bad, wip, List.set_cons_succ, List.set_cons_zero, List.getElem?_cons_succ, List.getElem?_cons_zero, List.getElem?_nil, List.length_cons, List.length_nil, P_addI, P_subI, P_augI, P_negI, P_lt, P_le, P_gt, P_ge, P_absI, P_intI, P_intB, cEq_ii, cNe_ii, cEq_bb, cEq_ss, cEq_ts, cEq_tn, cEq_tt, cNe_tt, P_sumT, P_lenT, P_listT, if_true, if_false, Bool.false_eq_true, this]
        exact ⟨trivial, (if_pos hz).symm⟩
      · have : ((p.1 : Int) % ((i + 1 : Nat) : Int) == 0) = false := beq_eq_false_iff_ne.2 hz
        simp only [P_seq, P_if, P_ret, P_expr, P_nil, P_asg, P_gNm, P_par, P_aug, P_gSub, P_gsNil, P_gsCons, P_loc, P_eK, P_e1, P_e2, P_eT, P_aNil, P_aCons, P_call, P_tup, P_lst, P_eIf, P_andB, P_orB, P_notB, P_ofO, P_tV, P_tB, P_tAnd, P_tOr, P_tNot, P_tYes, P_tC, P_ch, P_sl, P_oNo, P_oYes, P_mt, P_new, P_stp, Res.P_ok, SR.P_nx, SR.P_ret, P_if_res, P_bad, wip, List.set_cons_succ, List.set_cons_zero, List.getElem?_cons_succ, List.getElem?_cons_zero, List.getElem?_nil, List.length_cons, List.length_nil, P_addI, P_subI, P_augI, P_negI, P_lt, P_le, P_gt, P_ge, P_absI, P_intI, P_intB, cEq_ii, cNe_ii, cEq_bb, cEq_ss, cEq_ts, cEq_tn, cEq_tt, cNe_tt, P_sumT, P_lenT, P_listT, if_true, if_false, Bool.false_eq_true, this]
        exact ⟨trivial, (if_neg hz).symm⟩
    · intro S2 e2 e3
      have e8 := flat_filter k (i + 1) (fItem ((i + 1 : Nat) : Int)) (fun p => .tup [p.1, p.2]) fun p _ => by
        show (if (p.1 : Int) % ((i + 1 : Nat) : Int) = 0 then [AV.int p.2] else []) = _
        by_cases hz : p.1 % (i + 1) = 0
        · rw [if_pos hz, if_pos ((modc _ _).2 hz)]
        · rw [if_neg hz, if_neg (fun h => hz ((modc _ _).1 h))]
      rw [e8] at e3
      simp only [P_seq, P_if, P_ret, P_expr, P_nil, P_asg, P_gNm, P_par, P_aug, P_gSub, P_gsNil, P_gsCons, P_loc, P_eK, P_e1, P_e2, P_eT, P_aNil, P_aCons, P_call, P_tup, P_lst, P_eIf, P_andB, P_orB, P_notB, P_ofO, P_tV, P_tB, P_tAnd, P_tOr, P_tNot, P_tYes, P_tC, P_ch, P_sl, P_oNo, P_oYes, P_mt, P_new, P_stp, Res.P_ok, SR.P_nx, SR.P_ret, P_if_res, P_bad, wip, List.set_cons_succ, List.set_cons_zero, List.getElem?_cons_succ, List.getElem?_cons_zero, List.getElem?_nil, List.length_cons, List.length_nil, P_addI, P_subI, P_augI, P_negI, P_lt, P_le, P_gt, P_ge, P_absI, P_intI, P_intB, cEq_ii, cNe_ii, cEq_bb, cEq_ss, cEq_ts, cEq_tn, cEq_tt, cNe_tt, P_sumT, P_lenT, P_listT, if_true, if_false, Bool.false_eq_true, P_sumL _ _ _ _ e3]
      have eE : ((k.filter fun p => decide (p.1 % (i + 1) = 0)).map (·.2)).sum = E (i + 1) k := rfl
      rw [eE]
      by_cases hn : E (i + 1) k < 0
      · rw [decide_eq_true hn]
        simp only [P_seq, P_if, P_ret, P_expr, P_nil, P_asg, P_gNm, P_par, P_aug, P_gSub, P_gsNil, P_gsCons, P_loc, P_eK, P_e1, P_e2, P_eT, P_aNil, P_aCons, P_call, P_tup, P_lst, P_eIf, P_andB, P_orB, P_notB, P_ofO, P_tV, P_tB, P_tAnd, P_tOr, P_tNot, P_tYes, P_tC, P_ch, P_sl, P_oNo, P_oYes, P_mt, P_new, P_stp, Res.P_ok, SR.P_nx, SR.P_ret, P_if_res, P_bad, wip, List.set_cons_succ, List.set_cons_zero, List.getElem?_cons_succ, List.getElem?_cons_zero, List.getElem?_nil, List.length_cons, List.length_nil, P_addI, P_subI, P_augI, P_negI, P_lt, P_le, P_gt, P_ge, P_absI, P_intI, P_intB, cEq_ii, cNe_ii, cEq_bb, cEq_ss, cEq_ts, cEq_tn, cEq_tt, cNe_tt, P_sumT, P_lenT, P_listT, if_true, if_false, Bool.false_eq_true]
        refine h false S2 (e1.trans e2) ⟨fun h => (by cases h), fun hw => ?_⟩
        have := hw (i + 1) (by omega)
        omega
      · rw [decide_eq_false hn]
        simp only [P_seq, P_if, P_ret, P_expr, P_nil, P_asg, P_gNm, P_par, P_aug, P_gSub, P_gsNil, P_gsCons, P_loc, P_eK, P_e1, P_e2, P_eT, P_aNil, P_aCons, P_call, P_tup, P_lst, P_eIf, P_andB, P_orB, P_notB, P_ofO, P_tV, P_tB, P_tAnd, P_tOr, P_tNot, P_tYes, P_tC, P_ch, P_sl, P_oNo, P_oYes, P_mt, P_new, P_stp, Res.P_ok, SR.P_nx, SR.P_ret, P_if_res, P_bad, wip, List.set_cons_succ, List.set_cons_zero, List.getElem?_cons_succ, List.getElem?_cons_zero, List.getElem?_nil, List.length_cons, List.length_nil, P_addI, P_subI, P_augI, P_negI, P_lt, P_le, P_gt, P_ge, P_absI, P_intI, P_intB, cEq_ii, cNe_ii, cEq_bb, cEq_ss, cEq_ts, cEq_tn, cEq_tt, cNe_tt, P_sumT, P_lenT, P_listT, if_true, if_false, Bool.false_eq_true]
        refine ⟨_, _, _, rfl, e1.trans e2, fun e h1 h2 => ?_⟩
        by_cases he : e = i + 1
        · subst he; omega
        · exact hE e h1 (by omega)
  · rintro r S1 ⟨o1, o2, o3, rfl, e1, hE⟩
    try simp only [P_seq, P_if, P_ret, P_expr, P_nil, P_asg, P_gNm, P_par, P_aug, P_gSub, P_gsNil, P_gsCons, P_loc, P_eK, P_e1, P_e2, P_eT, P_aNil, P_aCons, P_call, P_tup, P_lst, P_eIf, P_andB, P_orB, P_notB, P_ofO, P_tV, P_tB, P_tAnd, P_tOr, P_tNot, P_tYes, P_tC, P_ch, P_sl, P_oNo, P_oYes, P_mt, P_new, P_stp, Res.P_ok, SR.P_nx, SR.P_ret, P_if_res, P_bad, wip, List.set_cons_succ, List.set_cons_zero, List.getElem?_cons_succ, List.getElem?_cons_zero, List.getElem?_nil, List.length_cons, List.length_nil, P_addI, P_subI, P_augI, P_negI, P_lt, P_le, P_gt, P_ge, P_absI, P_intI, P_intB, cEq_ii, cNe_ii, cEq_bb, cEq_ss, cEq_ts, cEq_tn, cEq_tt, cNe_tt, P_sumT, P_lenT, P_listT, if_true, if_false, Bool.false_eq_true]
    refine h true S1 e1 ⟨fun _ e he => ?_, fun _ => rfl⟩
    rw [rngL_len] at hE
    by_cases hle : e ≤ B
    · exact hE e he hle
    · rw [E_zero k hb e fun p hp => by have := hk p hp; omega]
      omega
end Mc.Lk83
end
section
set_option Elab.async false
set_option linter.all false
set_option maxRecDepth 100000
/-! K83_t: series multiplied and divided -/
namespace Mc.Lk83
open PySem Mc.Py
/-- the quotient by 1 - x^n -/
def Dv (n : Nat) (f : Sr) : Nat → Int
  | j => f j + if h : 1 ≤ n ∧ n ≤ j then Dv n f (j - n) else 0
termination_by j => j
decreasing_by omega
theorem M_Dv (n : Nat) (f : Sr) (hn : 1 ≤ n) : M n (Dv n f) = f := by
  funext j
  unfold M
  rw [Dv]
  by_cases h : n ≤ j
  · rw [dif_pos ⟨hn, h⟩, if_pos h]; omega
  · rw [dif_neg (fun e => h e.2), if_neg h]; omega
theorem tab_congr {m : Nat} {f g : Nat → Int} (h : ∀ i, i < m → f i = g i) : tab m f = tab m g := congrArg iv (tabI_congr m f g h)
def mulS (m n i : Nat) (f : Sr) : Sr := fun j => if m - i ≤ j then M n f j else f j
theorem mulS_end (m n : Nat) (f : Sr) : ∀ j, j < m → mulS m n (m - n) f j = M n f j := by
  intro j hj
  unfold mulS M
  by_cases h : m - (m - n) ≤ j
  · rw [if_pos h]
  · rw [if_neg h, if_neg (by omega)]; omega
theorem mulS_step (m n i : Nat) (f : Sr) (hn : 1 ≤ n) (hi : i < m - n) : ∀ j, j < m → (if j = m - 1 - i then f (m - 1 - i) - f (m - 1 - i - n) else mulS m n i f j) = mulS m n (i + 1) f j := by
  intro j hj
  unfold mulS M
  by_cases h : j = m - 1 - i
  · rw [if_pos h, if_pos (by omega), if_pos (by omega), h]
  · rw [if_neg h]
    by_cases h2 : m - i ≤ j
    · rw [if_pos h2, if_pos (show m - (i + 1) ≤ j by omega)]
    · rw [if_neg h2, if_neg (show ¬ m - (i + 1) ≤ j by omega)]
theorem mulS_old (m n i : Nat) (f : Sr) (j : Nat) (h : j < m - i) : mulS m n i f j = f j := by
  unfold mulS
  rw [if_neg (by omega)]
def dvS (n i : Nat) (f : Sr) : Sr := fun j => if j < n + i then Dv n f j else f j
theorem dvS_end (m n : Nat) (f : Sr) : ∀ j, j < m → dvS n (m - n) f j = Dv n f j := by
  intro j hj
  unfold dvS
  by_cases h : j < n + (m - n)
  · rw [if_pos h]
  · omega
theorem dvS_zero (m n : Nat) (f : Sr) : ∀ j, j < m → f j = dvS n 0 f j := by
  intro j hj
  unfold dvS
  by_cases h : j < n + 0
  · rw [if_pos h, Dv, dif_neg (by omega)]; omega
  · rw [if_neg h]
theorem dvS_step (m n i : Nat) (f : Sr) (hn : 1 ≤ n) : ∀ j, j < m → (if j = n + i then dvS n i f (n + i) + dvS n i f i else dvS n i f j) = dvS n (i + 1) f j := by
  intro j hj
  unfold dvS
  by_cases h : j = n + i
  · rw [if_pos h, if_neg (by omega), if_pos (by omega), if_pos (by omega), h]
    conv => rhs; rw [Dv]
    rw [dif_pos (by omega)]
    have : n + i - n = i := by omega
    rw [this]
  · rw [if_neg h]
    by_cases h2 : j < n + i
    · rw [if_pos h2, if_pos (by omega)]
    · rw [if_neg h2, if_neg (by omega)]
theorem x_mult (a n m : Nat) (lk : Bool) (f : Sr) (S : Sto) (hS : S[a]? = some (.lst lk (tab m f))) (hn : 1 ≤ n) (hn' : n < 100000) (hm : m < 10000) (Q : AV → Sto → Prop)
    (h : ∀ b S', S.length ≤ b → Ext S S' → S'[b]? = some (.lst false (tab m (M n f))) → Q (.ref b) S') : (d_multiplied_in [.ref a, .int n] S).P Q := by
  refine P_mkF [some (.ref a), some (.int n), none, none] rfl ?_
  simp only [P_seq, P_if, P_ret, P_expr, P_nil, P_asg, P_gNm, P_par, P_aug, P_gSub, P_gsNil, P_gsCons, P_loc, P_eK, P_e1, P_e2, P_eT, P_aNil, P_aCons, P_call, P_tup, P_lst, P_eIf, P_andB, P_orB, P_notB, P_ofO, P_tV, P_tB, P_tAnd, P_tOr, P_tNot, P_tYes, P_tC, P_ch, P_sl, P_oNo, P_oYes, P_mt, P_new, P_stp, Res.P_ok, SR.P_nx, SR.P_ret, P_if_res, P_bad, wip, List.set_cons_succ, List.set_cons_zero, List.getElem?_cons_succ, List.getElem?_cons_zero, List.getElem?_nil, List.length_cons, List.length_nil, P_addI, P_subI, P_augI, P_negI, P_lt, P_le, P_gt, P_ge, P_absI, P_intI, P_intB, cEq_ii, cNe_ii, cEq_bb, cEq_ss, cEq_ts, cEq_tn, cEq_tt, cNe_tt, P_sumT, P_lenT, P_listT, if_true, if_false, Bool.false_eq_true]
  rw [P_listL _ _ _ _ hS]
  have hb := app_new S (.lst false (tab m f))
  have hc : (((m : Int) - 1) - ((n : Int) - 1)).toNat = m - n := by omega
  refine P_for (rngC ((m : Int) - 1) (-1) (m - n)) (fun i r S' => ∃ o, r = [some (.ref a), some (.int n), some (.ref S.length), o] ∧ S'[S.length]? = some (.lst false (tab m (mulS m n i f))) ∧ Ext S S') (by rw [rngC_len]; unfold LIM; omega) ?_ ?_ ?_
  · refine P_rng3 _ _ _ _ ?_
    simp only [P_seq, P_if, P_ret, P_expr, P_nil, P_asg, P_gNm, P_par, P_aug, P_gSub, P_gsNil, P_gsCons, P_loc, P_eK, P_e1, P_e2, P_eT, P_aNil, P_aCons, P_call, P_tup, P_lst, P_eIf, P_andB, P_orB, P_notB, P_ofO, P_tV, P_tB, P_tAnd, P_tOr, P_tNot, P_tYes, P_tC, P_ch, P_sl, P_oNo, P_oYes, P_mt, P_new, P_stp, Res.P_ok, SR.P_nx, SR.P_ret, P_if_res, P_bad, wip, List.set_cons_succ, List.set_cons_zero, List.getElem?_cons_succ, List.getElem?_cons_zero, List.getElem?_nil, List.length_cons, List.length_nil, P_addI, P_subI, P_augI, P_negI, P_lt, P_le, P_gt, P_ge, P_absI, P_intI, P_intB, cEq_ii, cNe_ii, cEq_bb, cEq_ss, cEq_ts, cEq_tn, cEq_tt, cNe_tt, P_sumT, P_lenT, P_listT, if_true, if_false, Bool.false_eq_true, P_lenL _ _ _ _ hb, tab_len]
    refine ⟨_, _, rfl, by omega, by omega, by omega, by omega, fun i r' S' _ => ?_, none, rfl, ?_, Ext.app _ _⟩
    · rw [hc]; rfl
    · rw [hb]
      rw [tab_congr (g := mulS m n 0 f) fun j hj => (mulS_old m n 0 f j (by omega)).symm]
  · rintro i v r S1 hv ⟨o, rfl, h1, h2⟩
    obtain ⟨hi, rfl⟩ := rngC_get hv
    simp only [P_seq, P_if, P_ret, P_expr, P_nil, P_asg, P_gNm, P_par, P_aug, P_gSub, P_gsNil, P_gsCons, P_loc, P_eK, P_e1, P_e2, P_eT, P_aNil, P_aCons, P_call, P_tup, P_lst, P_eIf, P_andB, P_orB, P_notB, P_ofO, P_tV, P_tB, P_tAnd, P_tOr, P_tNot, P_tYes, P_tC, P_ch, P_sl, P_oNo, P_oYes, P_mt, P_new, P_stp, Res.P_ok, SR.P_nx, SR.P_ret, P_if_res, P_bad, wip, List.set_cons_succ, List.set_cons_zero, List.getElem?_cons_succ, List.getElem?_cons_zero, List.getElem?_nil, List.length_cons, List.length_nil, P_addI, P_subI, P_augI, P_negI, P_lt, P_le, P_gt, P_ge, P_absI, P_intI, P_intB, cEq_ii, cNe_ii, cEq_bb, cEq_ss, cEq_ts, cEq_tn, cEq_tt, cNe_tt, P_sumT, P_lenT, P_listT, if_true, if_false, Bool.false_eq_true]
    rw [P_ixTab _ _ _ _ _ _ (m - 1 - i) h1 (by omega) (by omega)]
    try simp only [P_seq, P_if, P_ret, P_expr, P_nil, P_asg, P_gNm, P_par, P_aug, P_gSub, P_gsNil, P_gsCons, P_loc, P_eK, P_e1, P_e2, P_eT, P_aNil, P_aCons, P_call, P_tup, P_lst, P_eIf, P_andB, P_orB, P_notB, P_ofO, P_tV, P_tB, P_tAnd, P_tOr, P_tNot, P_tYes, P_tC, P_ch, P_sl, P_oNo, P_oYes, P_mt, P_new, P_stp, Res.P_ok, SR.P_nx, SR.P_ret, P_if_res, P_bad, wip, List.set_cons_succ, List.set_cons_zero, List.getElem?_cons_succ, List.getElem?_cons_zero, List.getElem?_nil, List.length_cons, List.length_nil, P_addI, P_subI, P_augI, P_negI, P_lt, P_le, P_gt, P_ge, P_absI, P_intI, P_intB, cEq_ii, cNe_ii, cEq_bb, cEq_ss, cEq_ts, cEq_tn, cEq_tt, cNe_tt, P_sumT, P_lenT, P_listT, if_true, if_false, Bool.false_eq_true]
    rw [P_ixTab _ _ _ _ _ _ (m - 1 - i - n) h1 (by omega) (by omega)]
    try simp only [P_seq, P_if, P_ret, P_expr, P_nil, P_asg, P_gNm, P_par, P_aug, P_gSub, P_gsNil, P_gsCons, P_loc, P_eK, P_e1, P_e2, P_eT, P_aNil, P_aCons, P_call, P_tup, P_lst, P_eIf, P_andB, P_orB, P_notB, P_ofO, P_tV, P_tB, P_tAnd, P_tOr, P_tNot, P_tYes, P_tC, P_ch, P_sl, P_oNo, P_oYes, P_mt, P_new, P_stp, Res.P_ok, SR.P_nx, SR.P_ret, P_if_res, P_bad, wip, List.set_cons_succ, List.set_cons_zero, List.getElem?_cons_succ, List.getElem?_cons_zero, List.getElem?_nil, List.length_cons, List.length_nil, P_addI, P_subI, P_augI, P_negI, P_lt, P_le, P_gt, P_ge, P_absI, P_intI, P_intB, cEq_ii, cNe_ii, cEq_bb, cEq_ss, cEq_ts, cEq_tn, cEq_tt, cNe_tt, P_sumT, P_lenT, P_listT, if_true, if_false, Bool.false_eq_true]
    rw [P_setTab _ _ _ _ _ (m - 1 - i) _ h1 (by omega) (by omega)]
    refine ⟨_, rfl, ?_, ext_set _ h2 (Nat.le_refl _)⟩
    rw [set_get _ _ _ (get_lt h1), mulS_old m n i f _ (by omega), mulS_old m n i f _ (by omega), tab_congr (mulS_step m n i f hn hi)]
  · rintro r S1 ⟨o, rfl, h1, h2⟩
    rw [rngC_len, tab_congr (mulS_end m n f)] at h1
    simp only [P_seq, P_if, P_ret, P_expr, P_nil, P_asg, P_gNm, P_par, P_aug, P_gSub, P_gsNil, P_gsCons, P_loc, P_eK, P_e1, P_e2, P_eT, P_aNil, P_aCons, P_call, P_tup, P_lst, P_eIf, P_andB, P_orB, P_notB, P_ofO, P_tV, P_tB, P_tAnd, P_tOr, P_tNot, P_tYes, P_tC, P_ch, P_sl, P_oNo, P_oYes, P_mt, P_new, P_stp, Res.P_ok, SR.P_nx, SR.P_ret, P_if_res, P_bad, wip, List.set_cons_succ, List.set_cons_zero, List.getElem?_cons_succ, List.getElem?_cons_zero, List.getElem?_nil, List.length_cons, List.length_nil, P_addI, P_subI, P_augI, P_negI, P_lt, P_le, P_gt, P_ge, P_absI, P_intI, P_intB, cEq_ii, cNe_ii, cEq_bb, cEq_ss, cEq_ts, cEq_tn, cEq_tt, cNe_tt, P_sumT, P_lenT, P_listT, if_true, if_false, Bool.false_eq_true]
    exact h _ _ (Nat.le_refl _) h2 h1
theorem x_div (a n m : Nat) (lk : Bool) (f : Sr) (S : Sto) (hS : S[a]? = some (.lst lk (tab m f))) (hn : 1 ≤ n) (hn' : n < 100000) (hm : m < 10000) (Q : AV → Sto → Prop)
    (h : ∀ b S', S.length ≤ b → Ext S S' → S'[b]? = some (.lst false (tab m (Dv n f))) → Q (.ref b) S') : (d_divided_by [.ref a, .int n] S).P Q := by
  refine P_mkF [some (.ref a), some (.int n), none, none] rfl ?_
  simp only [P_seq, P_if, P_ret, P_expr, P_nil, P_asg, P_gNm, P_par, P_aug, P_gSub, P_gsNil, P_gsCons, P_loc, P_eK, P_e1, P_e2, P_eT, P_aNil, P_aCons, P_call, P_tup, P_lst, P_eIf, P_andB, P_orB, P_notB, P_ofO, P_tV, P_tB, P_tAnd, P_tOr, P_tNot, P_tYes, P_tC, P_ch, P_sl, P_oNo, P_oYes, P_mt, P_new, P_stp, Res.P_ok, SR.P_nx, SR.P_ret, P_if_res, P_bad, wip, List.set_cons_succ, List.set_cons_zero, List.getElem?_cons_succ, List.getElem?_cons_zero, List.getElem?_nil, List.length_cons, List.length_nil, P_addI, P_subI, P_augI, P_negI, P_lt, P_le, P_gt, P_ge, P_absI, P_intI, P_intB, cEq_ii, cNe_ii, cEq_bb, cEq_ss, cEq_ts, cEq_tn, cEq_tt, cNe_tt, P_sumT, P_lenT, P_listT, if_true, if_false, Bool.false_eq_true]
  rw [P_listL _ _ _ _ hS]
  have hb := app_new S (.lst false (tab m f))
  have hc : ((m : Int) - (n : Int)).toNat = m - n := by omega
  refine P_for (rngL (n : Int) (m - n)) (fun i r S' => ∃ o, r = [some (.ref a), some (.int n), some (.ref S.length), o] ∧ S'[S.length]? = some (.lst false (tab m (dvS n i f))) ∧ Ext S S') (by rw [rngL_len]; unfold LIM; omega) ?_ ?_ ?_
  · refine P_rng2 _ _ _ _ ?_
    simp only [P_seq, P_if, P_ret, P_expr, P_nil, P_asg, P_gNm, P_par, P_aug, P_gSub, P_gsNil, P_gsCons, P_loc, P_eK, P_e1, P_e2, P_eT, P_aNil, P_aCons, P_call, P_tup, P_lst, P_eIf, P_andB, P_orB, P_notB, P_ofO, P_tV, P_tB, P_tAnd, P_tOr, P_tNot, P_tYes, P_tC, P_ch, P_sl, P_oNo, P_oYes, P_mt, P_new, P_stp, Res.P_ok, SR.P_nx, SR.P_ret, P_if_res, P_bad, wip, List.set_cons_succ, List.set_cons_zero, List.getElem?_cons_succ, List.getElem?_cons_zero, List.getElem?_nil, List.length_cons, List.length_nil, P_addI, P_subI, P_augI, P_negI, P_lt, P_le, P_gt, P_ge, P_absI, P_intI, P_intB, cEq_ii, cNe_ii, cEq_bb, cEq_ss, cEq_ts, cEq_tn, cEq_tt, cNe_tt, P_sumT, P_lenT, P_listT, if_true, if_false, Bool.false_eq_true, P_lenL _ _ _ _ hb, tab_len]
    refine ⟨_, _, rfl, by omega, by omega, by omega, by omega, fun i r' S' _ => ?_, none, rfl, ?_, Ext.app _ _⟩
    · rw [hc]; rfl
    · rw [hb, tab_congr (dvS_zero m n f)]
  · rintro i v r S1 hv ⟨o, rfl, h1, h2⟩
    obtain ⟨hi, rfl⟩ := rngL_get hv
    simp only [P_seq, P_if, P_ret, P_expr, P_nil, P_asg, P_gNm, P_par, P_aug, P_gSub, P_gsNil, P_gsCons, P_loc, P_eK, P_e1, P_e2, P_eT, P_aNil, P_aCons, P_call, P_tup, P_lst, P_eIf, P_andB, P_orB, P_notB, P_ofO, P_tV, P_tB, P_tAnd, P_tOr, P_tNot, P_tYes, P_tC, P_ch, P_sl, P_oNo, P_oYes, P_mt, P_new, P_stp, Res.P_ok, SR.P_nx, SR.P_ret, P_if_res, P_bad, wip, List.set_cons_succ, List.set_cons_zero, List.getElem?_cons_succ, List.getElem?_cons_zero, List.getElem?_nil, List.length_cons, List.length_nil, P_addI, P_subI, P_augI, P_negI, P_lt, P_le, P_gt, P_ge, P_absI, P_intI, P_intB, cEq_ii, cNe_ii, cEq_bb, cEq_ss, cEq_ts, cEq_tn, cEq_tt, cNe_tt, P_sumT, P_lenT, P_listT, if_true, if_false, Bool.false_eq_true]
    rw [P_ixTab _ _ _ _ _ _ (n + i) h1 (by omega) (by omega)]
    try simp only [P_seq, P_if, P_ret, P_expr, P_nil, P_asg, P_gNm, P_par, P_aug, P_gSub, P_gsNil, P_gsCons, P_loc, P_eK, P_e1, P_e2, P_eT, P_aNil, P_aCons, P_call, P_tup, P_lst, P_eIf, P_andB, P_orB, P_notB, P_ofO, P_tV, P_tB, P_tAnd, P_tOr, P_tNot, P_tYes, P_tC, P_ch, P_sl, P_oNo, P_oYes, P_mt, P_new, P_stp, Res.P_ok, SR.P_nx, SR.P_ret, P_if_res, P_bad, wip, List.set_cons_succ, List.set_cons_zero, List.getElem?_cons_succ, List.getElem?_cons_zero, List.getElem?_nil, List.length_cons, List.length_nil, P_addI, P_subI, P_augI, P_negI, P_lt, P_le, P_gt, P_ge, P_absI, P_intI, P_intB, cEq_ii, cNe_ii, cEq_bb, cEq_ss, cEq_ts, cEq_tn, cEq_tt, cNe_tt, P_sumT, P_lenT, P_listT, if_true, if_false, Bool.false_eq_true]
    rw [P_ixTab _ _ _ _ _ _ i h1 (by omega) (by omega)]
    try simp only [P_seq, P_if, P_ret, P_expr, P_nil, P_asg, P_gNm, P_par, P_aug, P_gSub, P_gsNil, P_gsCons, P_loc, P_eK, P_e1, P_e2, P_eT, P_aNil, P_aCons, P_call, P_tup, P_lst, P_eIf, P_andB, P_orB, P_notB, P_ofO, P_tV, P_tB, P_tAnd, P_tOr, P_tNot, P_tYes, P_tC, P_ch, P_sl, P_oNo, P_oYes, P_mt, P_new, P_stp, Res.P_ok, SR.P_nx, SR.P_ret, P_if_res, P_bad, wip, List.set_cons_succ, List.set_cons_zero, List.getElem?_cons_succ, List.getElem?_cons_zero, List.getElem?_nil, List.length_cons, List.length_nil, P_addI, P_subI, P_augI, P_negI, P_lt, P_le, P_gt, P_ge, P_absI, P_intI, P_intB, cEq_ii, cNe_ii, cEq_bb, cEq_ss, cEq_ts, cEq_tn, cEq_tt, cNe_tt, P_sumT, P_lenT, P_listT, if_true, if_false, Bool.false_eq_true]
    rw [P_setTab _ _ _ _ _ (n + i) _ h1 (by omega) (by omega)]
    refine ⟨_, rfl, ?_, ext_set _ h2 (Nat.le_refl _)⟩
    rw [set_get _ _ _ (get_lt h1), tab_congr (dvS_step m n i f hn)]
  · rintro r S1 ⟨o, rfl, h1, h2⟩
    rw [rngL_len, tab_congr (dvS_end m n f)] at h1
    simp only [P_seq, P_if, P_ret, P_expr, P_nil, P_asg, P_gNm, P_par, P_aug, P_gSub, P_gsNil, P_gsCons, P_loc, P_eK, P_e1, P_e2, P_eT, P_aNil, P_aCons, P_call, P_tup, P_lst, P_eIf, P_andB, P_orB, P_notB, P_ofO, P_tV, P_tB, P_tAnd, P_tOr, P_tNot, P_tYes, P_tC, P_ch, P_sl, P_oNo, P_oYes, P_mt, P_new, P_stp, Res.P_ok, SR.P_nx, SR.P_ret, P_if_res, P_bad, wip, List.set_cons_succ, List.set_cons_zero, List.getElem?_cons_succ, List.getElem?_cons_zero, List.getElem?_nil, List.length_cons, List.length_nil, P_addI, P_subI, P_augI, P_negI, P_lt, P_le, P_gt, P_ge, P_absI, P_intI, P_intB, cEq_ii, cNe_ii, cEq_bb, cEq_ss, cEq_ts, cEq_tn, cEq_tt, cNe_tt, P_sumT, P_lenT, P_listT, if_true, if_false, Bool.false_eq_true]
    exact h _ _ (Nat.le_refl _) h2 h1
/-- times factors in -/
def rp (f : Sr → Sr) : Nat → Sr → Sr
  | 0, g => g
  | k + 1, g => f (rp f k g)
def fac (p : Nat × Int) (g : Sr) : Sr := if 0 < p.2 then rp (M p.1) p.2.natAbs g else rp (Dv p.1) p.2.natAbs g
def facs (k : KV) (g : Sr) : Sr := k.foldl (fun g p => fac p g) g
theorem Mu_append (a b : List Nat) (f : Sr) : Mu (a ++ b) f = Mu a (Mu b f) := by simp [Mu, List.foldr_append]
theorem Mu_rep (n k : Nat) (f : Sr) : Mu (List.replicate k n) f = rp (M n) k f := by
  induction k with
  | zero => rfl
  | succ k ih => show M n (Mu (List.replicate k n) f) = _; rw [ih]; rfl
theorem rp_Dv (n : Nat) (hn : 1 ≤ n) (k : Nat) (f : Sr) : rp (M n) k (rp (Dv n) k f) = f := by
  have sw : ∀ k g, rp (M n) (k + 1) g = rp (M n) k (M n g) := by
    intro k
    induction k with
    | zero => intro g; rfl
    | succ k ih => intro g; show M n (rp (M n) (k + 1) g) = M n (rp (M n) k (M n g)); rw [ih]
  induction k generalizing f with
  | zero => rfl
  | succ k ih =>
    rw [sw]
    show rp (M n) k (M n (Dv n (rp (Dv n) k f))) = f
    rw [M_Dv n _ hn, ih]
theorem Mu_sw (l : List Nat) (k : List Nat) (f : Sr) (hl : ∀ n ∈ l, 1 ≤ n) (hk : ∀ n ∈ k, 1 ≤ n) : Mu l (Mu k f) = Mu k (Mu l f) := by
  induction k with
  | nil => rfl
  | cons n k ih =>
    show Mu l (M n (Mu k f)) = M n (Mu k (Mu l f))
    rw [Mu_comm l n _ hl (hk n (List.mem_cons_self ..)), ih fun j hj => hk j (List.mem_cons_of_mem _ hj)]
theorem posK_ge (k : KV) (hk : ∀ p ∈ k, 1 ≤ p.1) : ∀ n ∈ posK k, 1 ≤ n := fun n hn => by
  obtain ⟨p, hp, hn⟩ := List.mem_flatMap.1 hn
  rw [(List.mem_replicate.1 hn).2]
  exact hk p hp
theorem negK_ge (k : KV) (hk : ∀ p ∈ k, 1 ≤ p.1) : ∀ n ∈ negK k, 1 ≤ n := fun n hn => by
  obtain ⟨p, hp, hn⟩ := List.mem_flatMap.1 hn
  rw [(List.mem_replicate.1 hn).2]
  exact hk p hp
/-- the relation that the product keeps -/
theorem facs_rel (k : KV) : ∀ (hk : ∀ p ∈ k, 1 ≤ p.1) (g : Sr), Mu (negK k) (facs k g) = Mu (posK k) g := by
  induction k with
  | nil => intro _ g; rfl
  | cons p k ih =>
    intro hk g
    have hk' : ∀ q ∈ k, 1 ≤ q.1 := fun q hq => hk q (List.mem_cons_of_mem _ hq)
    have h1 := hk p (List.mem_cons_self ..)
    have e1 : posK (p :: k) = List.replicate p.2.toNat p.1 ++ posK k := rfl
    have e2 : negK (p :: k) = List.replicate (-p.2).toNat p.1 ++ negK k := rfl
    have e3 : facs (p :: k) g = facs k (fac p g) := rfl
    have hr : ∀ j, ∀ n ∈ List.replicate j p.1, 1 ≤ n := fun j n hn => by rw [(List.mem_replicate.1 hn).2]; exact h1
    rw [e1, e2, e3, Mu_append, Mu_append, ih hk' (fac p g), Mu_sw _ _ _ (hr _) (posK_ge k hk'), Mu_sw _ _ _ (hr _) (posK_ge k hk')]
    congr 1
    unfold fac
    by_cases c : 0 < p.2
    · rw [if_pos c]
      have : (-p.2).toNat = 0 := by omega
      rw [this, Mu_rep, Mu_rep]
      have : p.2.natAbs = p.2.toNat := by omega
      rw [this]
      rfl
    · rw [if_neg c]
      have : p.2.toNat = 0 := by omega
      rw [this, Mu_rep, Mu_rep]
      have : p.2.natAbs = (-p.2).toNat := by omega
      rw [this, rp_Dv _ h1]
      rfl
end Mc.Lk83
end
section
set_option Elab.async false
set_option linter.all false
set_option maxRecDepth 100000
/-! K83_u: the product, told -/
namespace Mc.Lk83
open PySem Mc.Py
theorem P_addL (a b : Nat) (xs ys : List AV) (S : Sto) (ha : S[a]? = some (.lst false xs)) (hb : S[b]? = some (.lst false ys)) (hl : xs.length + ys.length < 1000000) (Q : AV → Sto → Prop) : (oAdd (.ref a) (.ref b) S).P Q = Q (.ref S.length) (S ++ [.lst false (xs ++ ys)]) := by
  unfold oAdd
  simp only [ha, hb]
  rw [if_pos (by rw [szl]; omega)]
  with_unfolding_all rfl
theorem tab_one (d : Nat) : [AV.int 1] ++ iv (List.replicate d 0) = tab (d + 1) one := by
  apply List.ext_getElem?
  intro j
  by_cases hj : j < d + 1
  · rw [tab_get _ _ _ hj]
    cases j with
    | zero => rfl
    | succ j =>
      have : j < d := by omega
      simp [one, this]
  · rw [List.getElem?_eq_none (by simp; omega), List.getElem?_eq_none (by rw [tab_len]; omega)]
theorem la_get (L : List Int) (h : L ≠ []) : ∃ k, k + 1 = L.length ∧ L[k]? = some (la L) := by
  have := List.length_pos_iff.2 h
  refine ⟨L.length - 1, by omega, ?_⟩
  unfold la
  rw [List.getLast?_eq_getElem?]
  have h2 : L.length - 1 < L.length := by omega
  rw [List.getElem?_eq_getElem h2]
  rfl
theorem cutA_all (xs : List AV) (i : Int) (h : i = xs.length) : cutA xs none (some i) = xs := by
  subst h
  unfold cutA
  show (xs.drop 0).take ((if (xs.length : Int) < 0 then ((xs.length : Int) + (xs.length : Int)).toNat else min (xs.length : Int).toNat xs.length) - 0) = _
  rw [if_neg (by omega), List.drop_zero]
  simp
/-- rows whose last entry is not 0 stay -/
theorem x_trimmed (a : Nat) (lk : Bool) (L : List Int) (S : Sto) (hS : S[a]? = some (.lst lk (iv L))) (h0 : la L ≠ 0) (hl : L.length < 100000) (Q : AV → Sto → Prop)
    (h : ∀ S', Ext S S' → Q (.tup (iv L)) S') : (d_trimmed_entries [.ref a] S).P Q := by
  have hne : L ≠ [] := by intro e; rw [e] at h0; exact h0 rfl
  obtain ⟨k, hk, hk2⟩ := la_get L hne
  refine P_mkF [some (.ref a), none] rfl ?_
  simp only [P_seq, P_if, P_ret, P_expr, P_nil, P_asg, P_gNm, P_par, P_aug, P_gSub, P_gsNil, P_gsCons, P_loc, P_eK, P_e1, P_e2, P_eT, P_aNil, P_aCons, P_call, P_tup, P_lst, P_eIf, P_andB, P_orB, P_notB, P_ofO, P_tV, P_tB, P_tAnd, P_tOr, P_tNot, P_tYes, P_tC, P_ch, P_sl, P_oNo, P_oYes, P_mt, P_new, P_stp, Res.P_ok, SR.P_nx, SR.P_ret, P_if_res, P_bad, wip, List.set_cons_succ, List.set_cons_zero, List.getElem?_cons_succ, List.getElem?_cons_zero, List.getElem?_nil, List.length_cons, List.length_nil, P_addI, P_subI, P_augI, P_negI, P_lt, P_le, P_gt, P_ge, P_absI, P_intI, P_intB, cEq_ii, cNe_ii, cEq_bb, cEq_ss, cEq_ts, cEq_tn, cEq_tt, cNe_tt, P_sumT, P_lenT, P_listT, if_true, if_false, Bool.false_eq_true, P_lenL _ _ _ _ hS]
  refine P_while (fun j r S' => j = 0 ∧ r = [some (.ref a), some (.int (iv L).length)] ∧ S' = S) 0 (by unfold LIM; omega) ⟨rfl, rfl, rfl⟩ ?_
  rintro j r S' ⟨rfl, rfl, rfl⟩
  have e1 : ((iv L).length : Int) = (k : Int) + 1 := by simp; omega
  rw [e1]
  have e2 : decide (0 < (k : Int) + 1) = true := decide_eq_true (by omega)
  have e4 : (iv L).length = L.length := by simp
  have e3 : oIx (.ref a) (.int ((k : Int) + 1 - 1)) S' = .ok (.int (la L)) S' := oIx_L _ _ _ _ _ _ hS (by
    rw [atI_of _ _ k (by omega) (by rw [e4]; omega)]
    have : (iv L)[k]? = some (.int (la L)) := by rw [List.getElem?_map, hk2]; rfl
    rw [List.getElem?_eq_getElem (by rw [e4]; omega)] at this
    exact this)
  have e5 : (la L == 0) = false := by simpa using h0
  simp only [P_seq, P_if, P_ret, P_expr, P_nil, P_asg, P_gNm, P_par, P_aug, P_gSub, P_gsNil, P_gsCons, P_loc, P_eK, P_e1, P_e2, P_eT, P_aNil, P_aCons, P_call, P_tup, P_lst, P_eIf, P_andB, P_orB, P_notB, P_ofO, P_tV, P_tB, P_tAnd, P_tOr, P_tNot, P_tYes, P_tC, P_ch, P_sl, P_oNo, P_oYes, P_mt, P_new, P_stp, Res.P_ok, SR.P_nx, SR.P_ret, P_if_res, P_bad, wip, List.set_cons_succ, List.set_cons_zero, List.getElem?_cons_succ, List.getElem?_cons_zero, List.getElem?_nil, List.length_cons, List.length_nil, P_addI, P_subI, P_augI, P_negI, P_lt, P_le, P_gt, P_ge, P_absI, P_intI, P_intB, cEq_ii, cNe_ii, cEq_bb, cEq_ss, cEq_ts, cEq_tn, cEq_tt, cNe_tt, P_sumT, P_lenT, P_listT, if_true, if_false, Bool.false_eq_true, e2, e3, e5]
  rw [oSl_L _ _ _ _ _ _ hS, cutA_all _ _ (by omega)]
  try simp only [P_seq, P_if, P_ret, P_expr, P_nil, P_asg, P_gNm, P_par, P_aug, P_gSub, P_gsNil, P_gsCons, P_loc, P_eK, P_e1, P_e2, P_eT, P_aNil, P_aCons, P_call, P_tup, P_lst, P_eIf, P_andB, P_orB, P_notB, P_ofO, P_tV, P_tB, P_tAnd, P_tOr, P_tNot, P_tYes, P_tC, P_ch, P_sl, P_oNo, P_oYes, P_mt, P_new, P_stp, Res.P_ok, SR.P_nx, SR.P_ret, P_if_res, P_bad, wip, List.set_cons_succ, List.set_cons_zero, List.getElem?_cons_succ, List.getElem?_cons_zero, List.getElem?_nil, List.length_cons, List.length_nil, P_addI, P_subI, P_augI, P_negI, P_lt, P_le, P_gt, P_ge, P_absI, P_intI, P_intB, cEq_ii, cNe_ii, cEq_bb, cEq_ss, cEq_ts, cEq_tn, cEq_tt, cNe_tt, P_sumT, P_lenT, P_listT, if_true, if_false, Bool.false_eq_true]
  rw [P_tupL _ _ _ _ (app_new _ _)]
  exact h _ (Ext.app _ _)
def sgn (x : Int) : Int := if x % 2 = 1 then -1 else 1
theorem sgn_step (x t : Int) : sgn (x + t) = if t % 2 = 1 then -sgn x else sgn x := by
  unfold sgn
  split <;> split <;> split <;> omega
theorem totK_take (k : KV) (i : Nat) (p : Nat × Int) (h : k[i]? = some p) : totK (k.take (i + 1)) = totK (k.take i) + p.2 := by
  unfold totK
  rw [List.take_add_one, h]
  simp
theorem facs_take (k : KV) (i : Nat) (p : Nat × Int) (h : k[i]? = some p) (g : Sr) : facs (k.take (i + 1)) g = fac p (facs (k.take i) g) := by
  unfold facs
  rw [List.take_add_one, h]
  simp
theorem items_get {k : KV} {uf : AV × AV → AV} {i : Nat} {v : AV} (h : ((kvA k).map uf)[i]? = some v) : ∃ p, k[i]? = some p ∧ v = uf (.int (p.1 : Int), .int p.2) := by
  unfold kvA at h
  rw [List.map_map, List.getElem?_map] at h
  cases hk : k[i]? with
  | none => rw [hk] at h; cases h
  | some p => rw [hk] at h; exact ⟨p, rfl, (Option.some.inj h).symm⟩
theorem rp_skip (m n : Nat) (f : Sr → Sr) (g : Sr) (hf : ∀ g, EqT m (f g) g) (j : Nat) : EqT m (rp f j g) g := by
  induction j with
  | zero => exact EqT.refl _ _
  | succ j ih => exact (hf _).trans ih
theorem Dv_skip {m n : Nat} (h : m ≤ n) (f : Sr) : EqT m (Dv n f) f := by
  intro i hi
  rw [Dv, dif_neg (by omega)]
  omega
theorem fac_skip (m : Nat) (p : Nat × Int) (g : Sr) (h : m ≤ p.1) : EqT m (fac p g) g := by
  unfold fac
  split
  · exact rp_skip m p.1 _ g (fun g => M_skip g h) _
  · exact rp_skip m p.1 _ g (fun g => Dv_skip h g) _
theorem flat_ivF (g : Int → Int) (F : AV → List AV) (h : ∀ x, F (.int x) = [.int (g x)]) (L : List Int) : (iv L).flatMap F = iv (L.map g) := by
  induction L with
  | nil => rfl
  | cons x L ih =>
    show F (.int x) ++ (iv L).flatMap F = _
    rw [h, ih]
    rfl
theorem x_expanded (k : KV) (d m : Nat) (S : Sto) (hb : Bd k) (hS : S[d]? = some (.dct false (kvA k))) (hm : (m : Int) = 1 + degK k) (hm1 : 1 ≤ m) (hm2 : m < 5000)
    (hla : la (tabI m fun i => sgK k * facs k one i) ≠ 0) (Q : AV → Sto → Prop)
    (h : ∀ S', Ext S S' → Q (.tup (tab m fun i => sgK k * facs k one i)) S') : (d_expanded [.ref d] S).P Q := by
  refine P_mkF [some (.ref d), none, none, none, none, none, none] rfl ?_
  have hd := get_lt hS
  obtain ⟨dg, rfl⟩ : ∃ dg, m = dg + 1 := ⟨m - 1, by omega⟩
  simp only [P_seq, P_if, P_ret, P_expr, P_nil, P_asg, P_gNm, P_par, P_aug, P_gSub, P_gsNil, P_gsCons, P_loc, P_eK, P_e1, P_e2, P_eT, P_aNil, P_aCons, P_call, P_tup, P_lst, P_eIf, P_andB, P_orB, P_notB, P_ofO, P_tV, P_tB, P_tAnd, P_tOr, P_tNot, P_tYes, P_tC, P_ch, P_sl, P_oNo, P_oYes, P_mt, P_new, P_stp, Res.P_ok, SR.P_nx, SR.P_ret, P_if_res, P_bad, wip, List.set_cons_succ, List.set_cons_zero, List.getElem?_cons_succ, List.getElem?_cons_zero, List.getElem?_nil, List.length_cons, List.length_nil, P_addI, P_subI, P_augI, P_negI, P_lt, P_le, P_gt, P_ge, P_absI, P_intI, P_intB, cEq_ii, cNe_ii, cEq_bb, cEq_ss, cEq_ts, cEq_tn, cEq_tt, cNe_tt, P_sumT, P_lenT, P_listT, if_true, if_false, Bool.false_eq_true, szl]
  simp only [show (0 + 1 : Nat) ≤ 16777216 from by omega, if_true]
  have hS1 : (S ++ [AO.lst false [.int 1]])[d]? = some (.dct false (kvA k)) := app_get hS
  refine P_lc (rngL 0 dg) (fun i acc S' => acc = iv (List.replicate i 0) ∧ Ext (S ++ [AO.lst false [.int 1]]) S') (by rw [rngL_len]; unfold LIM; omega) ?_ ?_ ?_
  · refine P_rng1 _ _ _ _ ?_
    simp only [P_seq, P_if, P_ret, P_expr, P_nil, P_asg, P_gNm, P_par, P_aug, P_gSub, P_gsNil, P_gsCons, P_loc, P_eK, P_e1, P_e2, P_eT, P_aNil, P_aCons, P_call, P_tup, P_lst, P_eIf, P_andB, P_orB, P_notB, P_ofO, P_tV, P_tB, P_tAnd, P_tOr, P_tNot, P_tYes, P_tC, P_ch, P_sl, P_oNo, P_oYes, P_mt, P_new, P_stp, Res.P_ok, SR.P_nx, SR.P_ret, P_if_res, P_bad, wip, List.set_cons_succ, List.set_cons_zero, List.getElem?_cons_succ, List.getElem?_cons_zero, List.getElem?_nil, List.length_cons, List.length_nil, P_addI, P_subI, P_augI, P_negI, P_lt, P_le, P_gt, P_ge, P_absI, P_intI, P_intB, cEq_ii, cNe_ii, cEq_bb, cEq_ss, cEq_ts, cEq_tn, cEq_tt, cNe_tt, P_sumT, P_lenT, P_listT, if_true, if_false, Bool.false_eq_true]
    refine x_degree k d _ hb hS1 _ fun S' e1 => ?_
    refine ⟨_, rfl, by omega, by omega, fun i acc S'' _ => ?_, rfl, e1⟩
    have : (degK k).toNat = dg := by omega
    rw [this]
    rfl
  · rintro i v acc S1 hv ⟨rfl, e1⟩
    unfold lcStp
    simp only [P_seq, P_if, P_ret, P_expr, P_nil, P_asg, P_gNm, P_par, P_aug, P_gSub, P_gsNil, P_gsCons, P_loc, P_eK, P_e1, P_e2, P_eT, P_aNil, P_aCons, P_call, P_tup, P_lst, P_eIf, P_andB, P_orB, P_notB, P_ofO, P_tV, P_tB, P_tAnd, P_tOr, P_tNot, P_tYes, P_tC, P_ch, P_sl, P_oNo, P_oYes, P_mt, P_new, P_stp, Res.P_ok, SR.P_nx, SR.P_ret, P_if_res, P_bad, wip, List.set_cons_succ, List.set_cons_zero, List.getElem?_cons_succ, List.getElem?_cons_zero, List.getElem?_nil, List.length_cons, List.length_nil, P_addI, P_subI, P_augI, P_negI, P_lt, P_le, P_gt, P_ge, P_absI, P_intI, P_intB, cEq_ii, cNe_ii, cEq_bb, cEq_ss, cEq_ts, cEq_tn, cEq_tt, cNe_tt, P_sumT, P_lenT, P_listT, if_true, if_false, Bool.false_eq_true]
    refine ⟨?_, e1⟩
    rw [List.replicate_succ']
    show _ = iv (_ ++ _)
    simp
  · rintro acc S1 ⟨rfl, e1⟩
    rw [rngL_len]
    have hp1 : S1[S.length]? = some (.lst false [.int 1]) := e1 _ _ (app_new _ _)
    rw [P_addL S.length S1.length [.int 1] (iv (List.replicate dg 0)) _ (app_get hp1) (app_new _ _) (by simp; omega), tab_one]
    try simp only [P_seq, P_if, P_ret, P_expr, P_nil, P_asg, P_gNm, P_par, P_aug, P_gSub, P_gsNil, P_gsCons, P_loc, P_eK, P_e1, P_e2, P_eT, P_aNil, P_aCons, P_call, P_tup, P_lst, P_eIf, P_andB, P_orB, P_notB, P_ofO, P_tV, P_tB, P_tAnd, P_tOr, P_tNot, P_tYes, P_tC, P_ch, P_sl, P_oNo, P_oYes, P_mt, P_new, P_stp, Res.P_ok, SR.P_nx, SR.P_ret, P_if_res, P_bad, wip, List.set_cons_succ, List.set_cons_zero, List.getElem?_cons_succ, List.getElem?_cons_zero, List.getElem?_nil, List.length_cons, List.length_nil, P_addI, P_subI, P_augI, P_negI, P_lt, P_le, P_gt, P_ge, P_absI, P_intI, P_intB, cEq_ii, cNe_ii, cEq_bb, cEq_ss, cEq_ts, cEq_tn, cEq_tt, cNe_tt, P_sumT, P_lenT, P_listT, if_true, if_false, Bool.false_eq_true]
    have eS2 : Ext S (S1 ++ [.lst false (iv (List.replicate dg 0))] ++ [.lst false (tab (dg + 1) one)]) := ((Ext.app _ _).trans e1).trans ((Ext.app _ _).trans (Ext.app _ _))
    generalize hS2 : S1 ++ [AO.lst false (iv (List.replicate dg 0))] ++ [.lst false (tab (dg + 1) one)] = S2
    rw [hS2] at eS2
    have hp : S2[(S1 ++ [AO.lst false (iv (List.replicate dg 0))]).length]? = some (.lst false (tab (dg + 1) one)) := by rw [← hS2]; exact app_new _ _
    generalize (S1 ++ [AO.lst false (iv (List.replicate dg 0))]).length = p at hp
    have hd2 : S2[d]? = some (.dct false (kvA k)) := eS2 _ _ hS
    have hpd : p ≠ d := by intro e; rw [e, hd2] at hp; cases hp
    refine P_lkS rfl hd2 ?_
    have hdl := get_lt hd2
    refine P_for ((kvA k).map fun q => .tup [q.1, q.2]) (fun i r S' => ∃ p' o2 o4 o5, r = [some (.ref d), some (.ref p'), o2, some (.int (sgn (totK (k.take i)))), o4, o5, none] ∧ Ext (S2.set d (.dct true (kvA k))) S' ∧ S'[p']? = some (.lst false (tab (dg + 1) (facs (k.take i) one)))) (by rw [List.length_map, kvA_len]; have := hb.2; unfold LIM; omega) ?_ ?_ ?_
    · refine P_dct _ _ _ _ _ _ ?_
      simp only [P_seq, P_if, P_ret, P_expr, P_nil, P_asg, P_gNm, P_par, P_aug, P_gSub, P_gsNil, P_gsCons, P_loc, P_eK, P_e1, P_e2, P_eT, P_aNil, P_aCons, P_call, P_tup, P_lst, P_eIf, P_andB, P_orB, P_notB, P_ofO, P_tV, P_tB, P_tAnd, P_tOr, P_tNot, P_tYes, P_tC, P_ch, P_sl, P_oNo, P_oYes, P_mt, P_new, P_stp, Res.P_ok, SR.P_nx, SR.P_ret, P_if_res, P_bad, wip, List.set_cons_succ, List.set_cons_zero, List.getElem?_cons_succ, List.getElem?_cons_zero, List.getElem?_nil, List.length_cons, List.length_nil, P_addI, P_subI, P_augI, P_negI, P_lt, P_le, P_gt, P_ge, P_absI, P_intI, P_intB, cEq_ii, cNe_ii, cEq_bb, cEq_ss, cEq_ts, cEq_tn, cEq_tt, cNe_tt, P_sumT, P_lenT, P_listT, if_true, if_false, Bool.false_eq_true]
      refine ⟨d, kvA k, rfl, set_get _ _ _ hdl, .inr (kvA_tk k), ?_, p, none, none, none, rfl, Ext.refl _, ?_⟩
      · rintro i r' S' ⟨_, _, _, _, _, e, _⟩
        exact uDct_get (e _ _ (set_get _ _ _ hdl)) i
      · rw [set_ne _ _ _ _ hpd]
        exact hp
    · rintro i v r S3 hv ⟨p', o2, o4, o5, rfl, e3, hp'⟩
      obtain ⟨q, hq, rfl⟩ := items_get hv
      have hqm : q ∈ k := List.mem_of_getElem? hq
      have hqb := hb.1 q hqm
      simp only [P_seq, P_if, P_ret, P_expr, P_nil, P_asg, P_gNm, P_par, P_aug, P_gSub, P_gsNil, P_gsCons, P_loc, P_eK, P_e1, P_e2, P_eT, P_aNil, P_aCons, P_call, P_tup, P_lst, P_eIf, P_andB, P_orB, P_notB, P_ofO, P_tV, P_tB, P_tAnd, P_tOr, P_tNot, P_tYes, P_tC, P_ch, P_sl, P_oNo, P_oYes, P_mt, P_new, P_stp, Res.P_ok, SR.P_nx, SR.P_ret, P_if_res, P_bad, wip, List.set_cons_succ, List.set_cons_zero, List.getElem?_cons_succ, List.getElem?_cons_zero, List.getElem?_nil, List.length_cons, List.length_nil, P_addI, P_subI, P_augI, P_negI, P_lt, P_le, P_gt, P_ge, P_absI, P_intI, P_intB, cEq_ii, cNe_ii, cEq_bb, cEq_ss, cEq_ts, cEq_tn, cEq_tt, cNe_tt, P_sumT, P_lenT, P_listT, if_true, if_false, Bool.false_eq_true, P_gTup2]
      rw [P_modI _ _ _ _ (by omega)]
      rw [totK_take k i q hq, facs_take k i q hq, sgn_step]
      have fin : ∀ sg : Int, (sFor (iRng1 (aCons (eIf (Mc.tC cLt (eLoc 4) (eCall pLen (aCons (eLoc 1) (aNil)))) (eCall pAbs (aCons (eLoc 5) (aNil))) (eK (.int 0))) (aNil))) (gNm 2) (sAsg (eIf (Mc.tC cGt (eLoc 5) (eK (.int 0))) (eCall d_multiplied_in (aCons (eLoc 1) (aCons (eLoc 4) (aNil)))) (eCall d_divided_by (aCons (eLoc 1) (aCons (eLoc 4) (aNil))))) (gNm 1)) [some (.ref d), some (.ref p'), o2, some (.int sg), some (.int (q.1 : Int)), some (.int q.2), none] S3).P (fun r1 S' => ∃ p' o2 o4 o5, r1 = [some (.ref d), some (.ref p'), o2, some (.int sg), o4, o5, none] ∧ Ext (S2.set d (.dct true (kvA k))) S' ∧ S'[p']? = some (.lst false (tab (dg + 1) (fac q (facs (k.take i) one))))) (fun v S1 => ∃ kvs', S1[d]? = some (.dct true kvs') ∧ Q v (S1.set d (.dct false kvs'))) := by
        intro sg
        by_cases hc : q.1 < dg + 1
        · have c1 : decide ((q.1 : Int) < ((tab (dg + 1) (facs (k.take i) one)).length : Int)) = true := by rw [tab_len]; exact decide_eq_true (by omega)
          have fe : fac q (facs (k.take i) one) = rp (if 0 < q.2 then M q.1 else Dv q.1) q.2.natAbs (facs (k.take i) one) := by unfold fac; split <;> rfl
          rw [fe]
          refine P_for (rngL 0 q.2.natAbs) (fun j r1 S' => ∃ p' o2, r1 = [some (.ref d), some (.ref p'), o2, some (.int sg), some (.int (q.1 : Int)), some (.int q.2), none] ∧ Ext (S2.set d (.dct true (kvA k))) S' ∧ S'[p']? = some (.lst false (tab (dg + 1) (rp (if 0 < q.2 then M q.1 else Dv q.1) j (facs (k.take i) one))))) (by rw [rngL_len]; unfold LIM; omega) ?_ ?_ ?_
          · refine P_rng1 _ _ _ _ ?_
            simp only [P_seq, P_if, P_ret, P_expr, P_nil, P_asg, P_gNm, P_par, P_aug, P_gSub, P_gsNil, P_gsCons, P_loc, P_eK, P_e1, P_e2, P_eT, P_aNil, P_aCons, P_call, P_tup, P_lst, P_eIf, P_andB, P_orB, P_notB, P_ofO, P_tV, P_tB, P_tAnd, P_tOr, P_tNot, P_tYes, P_tC, P_ch, P_sl, P_oNo, P_oYes, P_mt, P_new, P_stp, Res.P_ok, SR.P_nx, SR.P_ret, P_if_res, P_bad, wip, List.set_cons_succ, List.set_cons_zero, List.getElem?_cons_succ, List.getElem?_cons_zero, List.getElem?_nil, List.length_cons, List.length_nil, P_addI, P_subI, P_augI, P_negI, P_lt, P_le, P_gt, P_ge, P_absI, P_intI, P_intB, cEq_ii, cNe_ii, cEq_bb, cEq_ss, cEq_ts, cEq_tn, cEq_tt, cNe_tt, P_sumT, P_lenT, P_listT, if_true, if_false, Bool.false_eq_true, P_lenL _ _ _ _ hp', c1]
            have e9 : (if q.2 < 0 then -q.2 else q.2) = (q.2.natAbs : Int) := by split <;> omega
            rw [e9]
            exact ⟨_, rfl, by omega, by omega, fun j r' S' _ => rfl, p', o2, rfl, e3, hp'⟩
          · rintro j v r1 S4 hv2 ⟨p2, o2', rfl, e4, hp2⟩
            obtain ⟨hj, rfl⟩ := rngL_get hv2
            simp only [P_seq, P_if, P_ret, P_expr, P_nil, P_asg, P_gNm, P_par, P_aug, P_gSub, P_gsNil, P_gsCons, P_loc, P_eK, P_e1, P_e2, P_eT, P_aNil, P_aCons, P_call, P_tup, P_lst, P_eIf, P_andB, P_orB, P_notB, P_ofO, P_tV, P_tB, P_tAnd, P_tOr, P_tNot, P_tYes, P_tC, P_ch, P_sl, P_oNo, P_oYes, P_mt, P_new, P_stp, Res.P_ok, SR.P_nx, SR.P_ret, P_if_res, P_bad, wip, List.set_cons_succ, List.set_cons_zero, List.getElem?_cons_succ, List.getElem?_cons_zero, List.getElem?_nil, List.length_cons, List.length_nil, P_addI, P_subI, P_augI, P_negI, P_lt, P_le, P_gt, P_ge, P_absI, P_intI, P_intB, cEq_ii, cNe_ii, cEq_bb, cEq_ss, cEq_ts, cEq_tn, cEq_tt, cNe_tt, P_sumT, P_lenT, P_listT, if_true, if_false, Bool.false_eq_true]
            by_cases hs : 0 < q.2
            · have c2 : decide (0 < q.2) = true := decide_eq_true hs
              simp only [P_seq, P_if, P_ret, P_expr, P_nil, P_asg, P_gNm, P_par, P_aug, P_gSub, P_gsNil, P_gsCons, P_loc, P_eK, P_e1, P_e2, P_eT, P_aNil, P_aCons, P_call, P_tup, P_lst, P_eIf, P_andB, P_orB, P_notB, P_ofO, P_tV, P_tB, P_tAnd, P_tOr, P_tNot, P_tYes, P_tC, P_ch, P_sl, P_oNo, P_oYes, P_mt, P_new, P_stp, Res.P_ok, SR.P_nx, SR.P_ret, P_if_res, P_bad, wip, List.set_cons_succ, List.set_cons_zero, List.getElem?_cons_succ, List.getElem?_cons_zero, List.getElem?_nil, List.length_cons, List.length_nil, P_addI, P_subI, P_augI, P_negI, P_lt, P_le, P_gt, P_ge, P_absI, P_intI, P_intB, cEq_ii, cNe_ii, cEq_bb, cEq_ss, cEq_ts, cEq_tn, cEq_tt, cNe_tt, P_sumT, P_lenT, P_listT, if_true, if_false, Bool.false_eq_true, c2]
              rw [if_pos hs] at hp2 ⊢
              refine x_mult p2 q.1 (dg + 1) false _ _ hp2 (by omega) (by omega) (by omega) _ fun b S5 _ e5 hb5 => ⟨b, _, rfl, e4.trans e5, hb5⟩
            · have c2 : decide (0 < q.2) = false := decide_eq_false hs
              simp only [P_seq, P_if, P_ret, P_expr, P_nil, P_asg, P_gNm, P_par, P_aug, P_gSub, P_gsNil, P_gsCons, P_loc, P_eK, P_e1, P_e2, P_eT, P_aNil, P_aCons, P_call, P_tup, P_lst, P_eIf, P_andB, P_orB, P_notB, P_ofO, P_tV, P_tB, P_tAnd, P_tOr, P_tNot, P_tYes, P_tC, P_ch, P_sl, P_oNo, P_oYes, P_mt, P_new, P_stp, Res.P_ok, SR.P_nx, SR.P_ret, P_if_res, P_bad, wip, List.set_cons_succ, List.set_cons_zero, List.getElem?_cons_succ, List.getElem?_cons_zero, List.getElem?_nil, List.length_cons, List.length_nil, P_addI, P_subI, P_augI, P_negI, P_lt, P_le, P_gt, P_ge, P_absI, P_intI, P_intB, cEq_ii, cNe_ii, cEq_bb, cEq_ss, cEq_ts, cEq_tn, cEq_tt, cNe_tt, P_sumT, P_lenT, P_listT, if_true, if_false, Bool.false_eq_true, c2]
              rw [if_neg hs] at hp2 ⊢
              refine x_div p2 q.1 (dg + 1) false _ _ hp2 (by omega) (by omega) (by omega) _ fun b S5 _ e5 hb5 => ⟨b, _, rfl, e4.trans e5, hb5⟩
          · rintro r1 S4 ⟨p2, o2', rfl, e4, hp2⟩
            rw [rngL_len] at hp2
            exact ⟨p2, o2', _, _, rfl, e4, hp2⟩
        · have c1 : decide ((q.1 : Int) < ((tab (dg + 1) (facs (k.take i) one)).length : Int)) = false := by rw [tab_len]; exact decide_eq_false (by omega)
          refine P_for [] (fun j r1 S' => j = 0 ∧ r1 = [some (.ref d), some (.ref p'), o2, some (.int sg), some (.int (q.1 : Int)), some (.int q.2), none] ∧ S' = S3) (by unfold LIM; simp) ?_ ?_ ?_
          · refine P_rng1 _ _ _ _ ?_
            simp only [P_seq, P_if, P_ret, P_expr, P_nil, P_asg, P_gNm, P_par, P_aug, P_gSub, P_gsNil, P_gsCons, P_loc, P_eK, P_e1, P_e2, P_eT, P_aNil, P_aCons, P_call, P_tup, P_lst, P_eIf, P_andB, P_orB, P_notB, P_ofO, P_tV, P_tB, P_tAnd, P_tOr, P_tNot, P_tYes, P_tC, P_ch, P_sl, P_oNo, P_oYes, P_mt, P_new, P_stp, Res.P_ok, SR.P_nx, SR.P_ret, P_if_res, P_bad, wip, List.set_cons_succ, List.set_cons_zero, List.getElem?_cons_succ, List.getElem?_cons_zero, List.getElem?_nil, List.length_cons, List.length_nil, P_addI, P_subI, P_augI, P_negI, P_lt, P_le, P_gt, P_ge, P_absI, P_intI, P_intB, cEq_ii, cNe_ii, cEq_bb, cEq_ss, cEq_ts, cEq_tn, cEq_tt, cNe_tt, P_sumT, P_lenT, P_listT, if_true, if_false, Bool.false_eq_true, P_lenL _ _ _ _ hp', c1]
            exact ⟨_, rfl, by omega, by omega, fun j r' S' _ => rfl, by trivial, by trivial, by trivial⟩
          · rintro j v r1 S4 hv2
            simp at hv2
          · rintro r1 S4 ⟨_, rfl, rfl⟩
            refine ⟨p', o2, _, _, rfl, e3, ?_⟩
            rw [hp', tab_congr fun j hj => (fac_skip (dg + 1) q _ (by omega) j hj).symm]
      by_cases hc : q.2 % 2 = 1
      · have c1 : (q.2 % 2 == 1) = true := beq_iff_eq.2 hc
        simp only [P_seq, P_if, P_ret, P_expr, P_nil, P_asg, P_gNm, P_par, P_aug, P_gSub, P_gsNil, P_gsCons, P_loc, P_eK, P_e1, P_e2, P_eT, P_aNil, P_aCons, P_call, P_tup, P_lst, P_eIf, P_andB, P_orB, P_notB, P_ofO, P_tV, P_tB, P_tAnd, P_tOr, P_tNot, P_tYes, P_tC, P_ch, P_sl, P_oNo, P_oYes, P_mt, P_new, P_stp, Res.P_ok, SR.P_nx, SR.P_ret, P_if_res, P_bad, wip, List.set_cons_succ, List.set_cons_zero, List.getElem?_cons_succ, List.getElem?_cons_zero, List.getElem?_nil, List.length_cons, List.length_nil, P_addI, P_subI, P_augI, P_negI, P_lt, P_le, P_gt, P_ge, P_absI, P_intI, P_intB, cEq_ii, cNe_ii, cEq_bb, cEq_ss, cEq_ts, cEq_tn, cEq_tt, cNe_tt, P_sumT, P_lenT, P_listT, if_true, if_false, Bool.false_eq_true, c1]
        rw [if_pos hc]
        exact fin _
      · have c1 : (q.2 % 2 == 1) = false := beq_eq_false_iff_ne.2 hc
        simp only [P_seq, P_if, P_ret, P_expr, P_nil, P_asg, P_gNm, P_par, P_aug, P_gSub, P_gsNil, P_gsCons, P_loc, P_eK, P_e1, P_e2, P_eT, P_aNil, P_aCons, P_call, P_tup, P_lst, P_eIf, P_andB, P_orB, P_notB, P_ofO, P_tV, P_tB, P_tAnd, P_tOr, P_tNot, P_tYes, P_tC, P_ch, P_sl, P_oNo, P_oYes, P_mt, P_new, P_stp, Res.P_ok, SR.P_nx, SR.P_ret, P_if_res, P_bad, wip, List.set_cons_succ, List.set_cons_zero, List.getElem?_cons_succ, List.getElem?_cons_zero, List.getElem?_nil, List.length_cons, List.length_nil, P_addI, P_subI, P_augI, P_negI, P_lt, P_le, P_gt, P_ge, P_absI, P_intI, P_intB, cEq_ii, cNe_ii, cEq_bb, cEq_ss, cEq_ts, cEq_tn, cEq_tt, cNe_tt, P_sumT, P_lenT, P_listT, if_true, if_false, Bool.false_eq_true, c1]
        rw [if_neg hc]
        exact fin _
    · rintro r S3 ⟨p', o2, o4, o5, rfl, e3, hp'⟩
      rw [List.length_map, kvA_len, List.take_length] at hp'
      rw [List.length_map, kvA_len, List.take_length]
      have hd3 := e3 _ _ (set_get _ _ _ hdl)
      have e4 : Ext S2 (S3.set d (.dct false (kvA k))) := ext_unlk hd2 e3
      have hp3 : p' ≠ d := by intro e; rw [e, hd3] at hp'; cases hp'
      refine ⟨kvA k, hd3, ?_⟩
      have hp4 : (S3.set d (.dct false (kvA k)))[p']? = some (.lst false (tab (dg + 1) (facs k one))) := by rw [set_ne _ _ _ _ hp3]; exact hp'
      generalize S3.set d (.dct false (kvA k)) = S4 at e4 hp4
      try simp only [P_seq, P_if, P_ret, P_expr, P_nil, P_asg, P_gNm, P_par, P_aug, P_gSub, P_gsNil, P_gsCons, P_loc, P_eK, P_e1, P_e2, P_eT, P_aNil, P_aCons, P_call, P_tup, P_lst, P_eIf, P_andB, P_orB, P_notB, P_ofO, P_tV, P_tB, P_tAnd, P_tOr, P_tNot, P_tYes, P_tC, P_ch, P_sl, P_oNo, P_oYes, P_mt, P_new, P_stp, Res.P_ok, SR.P_nx, SR.P_ret, P_if_res, P_bad, wip, List.set_cons_succ, List.set_cons_zero, List.getElem?_cons_succ, List.getElem?_cons_zero, List.getElem?_nil, List.length_cons, List.length_nil, P_addI, P_subI, P_augI, P_negI, P_lt, P_le, P_gt, P_ge, P_absI, P_intI, P_intB, cEq_ii, cNe_ii, cEq_bb, cEq_ss, cEq_ts, cEq_tn, cEq_tt, cNe_tt, P_sumT, P_lenT, P_listT, if_true, if_false, Bool.false_eq_true]
      refine P_lc_pure (tab (dg + 1) (facs k one)) (fun v => match v with | .int x => [.int (sgn (totK k) * x)] | _ => []) (by rw [tab_len]; unfold LIM; omega) ?_ ?_ ?_
      · refine P_seqL _ _ _ _ ?_
        simp only [P_seq, P_if, P_ret, P_expr, P_nil, P_asg, P_gNm, P_par, P_aug, P_gSub, P_gsNil, P_gsCons, P_loc, P_eK, P_e1, P_e2, P_eT, P_aNil, P_aCons, P_call, P_tup, P_lst, P_eIf, P_andB, P_orB, P_notB, P_ofO, P_tV, P_tB, P_tAnd, P_tOr, P_tNot, P_tYes, P_tC, P_ch, P_sl, P_oNo, P_oYes, P_mt, P_new, P_stp, Res.P_ok, SR.P_nx, SR.P_ret, P_if_res, P_bad, wip, List.set_cons_succ, List.set_cons_zero, List.getElem?_cons_succ, List.getElem?_cons_zero, List.getElem?_nil, List.length_cons, List.length_nil, P_addI, P_subI, P_augI, P_negI, P_lt, P_le, P_gt, P_ge, P_absI, P_intI, P_intB, cEq_ii, cNe_ii, cEq_bb, cEq_ss, cEq_ts, cEq_tn, cEq_tt, cNe_tt, P_sumT, P_lenT, P_listT, if_true, if_false, Bool.false_eq_true]
        exact ⟨p', false, _, rfl, hp4, fun i => uLive_get hp4 i, by trivial⟩
      · intro v hv
        obtain ⟨x, hx, rfl⟩ := List.mem_map.1 hv
        unfold lcStp
        simp only [P_seq, P_if, P_ret, P_expr, P_nil, P_asg, P_gNm, P_par, P_aug, P_gSub, P_gsNil, P_gsCons, P_loc, P_eK, P_e1, P_e2, P_eT, P_aNil, P_aCons, P_call, P_tup, P_lst, P_eIf, P_andB, P_orB, P_notB, P_ofO, P_tV, P_tB, P_tAnd, P_tOr, P_tNot, P_tYes, P_tC, P_ch, P_sl, P_oNo, P_oYes, P_mt, P_new, P_stp, Res.P_ok, SR.P_nx, SR.P_ret, P_if_res, P_bad, wip, List.set_cons_succ, List.set_cons_zero, List.getElem?_cons_succ, List.getElem?_cons_zero, List.getElem?_nil, List.length_cons, List.length_nil, P_addI, P_subI, P_augI, P_negI, P_lt, P_le, P_gt, P_ge, P_absI, P_intI, P_intB, cEq_ii, cNe_ii, cEq_bb, cEq_ss, cEq_ts, cEq_tn, cEq_tt, cNe_tt, P_sumT, P_lenT, P_listT, if_true, if_false, Bool.false_eq_true]
        have hs : smA (sgn (totK k)) = true := by unfold sgn; split <;> decide
        rw [P_mulS _ _ _ _ (.inl hs)]
        exact ⟨by trivial, by trivial⟩
      · have e6 : ((tab (dg + 1) (facs k one)).flatMap fun v => match v with | .int x => [AV.int (sgn (totK k) * x)] | _ => []) = tab (dg + 1) fun i => sgK k * facs k one i := by
          rw [flat_ivF (fun x => sgn (totK k) * x) _ (fun x => rfl)]
          unfold tabI
          rw [List.map_map]
          rfl
        rw [e6]
        refine x_trimmed S4.length false _ _ (app_new _ _) hla (by rw [tabI_len]; omega) _ fun S' e7 => ?_
        exact h S' (eS2.trans (e4.trans ((Ext.app _ _).trans e7)))
end Mc.Lk83
end
section
set_option Elab.async false
set_option linter.all false
set_option maxRecDepth 100000
/-! K83_v: the product told, and the law's own product -/
namespace Mc.Lk83
open PySem Mc.Py
theorem prod_a (d : Nat) (S S1 S2 : Sto) (h1 : d_is_factor_table [.ref d] S = .ok (.bl true) S1) (h2 : d_is_whole_table [.ref d] S1 = .ok (.bl false) S2) : d_product_of [.ref d] S = .ex "InvalidOperation" none S2 := by
  unfold d_product_of mkF sSeq sIf Mc.tNot tB eCall aCons eLoc aNil
  simp [h1, h2, sNil, sRaise, aCons, eK, aNil, Res.bind, Res.thn, szl]
theorem prod_b (d : Nat) (D : Int) (S S1 S2 S3 : Sto) (h1 : d_is_factor_table [.ref d] S = .ok (.bl true) S1) (h2 : d_is_whole_table [.ref d] S1 = .ok (.bl true) S2) (h3 : d_degree_of_table [.ref d] S2 = .ok (.int D) S3) (hD : 400 < D) : d_product_of [.ref d] S = .ex "TooMany" (some ("limit", .int 400)) S3 := by
  unfold d_product_of mkF sSeq sIf Mc.tNot tB Mc.tC eCall aCons eLoc aNil
  simp [h1, h2, h3, hD, sNil, sRaise, sRaiseV, aCons, eK, aNil, Res.bind, Res.thn, cGt, cInt]
theorem prod_c (d : Nat) (D : Int) (S S1 S2 S3 : Sto) (h1 : d_is_factor_table [.ref d] S = .ok (.bl true) S1) (h2 : d_is_whole_table [.ref d] S1 = .ok (.bl true) S2) (h3 : d_degree_of_table [.ref d] S2 = .ok (.int D) S3) (hD : ¬ 400 < D) (Q : AV → Sto → Prop) (h : (d_expanded [.ref d] S3).P Q) : (d_product_of [.ref d] S).P Q := by
  refine P_mkF [some (.ref d)] rfl ?_
  simp only [P_seq, P_if, P_ret, P_expr, P_nil, P_asg, P_gNm, P_par, P_aug, P_gSub, P_gsNil, P_gsCons, P_loc, P_eK, P_e1, P_e2, P_eT, P_aNil, P_aCons, P_call, P_tup, P_lst, P_eIf, P_andB, P_orB, P_notB, P_ofO, P_tV, P_tB, P_tAnd, P_tOr, P_tNot, P_tYes, P_tC, P_ch, P_sl, P_oNo, P_oYes, P_mt, P_new, P_stp, Res.P_ok, SR.P_nx, SR.P_ret, P_if_res, P_bad, wip, List.set_cons_succ, List.set_cons_zero, List.getElem?_cons_succ, List.getElem?_cons_zero, List.getElem?_nil, List.length_cons, List.length_nil, P_addI, P_subI, P_augI, P_negI, P_lt, P_le, P_gt, P_ge, P_absI, P_intI, P_intB, cEq_ii, cNe_ii, cEq_bb, cEq_ss, cEq_ts, cEq_tn, cEq_tt, cNe_tt, P_sumT, P_lenT, P_listT, if_true, if_false, Bool.false_eq_true, h1, h2, h3, decide_eq_false hD, Bool.not_true]
  exact h
theorem told_ok (d : Nat) (S : Sto) (Q : AV → Sto → Prop) (h : (d_product_of [.ref d] S).P Q) : (d_q_told [.ref d] S).P Q := by
  obtain ⟨v, S', e, hq⟩ := h.get
  have : d_q_told [.ref d] S = .ok v S' := by
    unfold d_q_told mkF sTry sRet eCall aCons eLoc aNil
    simp [e, Res.bind, Res.thn]
  rw [this, Res.P_ok]
  exact hq
theorem told_a (d : Nat) (S S' : Sto) (e : d_product_of [.ref d] S = .ex "InvalidOperation" none S') : d_q_told [.ref d] S = .ok (.str "none") S' := by
  unfold d_q_told mkF sTry sRet eCall aCons eLoc aNil
  simp [e, Res.bind, Res.thn, hdG, ct, xK, eK]
theorem told_b (d : Nat) (S S' : Sto) (e : d_product_of [.ref d] S = .ex "TooMany" (some ("limit", .int 400)) S') : d_q_told [.ref d] S = .ok (.str "many 400") S' := by
  have e1 : ct "TooMany" "InvalidOperation" = some false := by decide +kernel
  have e2 : ct "TooMany" "TooMany" = some true := by decide +kernel
  have e3 : kStr "many " (.int 400) S' = .ok (.str "many 400") S' := by rfl
  unfold d_q_told mkF sTry sRet eCall aCons eLoc aNil
  simp [e, Res.bind, Res.thn, hdG, e1, e2, xF, e3]
theorem x_told (k : KV) (d : Nat) (S : Sto) (hb : Bd k) (hS : S[d]? = some (.dct false (kvA k)))
    (hla : WH k → degK k ≤ 400 → 0 ≤ degK k ∧ la (tabI (1 + degK k).toNat fun i => sgK k * facs k one i) ≠ 0) (Q : AV → Sto → Prop)
    (hA : ¬ WH k → ∀ S', Ext S S' → Q (.str "none") S')
    (hB : WH k → 400 < degK k → ∀ S', Ext S S' → Q (.str "many 400") S')
    (hC : WH k → degK k ≤ 400 → ∀ S', Ext S S' → Q (.tup (tab (1 + degK k).toNat fun i => sgK k * facs k one i)) S') : (d_q_told [.ref d] S).P Q := by
  obtain ⟨v1, S1, e1, rfl, x1⟩ := Res.P.get (x_is_factor k d S hb hS (fun v S' => v = .bl true ∧ Ext S S') fun S' e => ⟨rfl, e⟩)
  obtain ⟨v2, S2, e2, b, rfl, x2, hw⟩ := Res.P.get (x_whole_table k d S1 hb (x1 _ _ hS) (fun v S' => ∃ b, v = .bl b ∧ Ext S1 S' ∧ (b = true ↔ WH k)) fun b S' e h => ⟨b, rfl, e, h⟩)
  cases b with
  | false =>
    rw [told_a d S S2 (prod_a d S S1 S2 e1 e2), Res.P_ok]
    exact hA (fun h => by have := hw.2 h; cases this) S2 (x1.trans x2)
  | true =>
    have hW := hw.1 rfl
    obtain ⟨v3, S3, e3, rfl, x3⟩ := Res.P.get (x_degree k d S2 hb (x2 _ _ (x1 _ _ hS)) (fun v S' => v = .int (degK k) ∧ Ext S2 S') fun S' e => ⟨rfl, e⟩)
    have x13 := x1.trans (x2.trans x3)
    by_cases hD : 400 < degK k
    · rw [told_b d S S3 (prod_b d _ S S1 S2 S3 e1 e2 e3 hD), Res.P_ok]
      exact hB hW hD S3 x13
    · have hh := hla hW (by omega)
      refine told_ok d S Q (prod_c d _ S S1 S2 S3 e1 e2 e3 hD Q ?_)
      exact x_expanded k d _ S3 hb (x13 _ _ hS) (by omega) (by omega) (by omega) hh.2 Q fun S' e => hC hW (by omega) S' (x13.trans e)
/-! ### the law's own -/
def Nd (k : KV) : Prop := (k.map (·.1)).Nodup
theorem okK_kv (k : KV) (n : Int) : okK (kvA k) (.int n) = true := by
  unfold okK
  rw [Bool.and_eq_true]
  refine ⟨rfl, List.all_eq_true.2 fun q hq => ?_⟩
  rw [kvA_tk k q hq]
  rfl
theorem valA_kv (k : KV) (hn : Nd k) (p : Nat × Int) (hp : p ∈ k) : valA (kvA k) (.int (p.1 : Int)) = some (.int p.2) := by
  induction k with
  | nil => cases hp
  | cons q k ih =>
    have hn2 := List.nodup_cons.1 hn
    unfold valA kvA
    rw [List.map_cons, List.find?_cons]
    by_cases c : q.1 = p.1
    · have : kEq (.int (q.1 : Int)) (.int (p.1 : Int)) = true := by
        show decide ((q.1 : Int) = (p.1 : Int)) = true
        exact decide_eq_true (by omega)
      simp only [this]
      rcases List.mem_cons.1 hp with rfl | hp
      · rfl
      · exfalso
        exact hn2.1 (List.mem_map.2 ⟨p, hp, c.symm⟩)
    · have : kEq (.int (q.1 : Int)) (.int (p.1 : Int)) = false := by
        show decide ((q.1 : Int) = (p.1 : Int)) = false
        exact decide_eq_false (by omega)
      simp only [this]
      rcases List.mem_cons.1 hp with rfl | hp
      · exact absurd rfl c
      · exact ih hn2.2 hp
theorem ix_kv (k : KV) (hn : Nd k) (p : Nat × Int) (hp : p ∈ k) (d : Nat) (lk : Bool) (S : Sto) (hS : S[d]? = some (.dct lk (kvA k))) : oIx (.ref d) (.int (p.1 : Int)) S = .ok (.int p.2) S := by
  unfold oIx
  simp only [hS]
  rw [okK_kv, valA_kv k hn p hp]
  rfl
def getK (k : KV) (i : Int) : Int := ((k.find? fun p => decide ((p.1 : Int) = i)).map (·.2)).getD 0
theorem getK_kv (k : KV) (hn : Nd k) (p : Nat × Int) (hp : p ∈ k) : getK k (p.1 : Int) = p.2 := by
  induction k with
  | nil => cases hp
  | cons q k ih =>
    have hn2 := List.nodup_cons.1 hn
    unfold getK
    rw [List.find?_cons]
    by_cases c : q.1 = p.1
    · rw [decide_eq_true (by omega)]
      rcases List.mem_cons.1 hp with rfl | hp
      · rfl
      · exfalso
        exact hn2.1 (List.mem_map.2 ⟨p, hp, c.symm⟩)
    · rw [decide_eq_false (by omega)]
      rcases List.mem_cons.1 hp with rfl | hp
      · exact absurd rfl c
      · exact ih hn2.2 hp
theorem P_mulL (a : Nat) (xs : List AV) (n : Nat) (S : Sto) (hS : S[a]? = some (.lst false xs)) (hl : xs.length * n < 1000000) (hn : n < 1000000) (Q : AV → Sto → Prop) : (oMul (.ref a) (.int n) S).P Q = Q (.ref S.length) (S ++ [.lst false (List.replicate n xs).flatten]) := by
  unfold oMul
  simp only [hS]
  rw [if_pos (by
    simp only [Bool.and_eq_true, decide_eq_true_eq]
    refine ⟨⟨by omega, by omega⟩, ?_⟩
    rw [Int.toNat_natCast, szl]
    omega)]
  with_unfolding_all rfl
theorem ext_lk {S S' : Sto} {d : Nat} {o o' : AO} (hS : S[d]? = some o') (h : Ext S S') : Ext (S.set d o) (S'.set d o) := fun k x e => by
  by_cases hk : k = d
  · subst hk
    rw [set_get _ _ _ (get_lt hS)] at e
    rw [set_get _ _ _ (get_lt (h _ _ hS))]
    exact e
  · rw [set_ne _ _ _ _ hk] at e ⊢
    exact h _ _ e
theorem P_rngL (i j : Int) (S : Sto) (hi : 0 ≤ i) (hi' : i < 1000000) (hj : 0 ≤ j) (hj' : j < 1000000) (Q : AV → Sto → Prop) : (pRngL [.int i, .int j] S).P Q = Q (.ref S.length) (S ++ [.lst false (rngL i (j - i).toNat)]) := by
  have : rngOk (i, j) = true := by
    unfold rngOk RB
    simp only [Bool.and_eq_true, decide_eq_true_eq]
    rw [szl]
    refine ⟨⟨⟨⟨by omega, by omega⟩, by omega⟩, by omega⟩, by omega⟩
  show Res.P (if rngOk (i, j) = true then new S (.lst false (rngL i (j - i).toNat)) else .bad) Q = _
  rw [if_pos this]
  with_unfolding_all rfl
theorem rngL_rev {lo : Int} {n i : Nat} {v : AV} (h : (rngL lo n).reverse[i]? = some v) : i < n ∧ v = .int (lo + ((n - 1 - i : Nat) : Int)) := by
  by_cases hi : i < n
  · rw [List.getElem?_reverse (by rw [rngL_len]; exact hi), rngL_len] at h
    exact ⟨hi, (rngL_get h).2⟩
  · rw [List.getElem?_eq_none (by rw [List.length_reverse, rngL_len]; omega)] at h
    cases h
theorem oRev_X (a : Nat) (lk : Bool) (xs : List AV) (S : Sto) (hS : S[a]? = some (.lst lk xs)) : oRev 0 (.ref a) S = new S (.lst false xs.reverse) := by
  unfold oRev
  simp only [hS]
  rfl
theorem fl_one (n : Nat) : (List.replicate n [AV.int 0]).flatten = iv (List.replicate n 0) := by
  induction n with
  | zero => rfl
  | succ n ih => rw [List.replicate_succ, List.flatten_cons, ih, List.replicate_succ]; rfl
end Mc.Lk83
end
section
set_option Elab.async false
set_option linter.all false
set_option maxRecDepth 100000
/-! K83_x: the law's own table and product -/
namespace Mc.Lk83
open PySem Mc.Py
/-- sums over the keys -/
theorem x_sumK {S : Sto} {d : Nat} {k : KV} {Q : AV → Sto → Prop} {vs : List Nat} {r : Env} {a : DE} (f : Nat × Int → Int) (hb : Bd k) (hnd : Nd k) (hS : S[d]? = some (.dct false (kvA k))) (i : Nat) {o : DE} (ho : ∀ S, o r S = .ok (.ref d) S)
    (ho2 : ∀ S, o (wip r vs) S = .ok (.ref d) S)
    (step : ∀ p ∈ k, (a ((wip r vs).set i (some (.int (p.1 : Int)))) (S.set d (.dct true (kvA k)))).P fun y S3 => S3 = S.set d (.dct true (kvA k)) ∧ [y] = [.int (f p)])
    (fin : ∀ S', Ext S S' → S'[S.length]? = some (.lst false (iv (k.map f))) → Q (.ref S.length) S') : (lkE o (eLc vs (iDct true uKeys o) (gNm i) Mc.tYes a) r S).P Q := by
  refine P_lcD (fun p => p.1) (fun v => match v with | .int n => [.int (f (n.toNat, getK k n))] | _ => []) ho hS (.inl rfl) (by rw [kvA_len]; have := hb.2; omega) ?_ ?_
  · intro v hv
    obtain ⟨p, hp, rfl⟩ := mem_kv hv
    unfold lcStp
    simp only [P_seq, P_if, P_ret, P_expr, P_nil, P_asg, P_gNm, P_par, P_aug, P_gSub, P_gsNil, P_gsCons, P_loc, P_eK, P_e1, P_e2, P_eT, P_aNil, P_aCons, P_call, P_tup, P_lst, P_eIf, P_andB, P_orB, P_notB, P_ofO, P_tV, P_tB, P_tAnd, P_tOr, P_tNot, P_tYes, P_tC, P_ch, P_sl, P_oNo, P_oYes, P_mt, P_new, P_stp, Res.P_ok, SR.P_nx, SR.P_ret, P_if_res, P_bad, wip, List.set_cons_succ, List.set_cons_zero, List.getElem?_cons_succ, List.getElem?_cons_zero, List.getElem?_nil, List.length_cons, List.length_nil, P_addI, P_subI, P_augI, P_negI, P_lt, P_le, P_gt, P_ge, P_absI, P_intI, P_intB, cEq_ii, cNe_ii, cEq_bb, cEq_ss, cEq_ts, cEq_tn, cEq_tt, cNe_tt, P_sumT, P_lenT, P_listT, if_true, if_false, Bool.false_eq_true]
    refine (step p hp).mono fun y S3 h => ⟨h.1, ?_⟩
    rw [h.2, getK_kv k hnd p hp]
    rfl
  · intro S' e1 e2
    rw [flat_iv1 k f _ _ fun p hp => by
      show [AV.int (f ((p.1 : Int).toNat, getK k (p.1 : Int)))] = _
      rw [getK_kv k hnd p hp]; rfl] at e2
    exact fin S' e1 e2
theorem x_qwhole (k : KV) (d : Nat) (S : Sto) (hb : Bd k) (hnd : Nd k) (hS : S[d]? = some (.dct false (kvA k))) (Q : AV → Sto → Prop)
    (h : ∀ b S', Ext S S' → (b = true ↔ WH k) → Q (.bl b) S') : (d_q_is_whole_table [.ref d] S).P Q := by
  refine P_mkF [some (.ref d), none, none] rfl ?_
  obtain ⟨B, hB, hk, hm⟩ : ∃ B : Nat, B ≤ 10000 ∧ (∀ p ∈ k, p.1 ≤ B) ∧ ∀ (a : Nat) (S : Sto), S[a]? = some (.lst false (iv (keysI k ++ [0]))) → pMax [.ref a] S = .ok (.int B) S := by
    have e : ∀ (a : Nat) (S : Sto), S[a]? = some (.lst false (iv (keysI k ++ [0]))) → pMax [.ref a] S = (match (some (keysI k ++ [0]) : Option (List Int)) with
      | some (a :: r) => .ok (.int (mxI a r)) S
      | _ => .bad) := fun a S hS => by
      show (match (lstOf S (.ref a)).bind intsOf with
        | some (a :: r) => .ok (.int (mxI a r)) S
        | _ => .bad : Res AV) = _
      have : lstOf S (.ref a) = some (iv (keysI k ++ [0])) := by
        show (match S[a]? with
          | some (.lst _ xs) => some xs
          | _ => none) = _
        rw [hS]
      rw [this]
      show (match intsOf (iv (keysI k ++ [0])) with
        | some (a :: r) => .ok (.int (mxI a r)) S
        | _ => .bad : Res AV) = _
      rw [intsOf_ints]
    cases k with
    | nil => exact ⟨0, by omega, by simp, fun a S h => e a S h⟩
    | cons p k =>
      have e : ∀ (a : Nat) (S : Sto), S[a]? = some (.lst false (iv (keysI (p :: k) ++ [0]))) → pMax [.ref a] S = .ok (.int (mxI p.1 (keysI k ++ [0]))) S := e
      have g := mxI_ge (keysI k ++ [0]) p.1
      have h1 : mxI (p.1 : Int) (keysI k ++ [0]) ≤ 10000 := g.2.2 10000 (by have := hb.1 p (List.mem_cons_self ..); omega) fun n hn => by
        rcases List.mem_append.1 hn with hn | hn
        · obtain ⟨q, hq, rfl⟩ := List.mem_map.1 hn
          have := hb.1 q (List.mem_cons_of_mem _ hq)
          omega
        · simp at hn; omega
      have h0 : 0 ≤ mxI (p.1 : Int) (keysI k ++ [0]) := by have := g.1; omega
      refine ⟨(mxI (p.1 : Int) (keysI k ++ [0])).toNat, by omega, fun q hq => ?_, fun a S h => by rw [e a S h, Int.toNat_of_nonneg h0]⟩
      rcases List.mem_cons.1 hq with rfl | hq
      · have := g.1
        omega
      · have := g.2.1 (q.1 : Int) (List.mem_append_left _ (List.mem_map.2 ⟨q, hq, rfl⟩))
        omega
  simp only [P_seq, P_if, P_ret, P_expr, P_nil, P_asg, P_gNm, P_par, P_aug, P_gSub, P_gsNil, P_gsCons, P_loc, P_eK, P_e1, P_e2, P_eT, P_aNil, P_aCons, P_call, P_tup, P_lst, P_eIf, P_andB, P_orB, P_notB, P_ofO, P_tV, P_tB, P_tAnd, P_tOr, P_tNot, P_tYes, P_tC, P_ch, P_sl, P_oNo, P_oYes, P_mt, P_new, P_stp, Res.P_ok, SR.P_nx, SR.P_ret, P_if_res, P_bad, wip, List.set_cons_succ, List.set_cons_zero, List.getElem?_cons_succ, List.getElem?_cons_zero, List.getElem?_nil, List.length_cons, List.length_nil, P_addI, P_subI, P_augI, P_negI, P_lt, P_le, P_gt, P_ge, P_absI, P_intI, P_intB, cEq_ii, cNe_ii, cEq_bb, cEq_ss, cEq_ts, cEq_tn, cEq_tt, cNe_tt, P_sumT, P_lenT, P_listT, if_true, if_false, Bool.false_eq_true]
  refine P_for (rngL 1 B) (fun i r S' => ∃ o1 o2, r = [some (.ref d), o1, o2] ∧ Ext S S' ∧ ∀ e : Nat, 1 ≤ e → e ≤ i → 0 ≤ E e k) (by rw [rngL_len]; unfold LIM; omega) ?_ ?_ ?_
  · refine P_rng2 _ _ _ _ ?_
    simp only [P_seq, P_if, P_ret, P_expr, P_nil, P_asg, P_gNm, P_par, P_aug, P_gSub, P_gsNil, P_gsCons, P_loc, P_eK, P_e1, P_e2, P_eT, P_aNil, P_aCons, P_call, P_tup, P_lst, P_eIf, P_andB, P_orB, P_notB, P_ofO, P_tV, P_tB, P_tAnd, P_tOr, P_tNot, P_tYes, P_tC, P_ch, P_sl, P_oNo, P_oYes, P_mt, P_new, P_stp, Res.P_ok, SR.P_nx, SR.P_ret, P_if_res, P_bad, wip, List.set_cons_succ, List.set_cons_zero, List.getElem?_cons_succ, List.getElem?_cons_zero, List.getElem?_nil, List.length_cons, List.length_nil, P_addI, P_subI, P_augI, P_negI, P_lt, P_le, P_gt, P_ge, P_absI, P_intI, P_intB, cEq_ii, cNe_ii, cEq_bb, cEq_ss, cEq_ts, cEq_tn, cEq_tt, cNe_tt, P_sumT, P_lenT, P_listT, if_true, if_false, Bool.false_eq_true]
    rw [P_listK _ _ _ _ hS, keys_kvA]
    try simp only [P_seq, P_if, P_ret, P_expr, P_nil, P_asg, P_gNm, P_par, P_aug, P_gSub, P_gsNil, P_gsCons, P_loc, P_eK, P_e1, P_e2, P_eT, P_aNil, P_aCons, P_call, P_tup, P_lst, P_eIf, P_andB, P_orB, P_notB, P_ofO, P_tV, P_tB, P_tAnd, P_tOr, P_tNot, P_tYes, P_tC, P_ch, P_sl, P_oNo, P_oYes, P_mt, P_new, P_stp, Res.P_ok, SR.P_nx, SR.P_ret, P_if_res, P_bad, wip, List.set_cons_succ, List.set_cons_zero, List.getElem?_cons_succ, List.getElem?_cons_zero, List.getElem?_nil, List.length_cons, List.length_nil, P_addI, P_subI, P_augI, P_negI, P_lt, P_le, P_gt, P_ge, P_absI, P_intI, P_intB, cEq_ii, cNe_ii, cEq_bb, cEq_ss, cEq_ts, cEq_tn, cEq_tt, cNe_tt, P_sumT, P_lenT, P_listT, if_true, if_false, Bool.false_eq_true, szl]
    simp only [show (0 + 1 : Nat) ≤ 16777216 from by omega, if_true]
    have hkl : (keysI k).length ≤ 60 := by unfold keysI; rw [List.length_map]; exact hb.2
    rw [P_addL S.length (S ++ [AO.lst false (iv (keysI k))]).length (iv (keysI k)) [.int 0] _ (app_get (app_new _ _)) (app_new _ _) (by simp; omega)]
    have ee : iv (keysI k) ++ [AV.int 0] = iv (keysI k ++ [0]) := by simp
    rw [ee, hm _ _ (app_new _ _)]
    try simp only [P_seq, P_if, P_ret, P_expr, P_nil, P_asg, P_gNm, P_par, P_aug, P_gSub, P_gsNil, P_gsCons, P_loc, P_eK, P_e1, P_e2, P_eT, P_aNil, P_aCons, P_call, P_tup, P_lst, P_eIf, P_andB, P_orB, P_notB, P_ofO, P_tV, P_tB, P_tAnd, P_tOr, P_tNot, P_tYes, P_tC, P_ch, P_sl, P_oNo, P_oYes, P_mt, P_new, P_stp, Res.P_ok, SR.P_nx, SR.P_ret, P_if_res, P_bad, wip, List.set_cons_succ, List.set_cons_zero, List.getElem?_cons_succ, List.getElem?_cons_zero, List.getElem?_nil, List.length_cons, List.length_nil, P_addI, P_subI, P_augI, P_negI, P_lt, P_le, P_gt, P_ge, P_absI, P_intI, P_intB, cEq_ii, cNe_ii, cEq_bb, cEq_ss, cEq_ts, cEq_tn, cEq_tt, cNe_tt, P_sumT, P_lenT, P_listT, if_true, if_false, Bool.false_eq_true]
    refine ⟨1, (B : Int) + 1, rfl, by omega, by omega, by omega, by omega, fun i r' S' _ => ?_, none, none, rfl, (Ext.app _ _).trans ((Ext.app _ _).trans (Ext.app _ _)), fun e h1 h2 => by omega⟩
    have : ((B : Int) + 1 - 1).toNat = B := by omega
    rw [this]
    rfl
  · rintro i v r S1 hv ⟨o1, o2, rfl, e1, hE⟩
    obtain ⟨hi, rfl⟩ := rngL_get hv
    have hc : (1 : Int) + (i : Int) = ((i + 1 : Nat) : Int) := by omega
    rw [hc]
    try simp only [P_seq, P_if, P_ret, P_expr, P_nil, P_asg, P_gNm, P_par, P_aug, P_gSub, P_gsNil, P_gsCons, P_loc, P_eK, P_e1, P_e2, P_eT, P_aNil, P_aCons, P_call, P_tup, P_lst, P_eIf, P_andB, P_orB, P_notB, P_ofO, P_tV, P_tB, P_tAnd, P_tOr, P_tNot, P_tYes, P_tC, P_ch, P_sl, P_oNo, P_oYes, P_mt, P_new, P_stp, Res.P_ok, SR.P_nx, SR.P_ret, P_if_res, P_bad, wip, List.set_cons_succ, List.set_cons_zero, List.getElem?_cons_succ, List.getElem?_cons_zero, List.getElem?_nil, List.length_cons, List.length_nil, P_addI, P_subI, P_augI, P_negI, P_lt, P_le, P_gt, P_ge, P_absI, P_intI, P_intB, cEq_ii, cNe_ii, cEq_bb, cEq_ss, cEq_ts, cEq_tn, cEq_tt, cNe_tt, P_sumT, P_lenT, P_listT, if_true, if_false, Bool.false_eq_true]
    refine P_lcD (fun p => p.1) (fun v => match v with | .int n => if n % ((i + 1 : Nat) : Int) = 0 then [.int (getK k n)] else [] | _ => []) (fun _ => rfl) (e1 _ _ hS) (.inl rfl) (by rw [kvA_len]; have := hb.2; omega) ?_ ?_
    · intro v hv
      obtain ⟨p, hp, rfl⟩ := mem_kv hv
      unfold lcStp
      simp only [P_seq, P_if, P_ret, P_expr, P_nil, P_asg, P_gNm, P_par, P_aug, P_gSub, P_gsNil, P_gsCons, P_loc, P_eK, P_e1, P_e2, P_eT, P_aNil, P_aCons, P_call, P_tup, P_lst, P_eIf, P_andB, P_orB, P_notB, P_ofO, P_tV, P_tB, P_tAnd, P_tOr, P_tNot, P_tYes, P_tC, P_ch, P_sl, P_oNo, P_oYes, P_mt, P_new, P_stp, Res.P_ok, SR.P_nx, SR.P_ret, P_if_res, P_bad, wip, List.set_cons_succ, List.set_cons_zero, List.getElem?_cons_succ, List.getElem?_cons_zero, List.getElem?_nil, List.length_cons, List.length_nil, P_addI, P_subI, P_augI, P_negI, P_lt, P_le, P_gt, P_ge, P_absI, P_intI, P_intB, cEq_ii, cNe_ii, cEq_bb, cEq_ss, cEq_ts, cEq_tn, cEq_tt, cNe_tt, P_sumT, P_lenT, P_listT, if_true, if_false, Bool.false_eq_true]
      rw [P_modI _ _ _ _ (by omega)]
      try simp only [P_seq, P_if, P_ret, P_expr, P_nil, P_asg, P_gNm, P_par, P_aug, P_gSub, P_gsNil, P_gsCons, P_loc, P_eK, P_e1, P_e2, P_eT, P_aNil, P_aCons, P_call, P_tup, P_lst, P_eIf, P_andB, P_orB, P_notB, P_ofO, P_tV, P_tB, P_tAnd, P_tOr, P_tNot, P_tYes, P_tC, P_ch, P_sl, P_oNo, P_oYes, P_mt, P_new, P_stp, Res.P_ok, SR.P_nx, SR.P_ret, P_if_res, P_bad, wip, List.set_cons_succ, List.set_cons_zero, List.getElem?_cons_succ, List.getElem?_cons_zero, List.getElem?_nil, List.length_cons, List.length_nil, P_addI, P_subI, P_augI, P_negI, P_lt, P_le, P_gt, P_ge, P_absI, P_intI, P_intB, cEq_ii, cNe_ii, cEq_bb, cEq_ss, cEq_ts, cEq_tn, cEq_tt, cNe_tt, P_sumT, P_lenT, P_listT, if_true, if_false, Bool.false_eq_true]
      by_cases hz : (p.1 : Int) % ((i + 1 : Nat) : Int) = 0
      · have : ((p.1 : Int) % ((i + 1 : Nat) : Int) == 0) = true := beq_iff_eq.2 hz
        simp only [P_seq, P_if, P_ret, P_expr, P_nil, P_asg, P_gNm, P_par, P_aug, P_gSub, P_gsNil, P_gsCons, P_loc, P_eK, P_e1, P_e2, P_eT, P_aNil, P_aCons, P_call, P_tup, P_lst, P_eIf, P_andB, P_orB, P_notB, P_ofO, P_tV, P_tB, P_tAnd, P_tOr, P_tNot, P_tYes, P_tC, P_ch, P_sl, P_oNo, P_oYes, P_mt, P_new, P_stp, Res.P_ok, SR.P_nx, SR.P_ret, P_if_res, P_bad, wip, List.set_cons_succ, List.set_cons_zero, List.getElem?_cons_succ, List.getElem?_cons_zero, List.getElem?_nil, List.length_cons, List.length_nil, P_addI, P_subI, P_augI, P_negI, P_lt, P_le, P_gt, P_ge, P_absI, P_intI, P_intB, cEq_ii, cNe_ii, cEq_bb, cEq_ss, cEq_ts, cEq_tn, cEq_tt, cNe_tt, P_sumT, P_lenT, P_listT, if_true, if_false, Bool.false_eq_true, this, ix_kv k hnd p hp d true _ (set_get _ _ _ (get_lt (e1 _ _ hS)))]
        refine ⟨by trivial, ?_⟩
        rw [if_pos hz, getK_kv k hnd p hp]
      · have : ((p.1 : Int) % ((i + 1 : Nat) : Int) == 0) = false := beq_eq_false_iff_ne.2 hz
        simp only [P_seq, P_if, P_ret, P_expr, P_nil, P_asg, P_gNm, P_par, P_aug, P_gSub, P_gsNil, P_gsCons, P_loc, P_eK, P_e1, P_e2, P_eT, P_aNil, P_aCons, P_call, P_tup, P_lst, P_eIf, P_andB, P_orB, P_notB, P_ofO, P_tV, P_tB, P_tAnd, P_tOr, P_tNot, P_tYes, P_tC, P_ch, P_sl, P_oNo, P_oYes, P_mt, P_new, P_stp, Res.P_ok, SR.P_nx, SR.P_ret, P_if_res, P_bad, wip, List.set_cons_succ, List.set_cons_zero, List.getElem?_cons_succ, List.getElem?_cons_zero, List.getElem?_nil, List.length_cons, List.length_nil, P_addI, P_subI, P_augI, P_negI, P_lt, P_le, P_gt, P_ge, P_absI, P_intI, P_intB, cEq_ii, cNe_ii, cEq_bb, cEq_ss, cEq_ts, cEq_tn, cEq_tt, cNe_tt, P_sumT, P_lenT, P_listT, if_true, if_false, Bool.false_eq_true, this]
        exact ⟨by trivial, (if_neg hz).symm⟩
    · intro S2 e2 e3
      have e8 := flat_filter k (i + 1) (fun v => match v with | .int n => if n % ((i + 1 : Nat) : Int) = 0 then [.int (getK k n)] else [] | _ => []) (fun p => p.1) fun p hp => by
        show (if (p.1 : Int) % ((i + 1 : Nat) : Int) = 0 then [AV.int (getK k (p.1 : Int))] else []) = _
        rw [getK_kv k hnd p hp]
        by_cases hz : p.1 % (i + 1) = 0
        · rw [if_pos hz, if_pos ((modc _ _).2 hz)]
        · rw [if_neg hz, if_neg (fun h => hz ((modc _ _).1 h))]
      rw [e8] at e3
      try simp only [P_seq, P_if, P_ret, P_expr, P_nil, P_asg, P_gNm, P_par, P_aug, P_gSub, P_gsNil, P_gsCons, P_loc, P_eK, P_e1, P_e2, P_eT, P_aNil, P_aCons, P_call, P_tup, P_lst, P_eIf, P_andB, P_orB, P_notB, P_ofO, P_tV, P_tB, P_tAnd, P_tOr, P_tNot, P_tYes, P_tC, P_ch, P_sl, P_oNo, P_oYes, P_mt, P_new, P_stp, Res.P_ok, SR.P_nx, SR.P_ret, P_if_res, P_bad, wip, List.set_cons_succ, List.set_cons_zero, List.getElem?_cons_succ, List.getElem?_cons_zero, List.getElem?_nil, List.length_cons, List.length_nil, P_addI, P_subI, P_augI, P_negI, P_lt, P_le, P_gt, P_ge, P_absI, P_intI, P_intB, cEq_ii, cNe_ii, cEq_bb, cEq_ss, cEq_ts, cEq_tn, cEq_tt, cNe_tt, P_sumT, P_lenT, P_listT, if_true, if_false, Bool.false_eq_true, P_sumL _ _ _ _ e3]
      have eE : ((k.filter fun p => decide (p.1 % (i + 1) = 0)).map (·.2)).sum = E (i + 1) k := rfl
      rw [eE]
      by_cases hn : E (i + 1) k < 0
      · rw [decide_eq_true hn]
        try simp only [P_seq, P_if, P_ret, P_expr, P_nil, P_asg, P_gNm, P_par, P_aug, P_gSub, P_gsNil, P_gsCons, P_loc, P_eK, P_e1, P_e2, P_eT, P_aNil, P_aCons, P_call, P_tup, P_lst, P_eIf, P_andB, P_orB, P_notB, P_ofO, P_tV, P_tB, P_tAnd, P_tOr, P_tNot, P_tYes, P_tC, P_ch, P_sl, P_oNo, P_oYes, P_mt, P_new, P_stp, Res.P_ok, SR.P_nx, SR.P_ret, P_if_res, P_bad, wip, List.set_cons_succ, List.set_cons_zero, List.getElem?_cons_succ, List.getElem?_cons_zero, List.getElem?_nil, List.length_cons, List.length_nil, P_addI, P_subI, P_augI, P_negI, P_lt, P_le, P_gt, P_ge, P_absI, P_intI, P_intB, cEq_ii, cNe_ii, cEq_bb, cEq_ss, cEq_ts, cEq_tn, cEq_tt, cNe_tt, P_sumT, P_lenT, P_listT, if_true, if_false, Bool.false_eq_true]
        refine h false S2 (e1.trans e2) ⟨fun h => (by cases h), fun hw => ?_⟩
        have := hw (i + 1) (by omega)
        omega
      · rw [decide_eq_false hn]
        try simp only [P_seq, P_if, P_ret, P_expr, P_nil, P_asg, P_gNm, P_par, P_aug, P_gSub, P_gsNil, P_gsCons, P_loc, P_eK, P_e1, P_e2, P_eT, P_aNil, P_aCons, P_call, P_tup, P_lst, P_eIf, P_andB, P_orB, P_notB, P_ofO, P_tV, P_tB, P_tAnd, P_tOr, P_tNot, P_tYes, P_tC, P_ch, P_sl, P_oNo, P_oYes, P_mt, P_new, P_stp, Res.P_ok, SR.P_nx, SR.P_ret, P_if_res, P_bad, wip, List.set_cons_succ, List.set_cons_zero, List.getElem?_cons_succ, List.getElem?_cons_zero, List.getElem?_nil, List.length_cons, List.length_nil, P_addI, P_subI, P_augI, P_negI, P_lt, P_le, P_gt, P_ge, P_absI, P_intI, P_intB, cEq_ii, cNe_ii, cEq_bb, cEq_ss, cEq_ts, cEq_tn, cEq_tt, cNe_tt, P_sumT, P_lenT, P_listT, if_true, if_false, Bool.false_eq_true]
        refine ⟨_, _, rfl, e1.trans e2, fun e h1 h2 => ?_⟩
        by_cases he : e = i + 1
        · subst he; omega
        · exact hE e h1 (by omega)
  · rintro r S1 ⟨o1, o2, rfl, e1, hE⟩
    try simp only [P_seq, P_if, P_ret, P_expr, P_nil, P_asg, P_gNm, P_par, P_aug, P_gSub, P_gsNil, P_gsCons, P_loc, P_eK, P_e1, P_e2, P_eT, P_aNil, P_aCons, P_call, P_tup, P_lst, P_eIf, P_andB, P_orB, P_notB, P_ofO, P_tV, P_tB, P_tAnd, P_tOr, P_tNot, P_tYes, P_tC, P_ch, P_sl, P_oNo, P_oYes, P_mt, P_new, P_stp, Res.P_ok, SR.P_nx, SR.P_ret, P_if_res, P_bad, wip, List.set_cons_succ, List.set_cons_zero, List.getElem?_cons_succ, List.getElem?_cons_zero, List.getElem?_nil, List.length_cons, List.length_nil, P_addI, P_subI, P_augI, P_negI, P_lt, P_le, P_gt, P_ge, P_absI, P_intI, P_intB, cEq_ii, cNe_ii, cEq_bb, cEq_ss, cEq_ts, cEq_tn, cEq_tt, cNe_tt, P_sumT, P_lenT, P_listT, if_true, if_false, Bool.false_eq_true]
    refine h true S1 e1 ⟨fun _ e he => ?_, fun _ => rfl⟩
    rw [rngL_len] at hE
    by_cases hle : e ≤ B
    · exact hE e he hle
    · rw [E_zero k hb e fun p hp => by have := hk p hp; omega]
      omega
theorem x_factored (k : KV) (d m : Nat) (S : Sto) (hb : Bd k) (hnd : Nd k) (hS : S[d]? = some (.dct false (kvA k))) (hm : (m : Int) = 1 + degK k) (hm1 : 1 ≤ m) (hm2 : m < 5000) (Q : AV → Sto → Prop)
    (h : ∀ S', Ext S S' → Q (.tup (tab m fun i => sgK k * facs k one i)) S') : (d_q_factored [.ref d] S).P Q := by
  refine P_mkF [some (.ref d), none, none, none, none, none, none, none, none] rfl ?_
  obtain ⟨dg, rfl⟩ : ∃ dg, m = dg + 1 := ⟨m - 1, by omega⟩
  have hdg : degK k = (dg : Int) := by omega
  simp only [P_seq, P_if, P_ret, P_expr, P_nil, P_asg, P_gNm, P_par, P_aug, P_gSub, P_gsNil, P_gsCons, P_loc, P_eK, P_e1, P_e2, P_eT, P_aNil, P_aCons, P_call, P_tup, P_lst, P_eIf, P_andB, P_orB, P_notB, P_ofO, P_tV, P_tB, P_tAnd, P_tOr, P_tNot, P_tYes, P_tC, P_ch, P_sl, P_oNo, P_oYes, P_mt, P_new, P_stp, Res.P_ok, SR.P_nx, SR.P_ret, P_if_res, P_bad, wip, List.set_cons_succ, List.set_cons_zero, List.getElem?_cons_succ, List.getElem?_cons_zero, List.getElem?_nil, List.length_cons, List.length_nil, P_addI, P_subI, P_augI, P_negI, P_lt, P_le, P_gt, P_ge, P_absI, P_intI, P_intB, cEq_ii, cNe_ii, cEq_bb, cEq_ss, cEq_ts, cEq_tn, cEq_tt, cNe_tt, P_sumT, P_lenT, P_listT, if_true, if_false, Bool.false_eq_true]
  refine x_sumK (fun p => (p.1 : Int) * p.2) hb hnd hS 2 (fun _ => rfl) (fun _ => rfl) ?_ ?_
  · intro p hp
    simp only [P_seq, P_if, P_ret, P_expr, P_nil, P_asg, P_gNm, P_par, P_aug, P_gSub, P_gsNil, P_gsCons, P_loc, P_eK, P_e1, P_e2, P_eT, P_aNil, P_aCons, P_call, P_tup, P_lst, P_eIf, P_andB, P_orB, P_notB, P_ofO, P_tV, P_tB, P_tAnd, P_tOr, P_tNot, P_tYes, P_tC, P_ch, P_sl, P_oNo, P_oYes, P_mt, P_new, P_stp, Res.P_ok, SR.P_nx, SR.P_ret, P_if_res, P_bad, wip, List.set_cons_succ, List.set_cons_zero, List.getElem?_cons_succ, List.getElem?_cons_zero, List.getElem?_nil, List.length_cons, List.length_nil, P_addI, P_subI, P_augI, P_negI, P_lt, P_le, P_gt, P_ge, P_absI, P_intI, P_intB, cEq_ii, cNe_ii, cEq_bb, cEq_ss, cEq_ts, cEq_tn, cEq_tt, cNe_tt, P_sumT, P_lenT, P_listT, if_true, if_false, Bool.false_eq_true, ix_kv k hnd p hp d true _ (set_get _ _ _ (get_lt hS))]
    rw [P_mulS _ _ _ _ (.inl (sm_of (by omega) (by have := hb.1 p hp; omega)))]
    exact ⟨by trivial, by trivial⟩
  · intro S1 e1 y2
    rw [P_sumL _ _ _ _ y2]
    have : ((k.map fun p => (p.1 : Int) * p.2).sum) = (dg : Int) := hdg
    rw [this]
    try simp only [P_seq, P_if, P_ret, P_expr, P_nil, P_asg, P_gNm, P_par, P_aug, P_gSub, P_gsNil, P_gsCons, P_loc, P_eK, P_e1, P_e2, P_eT, P_aNil, P_aCons, P_call, P_tup, P_lst, P_eIf, P_andB, P_orB, P_notB, P_ofO, P_tV, P_tB, P_tAnd, P_tOr, P_tNot, P_tYes, P_tC, P_ch, P_sl, P_oNo, P_oYes, P_mt, P_new, P_stp, Res.P_ok, SR.P_nx, SR.P_ret, P_if_res, P_bad, wip, List.set_cons_succ, List.set_cons_zero, List.getElem?_cons_succ, List.getElem?_cons_zero, List.getElem?_nil, List.length_cons, List.length_nil, P_addI, P_subI, P_augI, P_negI, P_lt, P_le, P_gt, P_ge, P_absI, P_intI, P_intB, cEq_ii, cNe_ii, cEq_bb, cEq_ss, cEq_ts, cEq_tn, cEq_tt, cNe_tt, P_sumT, P_lenT, P_listT, if_true, if_false, Bool.false_eq_true, szl]
    simp only [show (0 + 1 : Nat) ≤ 16777216 from by omega, if_true]
    rw [P_mulL (S1 ++ [AO.lst false [.int 1]]).length [.int 0] dg _ (app_new _ _) (by simp; omega) (by omega), fl_one]
    rw [P_addL S1.length ((S1 ++ [AO.lst false [.int 1]]) ++ [AO.lst false [.int 0]]).length [.int 1] (iv (List.replicate dg 0)) _ (app_get (app_get (app_new _ _))) (app_new _ _) (by simp; omega), tab_one]
    have eS2 : Ext S1 (S1 ++ [AO.lst false [.int 1]] ++ [AO.lst false [.int 0]] ++ [AO.lst false (iv (List.replicate dg 0))]) := (Ext.app _ _).trans ((Ext.app _ _).trans (Ext.app _ _))
    generalize S1 ++ [AO.lst false [.int 1]] ++ [AO.lst false [.int 0]] ++ [AO.lst false (iv (List.replicate dg 0))] = S2 at eS2
    have e12 := e1.trans eS2
    have hp := app_new S2 (.lst false (tab (dg + 1) one))
    have e13 : Ext S (S2 ++ [AO.lst false (tab (dg + 1) one)]) := e12.trans (Ext.app _ _)
    have hge : S.length ≤ S2.length := e12.len
    generalize hS3 : S2 ++ [AO.lst false (tab (dg + 1) one)] = S3
    rw [hS3] at hp e13
    generalize S2.length = pf at hp hge
    clear hS3
    try simp only [P_seq, P_if, P_ret, P_expr, P_nil, P_asg, P_gNm, P_par, P_aug, P_gSub, P_gsNil, P_gsCons, P_loc, P_eK, P_e1, P_e2, P_eT, P_aNil, P_aCons, P_call, P_tup, P_lst, P_eIf, P_andB, P_orB, P_notB, P_ofO, P_tV, P_tB, P_tAnd, P_tOr, P_tNot, P_tYes, P_tC, P_ch, P_sl, P_oNo, P_oYes, P_mt, P_new, P_stp, Res.P_ok, SR.P_nx, SR.P_ret, P_if_res, P_bad, wip, List.set_cons_succ, List.set_cons_zero, List.getElem?_cons_succ, List.getElem?_cons_zero, List.getElem?_nil, List.length_cons, List.length_nil, P_addI, P_subI, P_augI, P_negI, P_lt, P_le, P_gt, P_ge, P_absI, P_intI, P_intB, cEq_ii, cNe_ii, cEq_bb, cEq_ss, cEq_ts, cEq_tn, cEq_tt, cNe_tt, P_sumT, P_lenT, P_listT, if_true, if_false, Bool.false_eq_true]
    have hd3 : S3[d]? = some (.dct false (kvA k)) := e13 _ _ hS
    have hdl := get_lt hS
    have hdl3 := get_lt hd3
    have hpd : pf ≠ d := by omega
    refine P_lkS rfl hd3 ?_
    refine P_for ((kvA k).map fun q => q.1) (fun i r S' => ∃ o2 o4 o5 o6, r = [some (.ref d), some (.int (dg : Int)), o2, some (.ref pf), o4, o5, o6, none, none] ∧ Ext (S.set d (.dct true (kvA k))) S' ∧ S'[pf]? = some (.lst false (tab (dg + 1) (facs (k.take i) one)))) (by rw [List.length_map, kvA_len]; have := hb.2; unfold LIM; omega) ?_ ?_ ?_
    · refine P_dct _ _ _ _ _ _ ?_
      simp only [P_seq, P_if, P_ret, P_expr, P_nil, P_asg, P_gNm, P_par, P_aug, P_gSub, P_gsNil, P_gsCons, P_loc, P_eK, P_e1, P_e2, P_eT, P_aNil, P_aCons, P_call, P_tup, P_lst, P_eIf, P_andB, P_orB, P_notB, P_ofO, P_tV, P_tB, P_tAnd, P_tOr, P_tNot, P_tYes, P_tC, P_ch, P_sl, P_oNo, P_oYes, P_mt, P_new, P_stp, Res.P_ok, SR.P_nx, SR.P_ret, P_if_res, P_bad, wip, List.set_cons_succ, List.set_cons_zero, List.getElem?_cons_succ, List.getElem?_cons_zero, List.getElem?_nil, List.length_cons, List.length_nil, P_addI, P_subI, P_augI, P_negI, P_lt, P_le, P_gt, P_ge, P_absI, P_intI, P_intB, cEq_ii, cNe_ii, cEq_bb, cEq_ss, cEq_ts, cEq_tn, cEq_tt, cNe_tt, P_sumT, P_lenT, P_listT, if_true, if_false, Bool.false_eq_true]
      refine ⟨d, kvA k, rfl, set_get _ _ _ hdl3, .inl (by trivial), ?_, none, none, none, none, rfl, ext_lk hS e13, ?_⟩
      · rintro i r' S' ⟨_, _, _, _, _, e, _⟩
        exact uDct_get (e _ _ (set_get _ _ _ hdl)) i
      · rw [set_ne _ _ _ _ hpd]
        exact hp
    · rintro i v r S4 hv ⟨o2, o4, o5, o6, rfl, e4, hp4⟩
      obtain ⟨q, hq, rfl⟩ := items_get hv
      have hqm : q ∈ k := List.mem_of_getElem? hq
      have hqb := hb.1 q hqm
      rw [facs_take k i q hq]
      have fe : fac q (facs (k.take i) one) = rp (if 0 < q.2 then M q.1 else Dv q.1) q.2.natAbs (facs (k.take i) one) := by unfold fac; split <;> rfl
      rw [fe]
      try simp only [P_seq, P_if, P_ret, P_expr, P_nil, P_asg, P_gNm, P_par, P_aug, P_gSub, P_gsNil, P_gsCons, P_loc, P_eK, P_e1, P_e2, P_eT, P_aNil, P_aCons, P_call, P_tup, P_lst, P_eIf, P_andB, P_orB, P_notB, P_ofO, P_tV, P_tB, P_tAnd, P_tOr, P_tNot, P_tYes, P_tC, P_ch, P_sl, P_oNo, P_oYes, P_mt, P_new, P_stp, Res.P_ok, SR.P_nx, SR.P_ret, P_if_res, P_bad, wip, List.set_cons_succ, List.set_cons_zero, List.getElem?_cons_succ, List.getElem?_cons_zero, List.getElem?_nil, List.length_cons, List.length_nil, P_addI, P_subI, P_augI, P_negI, P_lt, P_le, P_gt, P_ge, P_absI, P_intI, P_intB, cEq_ii, cNe_ii, cEq_bb, cEq_ss, cEq_ts, cEq_tn, cEq_tt, cNe_tt, P_sumT, P_lenT, P_listT, if_true, if_false, Bool.false_eq_true]
      refine P_for (rngL 0 q.2.natAbs) (fun j r1 S' => ∃ o4 o5 o6, r1 = [some (.ref d), some (.int (dg : Int)), some (.int (q.1 : Int)), some (.ref pf), o4, o5, o6, none, none] ∧ Ext (S.set d (.dct true (kvA k))) S' ∧ S'[pf]? = some (.lst false (tab (dg + 1) (rp (if 0 < q.2 then M q.1 else Dv q.1) j (facs (k.take i) one))))) (by rw [rngL_len]; unfold LIM; omega) ?_ ?_ ?_
      · refine P_rng1 _ _ _ _ ?_
        simp only [P_seq, P_if, P_ret, P_expr, P_nil, P_asg, P_gNm, P_par, P_aug, P_gSub, P_gsNil, P_gsCons, P_loc, P_eK, P_e1, P_e2, P_eT, P_aNil, P_aCons, P_call, P_tup, P_lst, P_eIf, P_andB, P_orB, P_notB, P_ofO, P_tV, P_tB, P_tAnd, P_tOr, P_tNot, P_tYes, P_tC, P_ch, P_sl, P_oNo, P_oYes, P_mt, P_new, P_stp, Res.P_ok, SR.P_nx, SR.P_ret, P_if_res, P_bad, wip, List.set_cons_succ, List.set_cons_zero, List.getElem?_cons_succ, List.getElem?_cons_zero, List.getElem?_nil, List.length_cons, List.length_nil, P_addI, P_subI, P_augI, P_negI, P_lt, P_le, P_gt, P_ge, P_absI, P_intI, P_intB, cEq_ii, cNe_ii, cEq_bb, cEq_ss, cEq_ts, cEq_tn, cEq_tt, cNe_tt, P_sumT, P_lenT, P_listT, if_true, if_false, Bool.false_eq_true, ix_kv k hnd q hqm d true _ (e4 _ _ (set_get _ _ _ hdl))]
        have e9 : (if q.2 < 0 then -q.2 else q.2) = (q.2.natAbs : Int) := by split <;> omega
        rw [e9]
        exact ⟨_, rfl, by omega, by omega, fun j r' S' _ => rfl, o4, o5, o6, rfl, e4, hp4⟩
      · intro j v r1 S5 hv2 hI
        obtain ⟨o4', hI⟩ := hI
        obtain ⟨o5', hI⟩ := hI
        obtain ⟨o6', hI⟩ := hI
        obtain ⟨hr, hI⟩ := hI
        obtain ⟨e5, hp5⟩ := hI
        rw [hr]
        have hj := (rngL_get hv2).1
        rw [(rngL_get hv2).2]
        clear hv2
        simp only [P_seq, P_if, P_ret, P_expr, P_nil, P_asg, P_gNm, P_par, P_aug, P_gSub, P_gsNil, P_gsCons, P_loc, P_eK, P_e1, P_e2, P_eT, P_aNil, P_aCons, P_call, P_tup, P_lst, P_eIf, P_andB, P_orB, P_notB, P_ofO, P_tV, P_tB, P_tAnd, P_tOr, P_tNot, P_tYes, P_tC, P_ch, P_sl, P_oNo, P_oYes, P_mt, P_new, P_stp, Res.P_ok, SR.P_nx, SR.P_ret, P_if_res, P_bad, wip, List.set_cons_succ, List.set_cons_zero, List.getElem?_cons_succ, List.getElem?_cons_zero, List.getElem?_nil, List.length_cons, List.length_nil, P_addI, P_subI, P_augI, P_negI, P_lt, P_le, P_gt, P_ge, P_absI, P_intI, P_intB, cEq_ii, cNe_ii, cEq_bb, cEq_ss, cEq_ts, cEq_tn, cEq_tt, cNe_tt, P_sumT, P_lenT, P_listT, if_true, if_false, Bool.false_eq_true]
        rw [P_rngL _ _ _ (by omega) (by omega) (by omega) (by omega)]
        try simp only [P_seq, P_if, P_ret, P_expr, P_nil, P_asg, P_gNm, P_par, P_aug, P_gSub, P_gsNil, P_gsCons, P_loc, P_eK, P_e1, P_e2, P_eT, P_aNil, P_aCons, P_call, P_tup, P_lst, P_eIf, P_andB, P_orB, P_notB, P_ofO, P_tV, P_tB, P_tAnd, P_tOr, P_tNot, P_tYes, P_tC, P_ch, P_sl, P_oNo, P_oYes, P_mt, P_new, P_stp, Res.P_ok, SR.P_nx, SR.P_ret, P_if_res, P_bad, wip, List.set_cons_succ, List.set_cons_zero, List.getElem?_cons_succ, List.getElem?_cons_zero, List.getElem?_nil, List.length_cons, List.length_nil, P_addI, P_subI, P_augI, P_negI, P_lt, P_le, P_gt, P_ge, P_absI, P_intI, P_intB, cEq_ii, cNe_ii, cEq_bb, cEq_ss, cEq_ts, cEq_tn, cEq_tt, cNe_tt, P_sumT, P_lenT, P_listT, if_true, if_false, Bool.false_eq_true]
        have hcnt : ((dg : Int) + 1 - (q.1 : Int)).toNat = dg + 1 - q.1 := by omega
        rw [hcnt]
        generalize hg : rp (if 0 < q.2 then M q.1 else Dv q.1) j (facs (k.take i) one) = g at hp5
        have e9 : rp (if 0 < q.2 then M q.1 else Dv q.1) (j + 1) (facs (k.take i) one) = (if 0 < q.2 then M q.1 else Dv q.1) g := by rw [← hg]; rfl
        rw [e9]
        have hn5 := app_new S5 (.lst false (rngL (q.1 : Int) (dg + 1 - q.1)))
        have e6 := Ext.app S5 [.lst false (rngL (q.1 : Int) (dg + 1 - q.1))]
        have hln : (S.set d (.dct true (kvA k))).length ≤ pf := by rw [List.length_set]; exact hge
        have hpl5 := get_lt hp5
        have hix : ∀ S', Ext (S.set d (.dct true (kvA k))) S' → oIx (.ref d) (.int (q.1 : Int)) S' = .ok (.int q.2) S' := fun S' e => ix_kv k hnd q hqm d true _ (e _ _ (set_get _ _ _ hdl))
        by_cases hs : 0 < q.2
        · have c2 : decide (0 < q.2) = true := decide_eq_true hs
          rw [if_pos hs]
          refine P_for (rngL (q.1 : Int) (dg + 1 - q.1)).reverse (fun l r2 S' => ∃ o6, r2 = [some (.ref d), some (.int (dg : Int)), some (.int (q.1 : Int)), some (.ref pf), some (.int (0 + (j : Int))), some (.ref S5.length), o6, none, none] ∧ Ext (S.set d (.dct true (kvA k))) S' ∧ S'[S5.length + 1]? = some (.lst false (rngL (q.1 : Int) (dg + 1 - q.1)).reverse) ∧ S'[pf]? = some (.lst false (tab (dg + 1) (mulS (dg + 1) q.1 l g)))) (by rw [List.length_reverse, rngL_len]; unfold LIM; omega) ?_ ?_ ?_
          · refine P_seqL _ _ _ _ ?_
            simp only [P_seq, P_if, P_ret, P_expr, P_nil, P_asg, P_gNm, P_par, P_aug, P_gSub, P_gsNil, P_gsCons, P_loc, P_eK, P_e1, P_e2, P_eT, P_aNil, P_aCons, P_call, P_tup, P_lst, P_eIf, P_andB, P_orB, P_notB, P_ofO, P_tV, P_tB, P_tAnd, P_tOr, P_tNot, P_tYes, P_tC, P_ch, P_sl, P_oNo, P_oYes, P_mt, P_new, P_stp, Res.P_ok, SR.P_nx, SR.P_ret, P_if_res, P_bad, wip, List.set_cons_succ, List.set_cons_zero, List.getElem?_cons_succ, List.getElem?_cons_zero, List.getElem?_nil, List.length_cons, List.length_nil, P_addI, P_subI, P_augI, P_negI, P_lt, P_le, P_gt, P_ge, P_absI, P_intI, P_intB, cEq_ii, cNe_ii, cEq_bb, cEq_ss, cEq_ts, cEq_tn, cEq_tt, cNe_tt, P_sumT, P_lenT, P_listT, if_true, if_false, Bool.false_eq_true, hix _ (e5.trans e6), c2, oRev_X _ _ _ _ hn5]
            have hn6 := app_new (S5 ++ [AO.lst false (rngL (q.1 : Int) (dg + 1 - q.1))]) (.lst false (rngL (q.1 : Int) (dg + 1 - q.1)).reverse)
            have hl6 : (S5 ++ [AO.lst false (rngL (q.1 : Int) (dg + 1 - q.1))]).length = S5.length + 1 := by simp
            rw [hl6] at hn6 ⊢
            refine ⟨_, false, _, rfl, hn6, ?_, o6', rfl, e5.trans (e6.trans (Ext.app _ _)), hn6, ?_⟩
            · rintro l r' S' ⟨_, _, _, e, _⟩
              exact uLive_get e l
            · rw [app_get (app_get hp5), tab_congr (f := mulS (dg + 1) q.1 0 g) (g := g) fun j hj => mulS_old _ _ _ _ _ (by omega)]
          · rintro l v r2 S6 hv3 ⟨o6'', rfl, e7, hr6, hp6⟩
            obtain ⟨hl, rfl⟩ := rngL_rev hv3
            have hat : (q.1 : Int) + ((dg + 1 - q.1 - 1 - l : Nat) : Int) = ((dg + 1 - 1 - l : Nat) : Int) := by omega
            rw [hat]
            try simp only [P_seq, P_if, P_ret, P_expr, P_nil, P_asg, P_gNm, P_par, P_aug, P_gSub, P_gsNil, P_gsCons, P_loc, P_eK, P_e1, P_e2, P_eT, P_aNil, P_aCons, P_call, P_tup, P_lst, P_eIf, P_andB, P_orB, P_notB, P_ofO, P_tV, P_tB, P_tAnd, P_tOr, P_tNot, P_tYes, P_tC, P_ch, P_sl, P_oNo, P_oYes, P_mt, P_new, P_stp, Res.P_ok, SR.P_nx, SR.P_ret, P_if_res, P_bad, wip, List.set_cons_succ, List.set_cons_zero, List.getElem?_cons_succ, List.getElem?_cons_zero, List.getElem?_nil, List.length_cons, List.length_nil, P_addI, P_subI, P_augI, P_negI, P_lt, P_le, P_gt, P_ge, P_absI, P_intI, P_intB, cEq_ii, cNe_ii, cEq_bb, cEq_ss, cEq_ts, cEq_tn, cEq_tt, cNe_tt, P_sumT, P_lenT, P_listT, if_true, if_false, Bool.false_eq_true, hix _ e7, c2]
            rw [P_ixTab _ _ _ _ _ _ (dg + 1 - 1 - l) hp6 rfl (by omega)]
            try simp only [P_seq, P_if, P_ret, P_expr, P_nil, P_asg, P_gNm, P_par, P_aug, P_gSub, P_gsNil, P_gsCons, P_loc, P_eK, P_e1, P_e2, P_eT, P_aNil, P_aCons, P_call, P_tup, P_lst, P_eIf, P_andB, P_orB, P_notB, P_ofO, P_tV, P_tB, P_tAnd, P_tOr, P_tNot, P_tYes, P_tC, P_ch, P_sl, P_oNo, P_oYes, P_mt, P_new, P_stp, Res.P_ok, SR.P_nx, SR.P_ret, P_if_res, P_bad, wip, List.set_cons_succ, List.set_cons_zero, List.getElem?_cons_succ, List.getElem?_cons_zero, List.getElem?_nil, List.length_cons, List.length_nil, P_addI, P_subI, P_augI, P_negI, P_lt, P_le, P_gt, P_ge, P_absI, P_intI, P_intB, cEq_ii, cNe_ii, cEq_bb, cEq_ss, cEq_ts, cEq_tn, cEq_tt, cNe_tt, P_sumT, P_lenT, P_listT, if_true, if_false, Bool.false_eq_true]
            rw [P_ixTab _ _ _ _ _ _ (dg + 1 - 1 - l - q.1) hp6 (by omega) (by omega)]
            try simp only [P_seq, P_if, P_ret, P_expr, P_nil, P_asg, P_gNm, P_par, P_aug, P_gSub, P_gsNil, P_gsCons, P_loc, P_eK, P_e1, P_e2, P_eT, P_aNil, P_aCons, P_call, P_tup, P_lst, P_eIf, P_andB, P_orB, P_notB, P_ofO, P_tV, P_tB, P_tAnd, P_tOr, P_tNot, P_tYes, P_tC, P_ch, P_sl, P_oNo, P_oYes, P_mt, P_new, P_stp, Res.P_ok, SR.P_nx, SR.P_ret, P_if_res, P_bad, wip, List.set_cons_succ, List.set_cons_zero, List.getElem?_cons_succ, List.getElem?_cons_zero, List.getElem?_nil, List.length_cons, List.length_nil, P_addI, P_subI, P_augI, P_negI, P_lt, P_le, P_gt, P_ge, P_absI, P_intI, P_intB, cEq_ii, cNe_ii, cEq_bb, cEq_ss, cEq_ts, cEq_tn, cEq_tt, cNe_tt, P_sumT, P_lenT, P_listT, if_true, if_false, Bool.false_eq_true]
            rw [P_setTab _ _ _ _ _ (dg + 1 - 1 - l) _ hp6 rfl (by omega)]
            refine ⟨_, rfl, ext_set _ e7 hln, ?_, ?_⟩
            · rw [set_ne _ _ _ _ (by omega)]
              exact hr6
            · rw [set_get _ _ _ (get_lt hp6), mulS_old _ _ l g _ (by omega), mulS_old _ _ l g _ (by omega), tab_congr (mulS_step (dg + 1) q.1 l g (by omega) (by omega))]
          · rintro r2 S6 ⟨o6'', rfl, e7, hr6, hp6⟩
            rw [List.length_reverse, rngL_len, tab_congr (mulS_end (dg + 1) q.1 g)] at hp6
            exact ⟨_, _, _, rfl, e7, hp6⟩
        · have c2 : decide (0 < q.2) = false := decide_eq_false hs
          rw [if_neg hs]
          refine P_for (rngL (q.1 : Int) (dg + 1 - q.1)) (fun l r2 S' => ∃ o6, r2 = [some (.ref d), some (.int (dg : Int)), some (.int (q.1 : Int)), some (.ref pf), some (.int (0 + (j : Int))), some (.ref S5.length), o6, none, none] ∧ Ext (S.set d (.dct true (kvA k))) S' ∧ S'[S5.length]? = some (.lst false (rngL (q.1 : Int) (dg + 1 - q.1))) ∧ S'[pf]? = some (.lst false (tab (dg + 1) (dvS q.1 l g)))) (by rw [rngL_len]; unfold LIM; omega) ?_ ?_ ?_
          · refine P_seqL _ _ _ _ ?_
            simp only [P_seq, P_if, P_ret, P_expr, P_nil, P_asg, P_gNm, P_par, P_aug, P_gSub, P_gsNil, P_gsCons, P_loc, P_eK, P_e1, P_e2, P_eT, P_aNil, P_aCons, P_call, P_tup, P_lst, P_eIf, P_andB, P_orB, P_notB, P_ofO, P_tV, P_tB, P_tAnd, P_tOr, P_tNot, P_tYes, P_tC, P_ch, P_sl, P_oNo, P_oYes, P_mt, P_new, P_stp, Res.P_ok, SR.P_nx, SR.P_ret, P_if_res, P_bad, wip, List.set_cons_succ, List.set_cons_zero, List.getElem?_cons_succ, List.getElem?_cons_zero, List.getElem?_nil, List.length_cons, List.length_nil, P_addI, P_subI, P_augI, P_negI, P_lt, P_le, P_gt, P_ge, P_absI, P_intI, P_intB, cEq_ii, cNe_ii, cEq_bb, cEq_ss, cEq_ts, cEq_tn, cEq_tt, cNe_tt, P_sumT, P_lenT, P_listT, if_true, if_false, Bool.false_eq_true, hix _ (e5.trans e6), c2]
            refine ⟨_, false, _, rfl, hn5, ?_, o6', rfl, e5.trans e6, hn5, ?_⟩
            · rintro l r' S' ⟨_, _, _, e, _⟩
              exact uLive_get e l
            · rw [app_get hp5, tab_congr (dvS_zero (dg + 1) q.1 g)]
          · rintro l v r2 S6 hv3 ⟨o6'', rfl, e7, hr6, hp6⟩
            obtain ⟨hl, rfl⟩ := rngL_get hv3
            simp only [P_seq, P_if, P_ret, P_expr, P_nil, P_asg, P_gNm, P_par, P_aug, P_gSub, P_gsNil, P_gsCons, P_loc, P_eK, P_e1, P_e2, P_eT, P_aNil, P_aCons, P_call, P_tup, P_lst, P_eIf, P_andB, P_orB, P_notB, P_ofO, P_tV, P_tB, P_tAnd, P_tOr, P_tNot, P_tYes, P_tC, P_ch, P_sl, P_oNo, P_oYes, P_mt, P_new, P_stp, Res.P_ok, SR.P_nx, SR.P_ret, P_if_res, P_bad, wip, List.set_cons_succ, List.set_cons_zero, List.getElem?_cons_succ, List.getElem?_cons_zero, List.getElem?_nil, List.length_cons, List.length_nil, P_addI, P_subI, P_augI, P_negI, P_lt, P_le, P_gt, P_ge, P_absI, P_intI, P_intB, cEq_ii, cNe_ii, cEq_bb, cEq_ss, cEq_ts, cEq_tn, cEq_tt, cNe_tt, P_sumT, P_lenT, P_listT, if_true, if_false, Bool.false_eq_true, hix _ e7, c2]
            rw [P_ixTab _ _ _ _ _ _ (q.1 + l) hp6 (by omega) (by omega)]
            try simp only [P_seq, P_if, P_ret, P_expr, P_nil, P_asg, P_gNm, P_par, P_aug, P_gSub, P_gsNil, P_gsCons, P_loc, P_eK, P_e1, P_e2, P_eT, P_aNil, P_aCons, P_call, P_tup, P_lst, P_eIf, P_andB, P_orB, P_notB, P_ofO, P_tV, P_tB, P_tAnd, P_tOr, P_tNot, P_tYes, P_tC, P_ch, P_sl, P_oNo, P_oYes, P_mt, P_new, P_stp, Res.P_ok, SR.P_nx, SR.P_ret, P_if_res, P_bad, wip, List.set_cons_succ, List.set_cons_zero, List.getElem?_cons_succ, List.getElem?_cons_zero, List.getElem?_nil, List.length_cons, List.length_nil, P_addI, P_subI, P_augI, P_negI, P_lt, P_le, P_gt, P_ge, P_absI, P_intI, P_intB, cEq_ii, cNe_ii, cEq_bb, cEq_ss, cEq_ts, cEq_tn, cEq_tt, cNe_tt, P_sumT, P_lenT, P_listT, if_true, if_false, Bool.false_eq_true]
            rw [P_ixTab _ _ _ _ _ _ l hp6 (by omega) (by omega)]
            try simp only [P_seq, P_if, P_ret, P_expr, P_nil, P_asg, P_gNm, P_par, P_aug, P_gSub, P_gsNil, P_gsCons, P_loc, P_eK, P_e1, P_e2, P_eT, P_aNil, P_aCons, P_call, P_tup, P_lst, P_eIf, P_andB, P_orB, P_notB, P_ofO, P_tV, P_tB, P_tAnd, P_tOr, P_tNot, P_tYes, P_tC, P_ch, P_sl, P_oNo, P_oYes, P_mt, P_new, P_stp, Res.P_ok, SR.P_nx, SR.P_ret, P_if_res, P_bad, wip, List.set_cons_succ, List.set_cons_zero, List.getElem?_cons_succ, List.getElem?_cons_zero, List.getElem?_nil, List.length_cons, List.length_nil, P_addI, P_subI, P_augI, P_negI, P_lt, P_le, P_gt, P_ge, P_absI, P_intI, P_intB, cEq_ii, cNe_ii, cEq_bb, cEq_ss, cEq_ts, cEq_tn, cEq_tt, cNe_tt, P_sumT, P_lenT, P_listT, if_true, if_false, Bool.false_eq_true]
            rw [P_setTab _ _ _ _ _ (q.1 + l) _ hp6 (by omega) (by omega)]
            refine ⟨_, rfl, ext_set _ e7 hln, ?_, ?_⟩
            · rw [set_ne _ _ _ _ (by omega)]
              exact hr6
            · rw [set_get _ _ _ (get_lt hp6), tab_congr (dvS_step (dg + 1) q.1 l g (by omega))]
          · rintro r2 S6 ⟨o6'', rfl, e7, hr6, hp6⟩
            rw [rngL_len, tab_congr (dvS_end (dg + 1) q.1 g)] at hp6
            exact ⟨_, _, _, rfl, e7, hp6⟩
      · rintro r1 S5 ⟨o4', o5', o6', rfl, e5, hp5⟩
        rw [rngL_len] at hp5
        exact ⟨_, _, _, _, rfl, e5, hp5⟩
    · rintro r S4 ⟨o2, o4, o5, o6, rfl, e4, hp4⟩
      rw [List.length_map, kvA_len, List.take_length] at hp4
      have hd4 := e4 _ _ (set_get _ _ _ hdl)
      have e5 : Ext S (S4.set d (.dct false (kvA k))) := ext_unlk hS e4
      refine ⟨kvA k, hd4, ?_⟩
      have hp5 : (S4.set d (.dct false (kvA k)))[pf]? = some (.lst false (tab (dg + 1) (facs k one))) := by rw [set_ne _ _ _ _ hpd]; exact hp4
      generalize S4.set d (.dct false (kvA k)) = S5 at e5 hp5
      have hd5 := e5 _ _ hS
      simp only [P_seq, P_if, P_ret, P_expr, P_nil, P_asg, P_gNm, P_par, P_aug, P_gSub, P_gsNil, P_gsCons, P_loc, P_eK, P_e1, P_e2, P_eT, P_aNil, P_aCons, P_call, P_tup, P_lst, P_eIf, P_andB, P_orB, P_notB, P_ofO, P_tV, P_tB, P_tAnd, P_tOr, P_tNot, P_tYes, P_tC, P_ch, P_sl, P_oNo, P_oYes, P_mt, P_new, P_stp, Res.P_ok, SR.P_nx, SR.P_ret, P_if_res, P_bad, wip, List.set_cons_succ, List.set_cons_zero, List.getElem?_cons_succ, List.getElem?_cons_zero, List.getElem?_nil, List.length_cons, List.length_nil, P_addI, P_subI, P_augI, P_negI, P_lt, P_le, P_gt, P_ge, P_absI, P_intI, P_intB, cEq_ii, cNe_ii, cEq_bb, cEq_ss, cEq_ts, cEq_tn, cEq_tt, cNe_tt, P_sumT, P_lenT, P_listT, if_true, if_false, Bool.false_eq_true]
      refine x_sumK (fun p => p.2) hb hnd hd5 2 (fun _ => rfl) (fun _ => rfl) ?_ ?_
      · intro p hp
        simp only [P_seq, P_if, P_ret, P_expr, P_nil, P_asg, P_gNm, P_par, P_aug, P_gSub, P_gsNil, P_gsCons, P_loc, P_eK, P_e1, P_e2, P_eT, P_aNil, P_aCons, P_call, P_tup, P_lst, P_eIf, P_andB, P_orB, P_notB, P_ofO, P_tV, P_tB, P_tAnd, P_tOr, P_tNot, P_tYes, P_tC, P_ch, P_sl, P_oNo, P_oYes, P_mt, P_new, P_stp, Res.P_ok, SR.P_nx, SR.P_ret, P_if_res, P_bad, wip, List.set_cons_succ, List.set_cons_zero, List.getElem?_cons_succ, List.getElem?_cons_zero, List.getElem?_nil, List.length_cons, List.length_nil, P_addI, P_subI, P_augI, P_negI, P_lt, P_le, P_gt, P_ge, P_absI, P_intI, P_intB, cEq_ii, cNe_ii, cEq_bb, cEq_ss, cEq_ts, cEq_tn, cEq_tt, cNe_tt, P_sumT, P_lenT, P_listT, if_true, if_false, Bool.false_eq_true, ix_kv k hnd p hp d true _ (set_get _ _ _ (get_lt hd5))]
        exact ⟨by trivial, by trivial⟩
      · intro S6 e6 e7
        rw [P_sumL _ _ _ _ e7]
        have : (k.map fun p => p.2).sum = totK k := rfl
        rw [this]
        try simp only [P_seq, P_if, P_ret, P_expr, P_nil, P_asg, P_gNm, P_par, P_aug, P_gSub, P_gsNil, P_gsCons, P_loc, P_eK, P_e1, P_e2, P_eT, P_aNil, P_aCons, P_call, P_tup, P_lst, P_eIf, P_andB, P_orB, P_notB, P_ofO, P_tV, P_tB, P_tAnd, P_tOr, P_tNot, P_tYes, P_tC, P_ch, P_sl, P_oNo, P_oYes, P_mt, P_new, P_stp, Res.P_ok, SR.P_nx, SR.P_ret, P_if_res, P_bad, wip, List.set_cons_succ, List.set_cons_zero, List.getElem?_cons_succ, List.getElem?_cons_zero, List.getElem?_nil, List.length_cons, List.length_nil, P_addI, P_subI, P_augI, P_negI, P_lt, P_le, P_gt, P_ge, P_absI, P_intI, P_intB, cEq_ii, cNe_ii, cEq_bb, cEq_ss, cEq_ts, cEq_tn, cEq_tt, cNe_tt, P_sumT, P_lenT, P_listT, if_true, if_false, Bool.false_eq_true]
        rw [P_modI _ _ _ _ (by omega)]
        have hp6 := e6 _ _ hp5
        have fin : (sRet (eCall pTuple (aCons (eLc [8] (iSeq (eLoc 3)) (gNm 8) (Mc.tYes) (e2 oMul (eLoc 7) (eLoc 8))) (aNil))) [some (.ref d), some (.int (dg : Int)), o2, some (.ref pf), o4, o5, o6, some (.int (sgn (totK k))), none] S6).P (fun _ S1 => Q .non S1) Q := by
          simp only [P_seq, P_if, P_ret, P_expr, P_nil, P_asg, P_gNm, P_par, P_aug, P_gSub, P_gsNil, P_gsCons, P_loc, P_eK, P_e1, P_e2, P_eT, P_aNil, P_aCons, P_call, P_tup, P_lst, P_eIf, P_andB, P_orB, P_notB, P_ofO, P_tV, P_tB, P_tAnd, P_tOr, P_tNot, P_tYes, P_tC, P_ch, P_sl, P_oNo, P_oYes, P_mt, P_new, P_stp, Res.P_ok, SR.P_nx, SR.P_ret, P_if_res, P_bad, wip, List.set_cons_succ, List.set_cons_zero, List.getElem?_cons_succ, List.getElem?_cons_zero, List.getElem?_nil, List.length_cons, List.length_nil, P_addI, P_subI, P_augI, P_negI, P_lt, P_le, P_gt, P_ge, P_absI, P_intI, P_intB, cEq_ii, cNe_ii, cEq_bb, cEq_ss, cEq_ts, cEq_tn, cEq_tt, cNe_tt, P_sumT, P_lenT, P_listT, if_true, if_false, Bool.false_eq_true]
          refine P_lc_pure (tab (dg + 1) (facs k one)) (fun v => match v with | .int x => [.int (sgn (totK k) * x)] | _ => []) (by rw [tab_len]; unfold LIM; omega) ?_ ?_ ?_
          · refine P_seqL _ _ _ _ ?_
            simp only [P_seq, P_if, P_ret, P_expr, P_nil, P_asg, P_gNm, P_par, P_aug, P_gSub, P_gsNil, P_gsCons, P_loc, P_eK, P_e1, P_e2, P_eT, P_aNil, P_aCons, P_call, P_tup, P_lst, P_eIf, P_andB, P_orB, P_notB, P_ofO, P_tV, P_tB, P_tAnd, P_tOr, P_tNot, P_tYes, P_tC, P_ch, P_sl, P_oNo, P_oYes, P_mt, P_new, P_stp, Res.P_ok, SR.P_nx, SR.P_ret, P_if_res, P_bad, wip, List.set_cons_succ, List.set_cons_zero, List.getElem?_cons_succ, List.getElem?_cons_zero, List.getElem?_nil, List.length_cons, List.length_nil, P_addI, P_subI, P_augI, P_negI, P_lt, P_le, P_gt, P_ge, P_absI, P_intI, P_intB, cEq_ii, cNe_ii, cEq_bb, cEq_ss, cEq_ts, cEq_tn, cEq_tt, cNe_tt, P_sumT, P_lenT, P_listT, if_true, if_false, Bool.false_eq_true]
            exact ⟨pf, false, _, rfl, hp6, fun i => uLive_get hp6 i, by trivial⟩
          · intro v hv
            obtain ⟨x, hx, rfl⟩ := List.mem_map.1 hv
            unfold lcStp
            simp only [P_seq, P_if, P_ret, P_expr, P_nil, P_asg, P_gNm, P_par, P_aug, P_gSub, P_gsNil, P_gsCons, P_loc, P_eK, P_e1, P_e2, P_eT, P_aNil, P_aCons, P_call, P_tup, P_lst, P_eIf, P_andB, P_orB, P_notB, P_ofO, P_tV, P_tB, P_tAnd, P_tOr, P_tNot, P_tYes, P_tC, P_ch, P_sl, P_oNo, P_oYes, P_mt, P_new, P_stp, Res.P_ok, SR.P_nx, SR.P_ret, P_if_res, P_bad, wip, List.set_cons_succ, List.set_cons_zero, List.getElem?_cons_succ, List.getElem?_cons_zero, List.getElem?_nil, List.length_cons, List.length_nil, P_addI, P_subI, P_augI, P_negI, P_lt, P_le, P_gt, P_ge, P_absI, P_intI, P_intB, cEq_ii, cNe_ii, cEq_bb, cEq_ss, cEq_ts, cEq_tn, cEq_tt, cNe_tt, P_sumT, P_lenT, P_listT, if_true, if_false, Bool.false_eq_true]
            have hs : smA (sgn (totK k)) = true := by unfold sgn; split <;> decide
            rw [P_mulS _ _ _ _ (.inl hs)]
            exact ⟨by trivial, by trivial⟩
          · have e6' : ((tab (dg + 1) (facs k one)).flatMap fun v => match v with | .int x => [AV.int (sgn (totK k) * x)] | _ => []) = tab (dg + 1) fun i => sgK k * facs k one i := by
              rw [flat_ivF (fun x => sgn (totK k) * x) _ (fun x => rfl)]
              unfold tabI
              rw [List.map_map]
              rfl
            rw [e6', P_tupL _ _ _ _ (app_new _ _)]
            exact h _ (e5.trans (e6.trans (Ext.app _ _)))
        by_cases hc : totK k % 2 = 1
        · have c1 : (totK k % 2 == 1) = true := beq_iff_eq.2 hc
          have c3 : sgn (totK k) = -1 := if_pos hc
          simp only [P_seq, P_if, P_ret, P_expr, P_nil, P_asg, P_gNm, P_par, P_aug, P_gSub, P_gsNil, P_gsCons, P_loc, P_eK, P_e1, P_e2, P_eT, P_aNil, P_aCons, P_call, P_tup, P_lst, P_eIf, P_andB, P_orB, P_notB, P_ofO, P_tV, P_tB, P_tAnd, P_tOr, P_tNot, P_tYes, P_tC, P_ch, P_sl, P_oNo, P_oYes, P_mt, P_new, P_stp, Res.P_ok, SR.P_nx, SR.P_ret, P_if_res, P_bad, wip, List.set_cons_succ, List.set_cons_zero, List.getElem?_cons_succ, List.getElem?_cons_zero, List.getElem?_nil, List.length_cons, List.length_nil, P_addI, P_subI, P_augI, P_negI, P_lt, P_le, P_gt, P_ge, P_absI, P_intI, P_intB, cEq_ii, cNe_ii, cEq_bb, cEq_ss, cEq_ts, cEq_tn, cEq_tt, cNe_tt, P_sumT, P_lenT, P_listT, if_true, if_false, Bool.false_eq_true, c1]
          rw [c3] at fin
          have := fin
          rw [P_ret] at this
          try simp only [P_seq, P_if, P_ret, P_expr, P_nil, P_asg, P_gNm, P_par, P_aug, P_gSub, P_gsNil, P_gsCons, P_loc, P_eK, P_e1, P_e2, P_eT, P_aNil, P_aCons, P_call, P_tup, P_lst, P_eIf, P_andB, P_orB, P_notB, P_ofO, P_tV, P_tB, P_tAnd, P_tOr, P_tNot, P_tYes, P_tC, P_ch, P_sl, P_oNo, P_oYes, P_mt, P_new, P_stp, Res.P_ok, SR.P_nx, SR.P_ret, P_if_res, P_bad, wip, List.set_cons_succ, List.set_cons_zero, List.getElem?_cons_succ, List.getElem?_cons_zero, List.getElem?_nil, List.length_cons, List.length_nil, P_addI, P_subI, P_augI, P_negI, P_lt, P_le, P_gt, P_ge, P_absI, P_intI, P_intB, cEq_ii, cNe_ii, cEq_bb, cEq_ss, cEq_ts, cEq_tn, cEq_tt, cNe_tt, P_sumT, P_lenT, P_listT, if_true, if_false, Bool.false_eq_true] at this
          exact this
        · have c1 : (totK k % 2 == 1) = false := beq_eq_false_iff_ne.2 hc
          have c3 : sgn (totK k) = 1 := if_neg hc
          simp only [P_seq, P_if, P_ret, P_expr, P_nil, P_asg, P_gNm, P_par, P_aug, P_gSub, P_gsNil, P_gsCons, P_loc, P_eK, P_e1, P_e2, P_eT, P_aNil, P_aCons, P_call, P_tup, P_lst, P_eIf, P_andB, P_orB, P_notB, P_ofO, P_tV, P_tB, P_tAnd, P_tOr, P_tNot, P_tYes, P_tC, P_ch, P_sl, P_oNo, P_oYes, P_mt, P_new, P_stp, Res.P_ok, SR.P_nx, SR.P_ret, P_if_res, P_bad, wip, List.set_cons_succ, List.set_cons_zero, List.getElem?_cons_succ, List.getElem?_cons_zero, List.getElem?_nil, List.length_cons, List.length_nil, P_addI, P_subI, P_augI, P_negI, P_lt, P_le, P_gt, P_ge, P_absI, P_intI, P_intB, cEq_ii, cNe_ii, cEq_bb, cEq_ss, cEq_ts, cEq_tn, cEq_tt, cNe_tt, P_sumT, P_lenT, P_listT, if_true, if_false, Bool.false_eq_true, c1]
          rw [c3] at fin
          have := fin
          rw [P_ret] at this
          try simp only [P_seq, P_if, P_ret, P_expr, P_nil, P_asg, P_gNm, P_par, P_aug, P_gSub, P_gsNil, P_gsCons, P_loc, P_eK, P_e1, P_e2, P_eT, P_aNil, P_aCons, P_call, P_tup, P_lst, P_eIf, P_andB, P_orB, P_notB, P_ofO, P_tV, P_tB, P_tAnd, P_tOr, P_tNot, P_tYes, P_tC, P_ch, P_sl, P_oNo, P_oYes, P_mt, P_new, P_stp, Res.P_ok, SR.P_nx, SR.P_ret, P_if_res, P_bad, wip, List.set_cons_succ, List.set_cons_zero, List.getElem?_cons_succ, List.getElem?_cons_zero, List.getElem?_nil, List.length_cons, List.length_nil, P_addI, P_subI, P_augI, P_negI, P_lt, P_le, P_gt, P_ge, P_absI, P_intI, P_intB, cEq_ii, cNe_ii, cEq_bb, cEq_ss, cEq_ts, cEq_tn, cEq_tt, cNe_tt, P_sumT, P_lenT, P_listT, if_true, if_false, Bool.false_eq_true] at this
          exact this
end Mc.Lk83
end
section
set_option Elab.async false
set_option linter.all false
set_option maxRecDepth 100000
/-! K83_y: drawn factor tables -/
namespace Mc.Lk83
open PySem Mc.Py
theorem P_forE {N : Env → Sto → Prop} {R : AV → Sto → Prop} {u : DI} {g : DG} {b : DS} {r : Env} {S : Sto}
    (hu : (u r S).P fun s S1 => ∃ (xs : List AV) (Inv : Nat → Env → Sto → Prop), xs.length < LIM ∧ (∀ i r' S', Inv i r' S' → s S' i = some xs[i]?) ∧ Inv 0 r S1 ∧ (∀ i v r1 S1, xs[i]? = some v → Inv i r1 S1 → (stp g b v r1 S1).P (Inv (i + 1)) R) ∧ ∀ r1 S1, Inv xs.length r1 S1 → N r1 S1) : (sFor u g b r S).P N R := by
  show ((u r S).thn r fun s S1 => forG s g b LIM 0 r S1).P N R
  rw [Res.P_thn]
  refine hu.mono ?_
  rintro s S1 ⟨xs, Inv, hl, h1, h2, h3, h4⟩
  exact P_forG xs Inv h1 h3 h4 LIM 0 r S1 (by omega) (by omega) h2
def putK (k : KV) (n : Nat) (v : Int) : KV := if (k.any fun p => decide (p.1 = n)) = true then k.map (fun p => if p.1 = n then (p.1, v) else p) else k ++ [(n, v)]
theorem kEq_nn (a b : Nat) : kEq (.int (a : Int)) (.int (b : Int)) = decide (a = b) := by
  show decide ((a : Int) = (b : Int)) = decide (a = b)
  by_cases h : a = b
  · rw [decide_eq_true h, decide_eq_true (by omega)]
  · rw [decide_eq_false h, decide_eq_false (by omega)]
theorem any_kv (k : KV) (n : Nat) : ((kvA k).any fun p => kEq p.1 (.int (n : Int))) = k.any fun p => decide (p.1 = n) := by
  induction k with
  | nil => rfl
  | cons p k ih =>
    show (kEq (.int (p.1 : Int)) (.int (n : Int)) || ((kvA k).any fun p => kEq p.1 (.int (n : Int)))) = _
    rw [ih, kEq_nn]
    rfl
theorem map_kv (k : KV) (n : Nat) (v : Int) : ((kvA k).map fun p => if kEq p.1 (.int (n : Int)) = true then (p.1, AV.int v) else p) = kvA (k.map fun p => if p.1 = n then (p.1, v) else p) := by
  induction k with
  | nil => rfl
  | cons p k ih =>
    show (if kEq (.int (p.1 : Int)) (.int (n : Int)) = true then (AV.int (p.1 : Int), AV.int v) else (.int (p.1 : Int), .int p.2)) :: ((kvA k).map fun p => if kEq p.1 (.int (n : Int)) = true then (p.1, AV.int v) else p) = _
    rw [ih, kEq_nn]
    by_cases h : p.1 = n <;> simp [h, kvA]
theorem putA_kv (k : KV) (n : Nat) (v : Int) : putA (kvA k) (.int (n : Int)) (.int v) = kvA (putK k n v) := by
  unfold putA putK
  rw [any_kv, map_kv]
  by_cases h : (k.any fun p => decide (p.1 = n)) = true
  · rw [if_pos h, if_pos h]
  · rw [if_neg h, if_neg h]
    simp [kvA]
/-- tables under way -/
def Bw (k : KV) (B l : Nat) : Prop := (∀ p ∈ k, 1 ≤ p.1 ∧ p.1 < 15 ∧ p.2.natAbs ≤ B) ∧ Nd k ∧ k.length ≤ l
theorem Bw_put (k : KV) (B l n : Nat) (v : Int) (B' l' : Nat) (h : Bw k B l) (h1 : 1 ≤ n) (h2 : n < 15) (h3 : v.natAbs ≤ B') (h4 : B ≤ B') (h5 : l < l') : Bw (putK k n v) B' l' := by
  unfold putK
  by_cases c : (k.any fun p => decide (p.1 = n)) = true
  · rw [if_pos c]
    refine ⟨fun p hp => ?_, ?_, by rw [List.length_map]; have := h.2.2; omega⟩
    · obtain ⟨q, hq, rfl⟩ := List.mem_map.1 hp
      have := h.1 q hq
      split
      · exact ⟨by omega, by omega, h3⟩
      · omega
    · have e : ((k.map fun p => if p.1 = n then (p.1, v) else p).map (·.1)) = k.map (·.1) := by
        rw [List.map_map]
        refine List.map_congr_left fun p _ => ?_
        show (if p.1 = n then (p.1, v) else p).1 = p.1
        split <;> rfl
      unfold Nd
      rw [e]
      exact h.2.1
  · rw [if_neg c]
    refine ⟨fun p hp => ?_, ?_, by rw [List.length_append]; have := h.2.2; simp; omega⟩
    · rcases List.mem_append.1 hp with hp | hp
      · have := h.1 p hp
        omega
      · simp at hp
        subst hp
        exact ⟨h1, h2, h3⟩
    · unfold Nd
      rw [List.map_append]
      refine List.nodup_append.2 ⟨h.2.1, by simp, fun a ha b hb => ?_⟩
      simp at hb
      subst hb
      intro e
      subst e
      obtain ⟨p, hp, hp2⟩ := List.mem_map.1 ha
      exact c (List.any_eq_true.2 ⟨p, hp, decide_eq_true hp2⟩)
theorem val_get (k : KV) (n : Nat) (B l : Nat) (h : Bw k B l) : ∃ x : Int, (valA (kvA k) (.int (n : Int))).getD (.int 0) = .int x ∧ x.natAbs ≤ B := by
  replace h := h.1
  induction k with
  | nil => exact ⟨0, rfl, by simp⟩
  | cons q k ih =>
    unfold valA kvA
    rw [List.map_cons, List.find?_cons]
    cases c : kEq (.int (q.1 : Int)) (.int (n : Int)) with
    | true => exact ⟨q.2, by simp, (h q (List.mem_cons_self ..)).2.2⟩
    | false => simp only; exact ih fun p hp => h p (List.mem_cons_of_mem _ hp)
theorem putK_cons (q : Nat × Int) (k : KV) (n : Nat) (v : Int) (h : q.1 ≠ n) : putK (q :: k) n v = q :: putK k n v := by
  unfold putK
  rw [List.any_cons, decide_eq_false h, Bool.false_or]
  by_cases c : (k.any fun p => decide (p.1 = n)) = true
  · rw [if_pos c, if_pos c, List.map_cons, if_neg h]
  · rw [if_neg c, if_neg c, List.cons_append]
theorem degK_cons (p : Nat × Int) (k : KV) : degK (p :: k) = (p.1 : Int) * p.2 + degK k := by simp [degK]
theorem deg_put (k : KV) (n : Nat) (v x : Int) (hn : Nd k) (hx : (valA (kvA k) (.int (n : Int))).getD (.int 0) = .int x) : degK (putK k n v) = degK k + (n : Int) * (v - x) := by
  induction k with
  | nil =>
    have : (0 : Int) = x := AV.int.inj hx
    subst this
    simp [putK, degK]
  | cons q k ih =>
    have hn2 := List.nodup_cons.1 hn
    by_cases c : q.1 = n
    · have e1 : kEq (.int (q.1 : Int)) (.int (n : Int)) = true := by rw [kEq_nn]; exact decide_eq_true c
      have hx2 : q.2 = x := by
        unfold valA kvA at hx
        rw [List.map_cons, List.find?_cons] at hx
        simp only [e1] at hx
        exact AV.int.inj hx
      have e2 : putK (q :: k) n v = (q.1, v) :: k := by
        unfold putK
        rw [List.any_cons, decide_eq_true c, Bool.true_or, if_pos rfl, List.map_cons, if_pos c]
        congr 1
        refine Eq.trans (List.map_congr_left fun p hp => ?_) (List.map_id _)
        rw [if_neg]
        · rfl
        · intro e
          exact hn2.1 (List.mem_map.2 ⟨p, hp, e.trans c.symm⟩)
      rw [e2, degK_cons, degK_cons, ← hx2, ← c, Int.mul_sub]
      show (q.1 : Int) * v + degK k = _
      omega
    · have e1 : kEq (.int (q.1 : Int)) (.int (n : Int)) = false := by rw [kEq_nn]; exact decide_eq_false c
      have hx2 : (valA (kvA k) (.int (n : Int))).getD (.int 0) = .int x := by
        unfold valA kvA at hx ⊢
        rw [List.map_cons, List.find?_cons] at hx
        simp only [e1] at hx
        exact hx
      rw [putK_cons q k n v c, degK_cons, degK_cons, ih hn2.2 hx2]
      omega
theorem deg_filter (k : KV) : degK (k.filter fun p => decide (p.2 ≠ 0)) = degK k := by
  induction k with
  | nil => rfl
  | cons p k ih =>
    rw [List.filter_cons]
    by_cases c : p.2 = 0
    · rw [if_neg (by simp [c]), ih, degK_cons, c]; simp
    · rw [if_pos (by simp [c]), degK_cons, degK_cons, ih]
theorem P_getK {S : Sto} {r : Env} {d : Nat} {k : KV} {n : Int} {o kx x : DE} (ho : o r S = .ok (.ref d) S) (hk : kx r S = .ok (.int n) S) (hx : x r S = .ok (.int 0) S) (hS : S[d]? = some (.dct false (kvA k))) (Q : AV → Sto → Prop) : (eGet2 o kx x r S).P Q = Q ((valA (kvA k) (.int n)).getD (.int 0)) S := by
  have e : dctAt S (.ref d) = some (false, kvA k) := by
    show (match S[d]? with
      | some (.dct lk kvs) => some (lk, kvs)
      | _ => none) = _
    rw [hS]
  unfold eGet2
  rw [ho, Res.bind_ok, e]
  show Res.P (if (some (false, kvA k)).isSome then _ else _) Q = _
  rw [if_pos (show (some (false, kvA k)).isSome = true from rfl), hk, Res.bind_ok, hx, Res.bind_ok, e]
  show Res.P (if okK (kvA k) (.int n) && (!false || !(kvA k).isEmpty) then _ else _) Q = _
  rw [okK_kv]
  with_unfolding_all rfl
theorem P_setK (k : KV) (d n : Nat) (v : Int) (S : Sto) (hS : S[d]? = some (.dct false (kvA k))) (hl : k.length < 100000) (Q : Unit → Sto → Prop) : (oSet (.ref d) (.int (n : Int)) (.int v) S).P Q = Q () (S.set d (.dct false (kvA (putK k n v)))) := by
  unfold oSet
  simp only [hS]
  rw [if_pos (by rw [okK_kv, Bool.true_and]; exact decide_eq_true (by rw [kvA_len, szl]; omega)), putA_kv]
  with_unfolding_all rfl
theorem prs_kv (k : KV) : prsOf (k.map fun p => .tup [.int (p.1 : Int), .int p.2]) = some (kvA k) := by
  induction k with
  | nil => rfl
  | cons p k ih =>
    show (prsOf (k.map fun p => .tup [.int (p.1 : Int), .int p.2])).map (((AV.int (p.1 : Int)), (AV.int p.2)) :: ·) = _
    rw [ih]
    rfl
theorem putK_new (k : KV) (p : Nat × Int) (h : ∀ q ∈ k, q.1 ≠ p.1) : putK k p.1 p.2 = k ++ [p] := by
  unfold putK
  rw [if_neg]
  intro c
  obtain ⟨q, hq, e⟩ := List.any_eq_true.1 c
  exact h q hq (of_decide_eq_true e)
theorem mrg_kv (more : KV) : ∀ k : KV, Nd (k ++ more) → mrgA (kvA k) (kvA more) = kvA (k ++ more) := by
  induction more with
  | nil => intro k _; simp [mrgA, kvA]
  | cons p more ih =>
    intro k hn
    show mrgA (putA (kvA k) (.int (p.1 : Int)) (.int p.2)) (kvA more) = _
    have e : k ++ p :: more = (k ++ [p]) ++ more := by simp
    rw [putA_kv, putK_new k p ?_, ih (k ++ [p]) (by rw [← e]; exact hn), ← e]
    intro q hq e2
    unfold Nd at hn
    rw [List.map_append] at hn
    have := (List.nodup_append.1 hn).2.2 q.1 (List.mem_map.2 ⟨q, hq, rfl⟩) p.1 (by simp)
    exact this e2
theorem flat_pairs (k : KV) (F : AV → List AV) (h : ∀ p ∈ k, F (.int (p.1 : Int)) = if p.2 ≠ 0 then [.tup [.int (p.1 : Int), .int p.2]] else []) : ((kvA k).map fun p => p.1).flatMap F = (k.filter fun p => decide (p.2 ≠ 0)).map fun p => .tup [.int (p.1 : Int), .int p.2] := by
  induction k with
  | nil => rfl
  | cons p k ih =>
    show F (.int (p.1 : Int)) ++ (((kvA k).map fun p => p.1).flatMap F) = _
    rw [h p (List.mem_cons_self ..), ih fun q hq => h q (List.mem_cons_of_mem _ hq)]
    by_cases c : p.2 = 0 <;> simp [c]
theorem kvA_all (k : KV) : ((kvA k).all fun p => (kA p.1).isSome) = true := List.all_eq_true.2 fun q hq => by
  obtain ⟨p, _, rfl⟩ := List.mem_map.1 hq
  rfl
theorem x_drawn (a : Nat) (S : Sto) (hd : Dice a S) (Q : AV → Sto → Prop)
    (h : ∀ d k S', S.length ≤ d → Kp a S S' → Dice a S' → S'[d]? = some (.dct false (kvA k)) → Bd k → Nd k → (∀ p ∈ k, 1 ≤ p.1 ∧ p.1 < 15) → degK k ≤ 112 → Q (.ref d) S') : (d_q_factors_drawn [.ref a] S).P Q := by
  have hal : a < S.length := by obtain ⟨_, _, _, h⟩ := hd; exact get_lt h
  refine P_mkF [some (.ref a), none, none, none, none, none, none] rfl ?_
  have e0 : eDct0 [some (.ref a), none, none, none, none, none, none] S = .ok (.ref S.length) (S ++ [.dct false (kvA [])]) := rfl
  simp only [P_seq, P_if, P_ret, P_expr, P_nil, P_asg, P_gNm, P_par, P_aug, P_gSub, P_gsNil, P_gsCons, P_loc, P_eK, P_e1, P_e2, P_eT, P_aNil, P_aCons, P_call, P_tup, P_lst, P_eIf, P_andB, P_orB, P_notB, P_ofO, P_tV, P_tB, P_tAnd, P_tOr, P_tNot, P_tYes, P_tC, P_ch, P_sl, P_oNo, P_oYes, P_mt, P_new, P_stp, Res.P_ok, SR.P_nx, SR.P_ret, P_if_res, P_bad, wip, List.set_cons_succ, List.set_cons_zero, List.getElem?_cons_succ, List.getElem?_cons_zero, List.getElem?_nil, List.length_cons, List.length_nil, P_addI, P_subI, P_augI, P_negI, P_lt, P_le, P_gt, P_ge, P_absI, P_intI, P_intB, cEq_ii, cNe_ii, cEq_bb, cEq_ss, cEq_ts, cEq_tn, cEq_tt, cNe_tt, P_sumT, P_lenT, P_listT, if_true, if_false, Bool.false_eq_true, e0]
  have hd0 : Dice a (S ++ [.dct false (kvA [])]) := by obtain ⟨x, y, z, h⟩ := hd; exact ⟨x, y, z, app_get h⟩
  refine P_forE ?_
  refine P_rng1 _ _ _ _ ?_
  simp only [P_seq, P_if, P_ret, P_expr, P_nil, P_asg, P_gNm, P_par, P_aug, P_gSub, P_gsNil, P_gsCons, P_loc, P_eK, P_e1, P_e2, P_eT, P_aNil, P_aCons, P_call, P_tup, P_lst, P_eIf, P_andB, P_orB, P_notB, P_ofO, P_tV, P_tB, P_tAnd, P_tOr, P_tNot, P_tYes, P_tC, P_ch, P_sl, P_oNo, P_oYes, P_mt, P_new, P_stp, Res.P_ok, SR.P_nx, SR.P_ret, P_if_res, P_bad, wip, List.set_cons_succ, List.set_cons_zero, List.getElem?_cons_succ, List.getElem?_cons_zero, List.getElem?_nil, List.length_cons, List.length_nil, P_addI, P_subI, P_augI, P_negI, P_lt, P_le, P_gt, P_ge, P_absI, P_intI, P_intB, cEq_ii, cNe_ii, cEq_bb, cEq_ss, cEq_ts, cEq_tn, cEq_tt, cNe_tt, P_sumT, P_lenT, P_listT, if_true, if_false, Bool.false_eq_true]
  have hal2 : a < (S ++ [AO.dct false (kvA [])]).length := by simp; omega
  refine x_roll a 4 _ hd0 (by omega) (by omega) _ fun c S1 hc k1 d1 => ?_
  try simp only [P_seq, P_if, P_ret, P_expr, P_nil, P_asg, P_gNm, P_par, P_aug, P_gSub, P_gsNil, P_gsCons, P_loc, P_eK, P_e1, P_e2, P_eT, P_aNil, P_aCons, P_call, P_tup, P_lst, P_eIf, P_andB, P_orB, P_notB, P_ofO, P_tV, P_tB, P_tAnd, P_tOr, P_tNot, P_tYes, P_tC, P_ch, P_sl, P_oNo, P_oYes, P_mt, P_new, P_stp, Res.P_ok, SR.P_nx, SR.P_ret, P_if_res, P_bad, wip, List.set_cons_succ, List.set_cons_zero, List.getElem?_cons_succ, List.getElem?_cons_zero, List.getElem?_nil, List.length_cons, List.length_nil, P_addI, P_subI, P_augI, P_negI, P_lt, P_le, P_gt, P_ge, P_absI, P_intI, P_intB, cEq_ii, cNe_ii, cEq_bb, cEq_ss, cEq_ts, cEq_tn, cEq_tt, cNe_tt, P_sumT, P_lenT, P_listT, if_true, if_false, Bool.false_eq_true]
  have hcn : ((1 : Int) + (c : Int)).toNat = 1 + c := by omega
  refine ⟨_, rfl, by omega, by omega, rngL 0 (1 + c), fun i r S' => ∃ k o2 o3 o4 o5 o6, r = [some (.ref a), some (.ref S.length), o2, o3, o4, o5, o6] ∧ Kp a S S' ∧ Dice a S' ∧ S'[S.length]? = some (.dct false (kvA k)) ∧ Bw k (3 * i) (2 * i) ∧ i ≤ 4 ∧ degK k ≤ 28 * (i : Int), by rw [rngL_len]; unfold LIM; omega, fun i r' S' _ => by rw [hcn]; rfl, ?_, ?_, ?_⟩
  · refine ⟨[], none, none, none, none, none, rfl, ?_, d1, k1 _ _ (by omega) (app_new _ _), ⟨by simp, by simp [Nd], by simp⟩, by omega, by simp [degK]⟩
    exact ((Ext.app _ _).kp a).trans k1
  · rintro i v r S2 hv ⟨k, o2, o3, o4, o5, o6, rfl, k2, d2, f2, b2, hi4, g2⟩
    have hi := (rngL_get hv).1
    rw [(rngL_get hv).2]
    clear hv
    simp only [P_seq, P_if, P_ret, P_expr, P_nil, P_asg, P_gNm, P_par, P_aug, P_gSub, P_gsNil, P_gsCons, P_loc, P_eK, P_e1, P_e2, P_eT, P_aNil, P_aCons, P_call, P_tup, P_lst, P_eIf, P_andB, P_orB, P_notB, P_ofO, P_tV, P_tB, P_tAnd, P_tOr, P_tNot, P_tYes, P_tC, P_ch, P_sl, P_oNo, P_oYes, P_mt, P_new, P_stp, Res.P_ok, SR.P_nx, SR.P_ret, P_if_res, P_bad, wip, List.set_cons_succ, List.set_cons_zero, List.getElem?_cons_succ, List.getElem?_cons_zero, List.getElem?_nil, List.length_cons, List.length_nil, P_addI, P_subI, P_augI, P_negI, P_lt, P_le, P_gt, P_ge, P_absI, P_intI, P_intB, cEq_ii, cNe_ii, cEq_bb, cEq_ss, cEq_ts, cEq_tn, cEq_tt, cNe_tt, P_sumT, P_lenT, P_listT, if_true, if_false, Bool.false_eq_true]
    refine x_roll a 14 _ d2 (by omega) (by omega) _ fun n S3 hn k3 d3 => ?_
    try simp only [P_seq, P_if, P_ret, P_expr, P_nil, P_asg, P_gNm, P_par, P_aug, P_gSub, P_gsNil, P_gsCons, P_loc, P_eK, P_e1, P_e2, P_eT, P_aNil, P_aCons, P_call, P_tup, P_lst, P_eIf, P_andB, P_orB, P_notB, P_ofO, P_tV, P_tB, P_tAnd, P_tOr, P_tNot, P_tYes, P_tC, P_ch, P_sl, P_oNo, P_oYes, P_mt, P_new, P_stp, Res.P_ok, SR.P_nx, SR.P_ret, P_if_res, P_bad, wip, List.set_cons_succ, List.set_cons_zero, List.getElem?_cons_succ, List.getElem?_cons_zero, List.getElem?_nil, List.length_cons, List.length_nil, P_addI, P_subI, P_augI, P_negI, P_lt, P_le, P_gt, P_ge, P_absI, P_intI, P_intB, cEq_ii, cNe_ii, cEq_bb, cEq_ss, cEq_ts, cEq_tn, cEq_tt, cNe_tt, P_sumT, P_lenT, P_listT, if_true, if_false, Bool.false_eq_true]
    refine x_roll a 2 _ d3 (by omega) (by omega) _ fun mny S4 hm k4 d4 => ?_
    try simp only [P_seq, P_if, P_ret, P_expr, P_nil, P_asg, P_gNm, P_par, P_aug, P_gSub, P_gsNil, P_gsCons, P_loc, P_eK, P_e1, P_e2, P_eT, P_aNil, P_aCons, P_call, P_tup, P_lst, P_eIf, P_andB, P_orB, P_notB, P_ofO, P_tV, P_tB, P_tAnd, P_tOr, P_tNot, P_tYes, P_tC, P_ch, P_sl, P_oNo, P_oYes, P_mt, P_new, P_stp, Res.P_ok, SR.P_nx, SR.P_ret, P_if_res, P_bad, wip, List.set_cons_succ, List.set_cons_zero, List.getElem?_cons_succ, List.getElem?_cons_zero, List.getElem?_nil, List.length_cons, List.length_nil, P_addI, P_subI, P_augI, P_negI, P_lt, P_le, P_gt, P_ge, P_absI, P_intI, P_intB, cEq_ii, cNe_ii, cEq_bb, cEq_ss, cEq_ts, cEq_tn, cEq_tt, cNe_tt, P_sumT, P_lenT, P_listT, if_true, if_false, Bool.false_eq_true, szl]
    simp only [show (0 + 1 + 1 : Nat) ≤ 16777216 from by omega, if_true]
    try simp only [P_seq, P_if, P_ret, P_expr, P_nil, P_asg, P_gNm, P_par, P_aug, P_gSub, P_gsNil, P_gsCons, P_loc, P_eK, P_e1, P_e2, P_eT, P_aNil, P_aCons, P_call, P_tup, P_lst, P_eIf, P_andB, P_orB, P_notB, P_ofO, P_tV, P_tB, P_tAnd, P_tOr, P_tNot, P_tYes, P_tC, P_ch, P_sl, P_oNo, P_oYes, P_mt, P_new, P_stp, Res.P_ok, SR.P_nx, SR.P_ret, P_if_res, P_bad, wip, List.set_cons_succ, List.set_cons_zero, List.getElem?_cons_succ, List.getElem?_cons_zero, List.getElem?_nil, List.length_cons, List.length_nil, P_addI, P_subI, P_augI, P_negI, P_lt, P_le, P_gt, P_ge, P_absI, P_intI, P_intB, cEq_ii, cNe_ii, cEq_bb, cEq_ss, cEq_ts, cEq_tn, cEq_tt, cNe_tt, P_sumT, P_lenT, P_listT, if_true, if_false, Bool.false_eq_true, P_gTup2]
    have f4 : S4[S.length]? = some (.dct false (kvA k)) := k4 _ _ (by omega) (k3 _ _ (by omega) f2)
    have hn1 : (1 : Int) + (n : Int) = ((1 + n : Nat) : Int) := by omega
    rw [hn1]
    rw [P_getK (d := S.length) (k := k) (n := ((1 + n : Nat) : Int)) rfl rfl rfl f4]
    obtain ⟨x, hx, hxb⟩ := val_get k (1 + n) _ _ b2
    rw [hx]
    try simp only [P_seq, P_if, P_ret, P_expr, P_nil, P_asg, P_gNm, P_par, P_aug, P_gSub, P_gsNil, P_gsCons, P_loc, P_eK, P_e1, P_e2, P_eT, P_aNil, P_aCons, P_call, P_tup, P_lst, P_eIf, P_andB, P_orB, P_notB, P_ofO, P_tV, P_tB, P_tAnd, P_tOr, P_tNot, P_tYes, P_tC, P_ch, P_sl, P_oNo, P_oYes, P_mt, P_new, P_stp, Res.P_ok, SR.P_nx, SR.P_ret, P_if_res, P_bad, wip, List.set_cons_succ, List.set_cons_zero, List.getElem?_cons_succ, List.getElem?_cons_zero, List.getElem?_nil, List.length_cons, List.length_nil, P_addI, P_subI, P_augI, P_negI, P_lt, P_le, P_gt, P_ge, P_absI, P_intI, P_intB, cEq_ii, cNe_ii, cEq_bb, cEq_ss, cEq_ts, cEq_tn, cEq_tt, cNe_tt, P_sumT, P_lenT, P_listT, if_true, if_false, Bool.false_eq_true]
    rw [P_setK k _ _ _ _ f4 (by have := b2.2.2; omega)]
    have b5 := Bw_put k _ _ (1 + n) (x + (1 + (mny : Int))) (3 * i + 2) (2 * i + 1) b2 (by omega) (by omega) (by omega) (by omega) (by omega)
    have hsl := get_lt f4
    have g5 : degK (putK k (1 + n) (x + (1 + (mny : Int)))) ≤ 28 * (i : Int) + 28 := by
      rw [deg_put k (1 + n) _ x b2.2.1 hx]
      have e1 : x + (1 + (mny : Int)) - x = 1 + (mny : Int) := by omega
      have e2 : ((1 + n : Nat) : Int) * (1 + (mny : Int)) ≤ ((1 + n : Nat) : Int) * 2 := Int.mul_le_mul_of_nonneg_left (by omega) (by omega)
      rw [e1]
      omega
    have k5 : Kp a S (S4.set S.length (.dct false (kvA (putK k (1 + n) (x + (1 + (mny : Int))))))) := kp_set _ (k2.trans (k3.trans k4)) (Nat.le_refl _)
    have d5 : Dice a (S4.set S.length (.dct false (kvA (putK k (1 + n) (x + (1 + (mny : Int))))))) := by
      obtain ⟨x, y, z, h⟩ := d4
      exact ⟨x, y, z, by rw [set_ne _ _ _ _ (by omega)]; exact h⟩
    have f5 := set_get S4 S.length (.dct false (kvA (putK k (1 + n) (x + (1 + (mny : Int)))))) hsl
    generalize S4.set S.length (.dct false (kvA (putK k (1 + n) (x + (1 + (mny : Int)))))) = S5 at k5 d5 f5
    generalize putK k (1 + n) (x + (1 + (mny : Int))) = kk at b5 f5 g5
    refine P_lc_pure (rngL 1 (1 + n)) (fun v => match v with | .int j => if ((1 + n : Nat) : Int) % j = 0 then [.int j] else [] | _ => []) (by rw [rngL_len]; unfold LIM; omega) ?_ ?_ ?_
    · refine P_rng2 _ _ _ _ ?_
      simp only [P_seq, P_if, P_ret, P_expr, P_nil, P_asg, P_gNm, P_par, P_aug, P_gSub, P_gsNil, P_gsCons, P_loc, P_eK, P_e1, P_e2, P_eT, P_aNil, P_aCons, P_call, P_tup, P_lst, P_eIf, P_andB, P_orB, P_notB, P_ofO, P_tV, P_tB, P_tAnd, P_tOr, P_tNot, P_tYes, P_tC, P_ch, P_sl, P_oNo, P_oYes, P_mt, P_new, P_stp, Res.P_ok, SR.P_nx, SR.P_ret, P_if_res, P_bad, wip, List.set_cons_succ, List.set_cons_zero, List.getElem?_cons_succ, List.getElem?_cons_zero, List.getElem?_nil, List.length_cons, List.length_nil, P_addI, P_subI, P_augI, P_negI, P_lt, P_le, P_gt, P_ge, P_absI, P_intI, P_intB, cEq_ii, cNe_ii, cEq_bb, cEq_ss, cEq_ts, cEq_tn, cEq_tt, cNe_tt, P_sumT, P_lenT, P_listT, if_true, if_false, Bool.false_eq_true]
      refine ⟨1, _, rfl, by omega, by omega, by omega, by omega, fun i => ?_, by trivial⟩
      have : (((1 + n : Nat) : Int) + 1 - 1).toNat = 1 + n := by omega
      rw [this]
      rfl
    · intro v hv
      obtain ⟨j, hj⟩ := List.mem_iff_getElem?.1 hv
      obtain ⟨hj1, rfl⟩ := rngL_get hj
      unfold lcStp
      simp only [P_seq, P_if, P_ret, P_expr, P_nil, P_asg, P_gNm, P_par, P_aug, P_gSub, P_gsNil, P_gsCons, P_loc, P_eK, P_e1, P_e2, P_eT, P_aNil, P_aCons, P_call, P_tup, P_lst, P_eIf, P_andB, P_orB, P_notB, P_ofO, P_tV, P_tB, P_tAnd, P_tOr, P_tNot, P_tYes, P_tC, P_ch, P_sl, P_oNo, P_oYes, P_mt, P_new, P_stp, Res.P_ok, SR.P_nx, SR.P_ret, P_if_res, P_bad, wip, List.set_cons_succ, List.set_cons_zero, List.getElem?_cons_succ, List.getElem?_cons_zero, List.getElem?_nil, List.length_cons, List.length_nil, P_addI, P_subI, P_augI, P_negI, P_lt, P_le, P_gt, P_ge, P_absI, P_intI, P_intB, cEq_ii, cNe_ii, cEq_bb, cEq_ss, cEq_ts, cEq_tn, cEq_tt, cNe_tt, P_sumT, P_lenT, P_listT, if_true, if_false, Bool.false_eq_true]
      rw [P_modI _ _ _ _ (by omega)]
      try simp only [P_seq, P_if, P_ret, P_expr, P_nil, P_asg, P_gNm, P_par, P_aug, P_gSub, P_gsNil, P_gsCons, P_loc, P_eK, P_e1, P_e2, P_eT, P_aNil, P_aCons, P_call, P_tup, P_lst, P_eIf, P_andB, P_orB, P_notB, P_ofO, P_tV, P_tB, P_tAnd, P_tOr, P_tNot, P_tYes, P_tC, P_ch, P_sl, P_oNo, P_oYes, P_mt, P_new, P_stp, Res.P_ok, SR.P_nx, SR.P_ret, P_if_res, P_bad, wip, List.set_cons_succ, List.set_cons_zero, List.getElem?_cons_succ, List.getElem?_cons_zero, List.getElem?_nil, List.length_cons, List.length_nil, P_addI, P_subI, P_augI, P_negI, P_lt, P_le, P_gt, P_ge, P_absI, P_intI, P_intB, cEq_ii, cNe_ii, cEq_bb, cEq_ss, cEq_ts, cEq_tn, cEq_tt, cNe_tt, P_sumT, P_lenT, P_listT, if_true, if_false, Bool.false_eq_true]
      by_cases hz : ((1 + n : Nat) : Int) % ((1 : Int) + (j : Int)) = 0
      · have : (((1 + n : Nat) : Int) % ((1 : Int) + (j : Int)) == 0) = true := beq_iff_eq.2 hz
        simp only [P_seq, P_if, P_ret, P_expr, P_nil, P_asg, P_gNm, P_par, P_aug, P_gSub, P_gsNil, P_gsCons, P_loc, P_eK, P_e1, P_e2, P_eT, P_aNil, P_aCons, P_call, P_tup, P_lst, P_eIf, P_andB, P_orB, P_notB, P_ofO, P_tV, P_tB, P_tAnd, P_tOr, P_tNot, P_tYes, P_tC, P_ch, P_sl, P_oNo, P_oYes, P_mt, P_new, P_stp, Res.P_ok, SR.P_nx, SR.P_ret, P_if_res, P_bad, wip, List.set_cons_succ, List.set_cons_zero, List.getElem?_cons_succ, List.getElem?_cons_zero, List.getElem?_nil, List.length_cons, List.length_nil, P_addI, P_subI, P_augI, P_negI, P_lt, P_le, P_gt, P_ge, P_absI, P_intI, P_intB, cEq_ii, cNe_ii, cEq_bb, cEq_ss, cEq_ts, cEq_tn, cEq_tt, cNe_tt, P_sumT, P_lenT, P_listT, if_true, if_false, Bool.false_eq_true, this]
        exact ⟨by trivial, (if_pos hz).symm⟩
      · have : (((1 + n : Nat) : Int) % ((1 : Int) + (j : Int)) == 0) = false := beq_eq_false_iff_ne.2 hz
        simp only [P_seq, P_if, P_ret, P_expr, P_nil, P_asg, P_gNm, P_par, P_aug, P_gSub, P_gsNil, P_gsCons, P_loc, P_eK, P_e1, P_e2, P_eT, P_aNil, P_aCons, P_call, P_tup, P_lst, P_eIf, P_andB, P_orB, P_notB, P_ofO, P_tV, P_tB, P_tAnd, P_tOr, P_tNot, P_tYes, P_tC, P_ch, P_sl, P_oNo, P_oYes, P_mt, P_new, P_stp, Res.P_ok, SR.P_nx, SR.P_ret, P_if_res, P_bad, wip, List.set_cons_succ, List.set_cons_zero, List.getElem?_cons_succ, List.getElem?_cons_zero, List.getElem?_nil, List.length_cons, List.length_nil, P_addI, P_subI, P_augI, P_negI, P_lt, P_le, P_gt, P_ge, P_absI, P_intI, P_intB, cEq_ii, cNe_ii, cEq_bb, cEq_ss, cEq_ts, cEq_tn, cEq_tt, cNe_tt, P_sumT, P_lenT, P_listT, if_true, if_false, Bool.false_eq_true, this]
        exact ⟨by trivial, (if_neg hz).symm⟩
    · generalize hxs : (rngL 1 (1 + n)).flatMap (fun v => match v with | .int j => if ((1 + n : Nat) : Int) % j = 0 then [AV.int j] else [] | _ => []) = xs
      have hxm : ∀ v ∈ xs, ∃ j : Nat, 1 ≤ j ∧ j < 15 ∧ v = .int (j : Int) := by
        rw [← hxs]
        intro v hv
        obtain ⟨w, hw, hv⟩ := List.mem_flatMap.1 hv
        obtain ⟨j, hj⟩ := List.mem_iff_getElem?.1 hw
        obtain ⟨hj1, rfl⟩ := rngL_get hj
        have hv : v ∈ (if ((1 + n : Nat) : Int) % ((1 : Int) + (j : Int)) = 0 then [AV.int ((1 : Int) + (j : Int))] else []) := hv
        split at hv
        · simp at hv
          exact ⟨1 + j, by omega, by omega, by rw [hv]; congr 1⟩
        · cases hv
      have hx0 : xs ≠ [] := by
        have : AV.int 1 ∈ xs := by
          rw [← hxs]
          refine List.mem_flatMap.2 ⟨.int 1, List.mem_of_getElem? (i := 0) ?_, ?_⟩
          · unfold rngL
            rw [List.getElem?_map, List.getElem?_range (by omega)]
            rfl
          · show AV.int 1 ∈ (if ((1 + n : Nat) : Int) % 1 = 0 then [AV.int 1] else [])
            rw [if_pos (by omega)]
            simp
        intro e
        rw [e] at this
        cases this
      have hxl : xs.length ≤ 14 := by
        rw [← hxs]
        have : ∀ l : List AV, (l.flatMap (fun v => match v with | .int j => if ((1 + n : Nat) : Int) % j = 0 then [AV.int j] else [] | _ => [])).length ≤ l.length := by
          intro l
          induction l with
          | nil => simp
          | cons v l ih =>
            rw [List.flatMap_cons, List.length_append, List.length_cons]
            have : ((match v with | .int j => if ((1 + n : Nat) : Int) % j = 0 then [AV.int j] else [] | _ => [] : List AV)).length ≤ 1 := by
              split
              · split <;> simp
              · simp
            omega
        have := this (rngL 1 (1 + n))
        rw [rngL_len] at this
        omega
      clear hxs
      have f6 := app_get (T := [AO.lst false xs]) f5
      have k6 := k5.trans ((Ext.app S5 [.lst false xs]).kp a)
      have d6 : Dice a (S5 ++ [.lst false xs]) := by obtain ⟨x, y, z, h⟩ := d5; exact ⟨x, y, z, app_get h⟩
      have p6 := app_new S5 (.lst false xs)
      have hl5 : a < S5.length := by obtain ⟨_, _, _, h⟩ := d5; exact get_lt h
      generalize S5 ++ [AO.lst false xs] = S6 at f6 k6 d6 p6
      have fin : ∀ (j : Nat) (S7 : Sto), 1 ≤ j → j < 15 → Kp a S6 S7 → Dice a S7 → ((eGet2 (eLoc 1) (eLoc 6) (eK (.int 0))) [some (.ref a), some (.ref S.length), some (.int (0 + (i : Int))), some (.int ((1 + n : Nat) : Int)), some (.int (1 + (mny : Int))), some (.ref S5.length), some (.int (j : Int))] S7).P fun x S1 => (d_q_roll [.ref a, .int 2] S1).P fun x_1 S1 => (oSub x x_1 S1).P fun v S1 => (oSet (.ref S.length) (.int (j : Int)) v S1).P fun _ S3 => ∃ k o2 o3 o4 o5 o6, [some (AV.ref a), some (.ref S.length), some (.int (0 + (i : Int))), some (.int ((1 + n : Nat) : Int)), some (.int (1 + (mny : Int))), some (.ref S5.length), some (.int (j : Int))] = [some (.ref a), some (.ref S.length), o2, o3, o4, o5, o6] ∧ Kp a S S3 ∧ Dice a S3 ∧ S3[S.length]? = some (.dct false (kvA k)) ∧ Bw k (3 * (i + 1)) (2 * (i + 1)) ∧ i + 1 ≤ 4 ∧ degK k ≤ 28 * ((i + 1 : Nat) : Int) := by
        intro j S7 j1 j2 k7 d7
        have f7 := k7 _ _ (by omega) f6
        rw [P_getK (d := S.length) (k := kk) (n := (j : Int)) rfl rfl rfl f7]
        obtain ⟨y, hy, hyb⟩ := val_get kk j _ _ b5
        rw [hy]
        refine x_roll a 2 _ d7 (by omega) (by omega) _ fun t S8 ht k8 d8 => ?_
        have f8 := k8 _ _ (by omega) f7
        rw [P_subI, P_setK kk _ _ _ _ f8 (by have := b5.2.2; omega)]
        refine ⟨putK kk j (y - (t : Int)), _, _, _, _, _, rfl, kp_set _ (k6.trans (k7.trans k8)) (Nat.le_refl _), ?_, set_get _ _ _ (get_lt f8), Bw_put kk _ _ j _ _ _ b5 j1 j2 (by omega) (by omega) (by omega), by omega, ?_⟩
        · obtain ⟨x, y, z, h⟩ := d8
          exact ⟨x, y, z, by rw [set_ne _ _ _ _ (by omega)]; exact h⟩
        · rw [deg_put kk j _ y b5.2.1 hy]
          have e1 : y - (t : Int) - y = - (t : Int) := by omega
          have e2 : 0 ≤ (j : Int) * (t : Int) := Int.mul_nonneg (by omega) (by omega)
          rw [e1, Int.mul_neg]
          omega
      refine x_roll a 5 _ d6 (by omega) (by omega) _ fun w S7 hw k7 d7 => ?_
      try simp only [P_seq, P_if, P_ret, P_expr, P_nil, P_asg, P_gNm, P_par, P_aug, P_gSub, P_gsNil, P_gsCons, P_loc, P_eK, P_e1, P_e2, P_eT, P_aNil, P_aCons, P_call, P_tup, P_lst, P_eIf, P_andB, P_orB, P_notB, P_ofO, P_tV, P_tB, P_tAnd, P_tOr, P_tNot, P_tYes, P_tC, P_ch, P_sl, P_oNo, P_oYes, P_mt, P_new, P_stp, Res.P_ok, SR.P_nx, SR.P_ret, P_if_res, P_bad, wip, List.set_cons_succ, List.set_cons_zero, List.getElem?_cons_succ, List.getElem?_cons_zero, List.getElem?_nil, List.length_cons, List.length_nil, P_addI, P_subI, P_augI, P_negI, P_lt, P_le, P_gt, P_ge, P_absI, P_intI, P_intB, cEq_ii, cNe_ii, cEq_bb, cEq_ss, cEq_ts, cEq_tn, cEq_tt, cNe_tt, P_sumT, P_lenT, P_listT, if_true, if_false, Bool.false_eq_true]
      by_cases hw0 : (0 : Int) < (w : Int)
      · rw [decide_eq_true hw0]
        try simp only [P_seq, P_if, P_ret, P_expr, P_nil, P_asg, P_gNm, P_par, P_aug, P_gSub, P_gsNil, P_gsCons, P_loc, P_eK, P_e1, P_e2, P_eT, P_aNil, P_aCons, P_call, P_tup, P_lst, P_eIf, P_andB, P_orB, P_notB, P_ofO, P_tV, P_tB, P_tAnd, P_tOr, P_tNot, P_tYes, P_tC, P_ch, P_sl, P_oNo, P_oYes, P_mt, P_new, P_stp, Res.P_ok, SR.P_nx, SR.P_ret, P_if_res, P_bad, wip, List.set_cons_succ, List.set_cons_zero, List.getElem?_cons_succ, List.getElem?_cons_zero, List.getElem?_nil, List.length_cons, List.length_nil, P_addI, P_subI, P_augI, P_negI, P_lt, P_le, P_gt, P_ge, P_absI, P_intI, P_intB, cEq_ii, cNe_ii, cEq_bb, cEq_ss, cEq_ts, cEq_tn, cEq_tt, cNe_tt, P_sumT, P_lenT, P_listT, if_true, if_false, Bool.false_eq_true]
        refine x_pick a S5.length xs S7 d7 (by omega) (k7 _ _ (by omega) p6) hx0 (by omega) _ fun v hv S8 k8 d8 => ?_
        obtain ⟨j, j1, j2, rfl⟩ := hxm v hv
        exact fin j S8 j1 j2 (k7.trans k8) d8
      · rw [decide_eq_false hw0]
        try simp only [P_seq, P_if, P_ret, P_expr, P_nil, P_asg, P_gNm, P_par, P_aug, P_gSub, P_gsNil, P_gsCons, P_loc, P_eK, P_e1, P_e2, P_eT, P_aNil, P_aCons, P_call, P_tup, P_lst, P_eIf, P_andB, P_orB, P_notB, P_ofO, P_tV, P_tB, P_tAnd, P_tOr, P_tNot, P_tYes, P_tC, P_ch, P_sl, P_oNo, P_oYes, P_mt, P_new, P_stp, Res.P_ok, SR.P_nx, SR.P_ret, P_if_res, P_bad, wip, List.set_cons_succ, List.set_cons_zero, List.getElem?_cons_succ, List.getElem?_cons_zero, List.getElem?_nil, List.length_cons, List.length_nil, P_addI, P_subI, P_augI, P_negI, P_lt, P_le, P_gt, P_ge, P_absI, P_intI, P_intB, cEq_ii, cNe_ii, cEq_bb, cEq_ss, cEq_ts, cEq_tn, cEq_tt, cNe_tt, P_sumT, P_lenT, P_listT, if_true, if_false, Bool.false_eq_true]
        refine x_roll a 14 _ d7 (by omega) (by omega) _ fun j S8 hj k8 d8 => ?_
        try simp only [P_seq, P_if, P_ret, P_expr, P_nil, P_asg, P_gNm, P_par, P_aug, P_gSub, P_gsNil, P_gsCons, P_loc, P_eK, P_e1, P_e2, P_eT, P_aNil, P_aCons, P_call, P_tup, P_lst, P_eIf, P_andB, P_orB, P_notB, P_ofO, P_tV, P_tB, P_tAnd, P_tOr, P_tNot, P_tYes, P_tC, P_ch, P_sl, P_oNo, P_oYes, P_mt, P_new, P_stp, Res.P_ok, SR.P_nx, SR.P_ret, P_if_res, P_bad, wip, List.set_cons_succ, List.set_cons_zero, List.getElem?_cons_succ, List.getElem?_cons_zero, List.getElem?_nil, List.length_cons, List.length_nil, P_addI, P_subI, P_augI, P_negI, P_lt, P_le, P_gt, P_ge, P_absI, P_intI, P_intB, cEq_ii, cNe_ii, cEq_bb, cEq_ss, cEq_ts, cEq_tn, cEq_tt, cNe_tt, P_sumT, P_lenT, P_listT, if_true, if_false, Bool.false_eq_true]
        have hj1 : (1 : Int) + (j : Int) = ((1 + j : Nat) : Int) := by omega
        rw [hj1]
        exact fin (1 + j) S8 (by omega) (by omega) (k7.trans k8) d8
  · rintro r S2 ⟨k, o2, o3, o4, o5, o6, rfl, k2, d2, f2, b2, hi4, g2⟩
    rw [rngL_len] at b2 hi4 g2
    refine P_lcD (fun p => p.1) (fun v => match v with | .int n => if getK k n ≠ 0 then [.tup [.int n, .int (getK k n)]] else [] | _ => []) (fun _ => rfl) f2 (.inl rfl) (by rw [kvA_len]; have := b2.2.2; omega) ?_ ?_
    · intro v hv
      obtain ⟨p, hp, rfl⟩ := mem_kv hv
      have e5 := ix_kv k b2.2.1 p hp S.length true _ (set_get S2 _ (.dct true (kvA k)) (get_lt f2))
      have e6 := getK_kv k b2.2.1 p hp
      unfold lcStp
      simp only [P_seq, P_if, P_ret, P_expr, P_nil, P_asg, P_gNm, P_par, P_aug, P_gSub, P_gsNil, P_gsCons, P_loc, P_eK, P_e1, P_e2, P_eT, P_aNil, P_aCons, P_call, P_tup, P_lst, P_eIf, P_andB, P_orB, P_notB, P_ofO, P_tV, P_tB, P_tAnd, P_tOr, P_tNot, P_tYes, P_tC, P_ch, P_sl, P_oNo, P_oYes, P_mt, P_new, P_stp, Res.P_ok, SR.P_nx, SR.P_ret, P_if_res, P_bad, wip, List.set_cons_succ, List.set_cons_zero, List.getElem?_cons_succ, List.getElem?_cons_zero, List.getElem?_nil, List.length_cons, List.length_nil, P_addI, P_subI, P_augI, P_negI, P_lt, P_le, P_gt, P_ge, P_absI, P_intI, P_intB, cEq_ii, cNe_ii, cEq_bb, cEq_ss, cEq_ts, cEq_tn, cEq_tt, cNe_tt, P_sumT, P_lenT, P_listT, if_true, if_false, Bool.false_eq_true, e5]
      by_cases hz : p.2 = 0
      · have : (p.2 == 0) = true := beq_iff_eq.2 hz
        simp only [P_seq, P_if, P_ret, P_expr, P_nil, P_asg, P_gNm, P_par, P_aug, P_gSub, P_gsNil, P_gsCons, P_loc, P_eK, P_e1, P_e2, P_eT, P_aNil, P_aCons, P_call, P_tup, P_lst, P_eIf, P_andB, P_orB, P_notB, P_ofO, P_tV, P_tB, P_tAnd, P_tOr, P_tNot, P_tYes, P_tC, P_ch, P_sl, P_oNo, P_oYes, P_mt, P_new, P_stp, Res.P_ok, SR.P_nx, SR.P_ret, P_if_res, P_bad, wip, List.set_cons_succ, List.set_cons_zero, List.getElem?_cons_succ, List.getElem?_cons_zero, List.getElem?_nil, List.length_cons, List.length_nil, P_addI, P_subI, P_augI, P_negI, P_lt, P_le, P_gt, P_ge, P_absI, P_intI, P_intB, cEq_ii, cNe_ii, cEq_bb, cEq_ss, cEq_ts, cEq_tn, cEq_tt, cNe_tt, P_sumT, P_lenT, P_listT, if_true, if_false, Bool.false_eq_true, this, Bool.not_true]
        refine ⟨by trivial, ?_⟩
        rw [e6, if_neg (by simp [hz])]
      · have : (p.2 == 0) = false := beq_eq_false_iff_ne.2 hz
        simp only [P_seq, P_if, P_ret, P_expr, P_nil, P_asg, P_gNm, P_par, P_aug, P_gSub, P_gsNil, P_gsCons, P_loc, P_eK, P_e1, P_e2, P_eT, P_aNil, P_aCons, P_call, P_tup, P_lst, P_eIf, P_andB, P_orB, P_notB, P_ofO, P_tV, P_tB, P_tAnd, P_tOr, P_tNot, P_tYes, P_tC, P_ch, P_sl, P_oNo, P_oYes, P_mt, P_new, P_stp, Res.P_ok, SR.P_nx, SR.P_ret, P_if_res, P_bad, wip, List.set_cons_succ, List.set_cons_zero, List.getElem?_cons_succ, List.getElem?_cons_zero, List.getElem?_nil, List.length_cons, List.length_nil, P_addI, P_subI, P_augI, P_negI, P_lt, P_le, P_gt, P_ge, P_absI, P_intI, P_intB, cEq_ii, cNe_ii, cEq_bb, cEq_ss, cEq_ts, cEq_tn, cEq_tt, cNe_tt, P_sumT, P_lenT, P_listT, if_true, if_false, Bool.false_eq_true, this, Bool.not_false, e5, szl]
        simp only [show (0 + 1 + 1 : Nat) ≤ 16777216 from by omega, if_true]
        refine ⟨by trivial, ?_⟩
        rw [e6, if_pos hz]
    · intro S3 e3 f3
      rw [flat_pairs k _ fun p hp => by
        show (if getK k (p.1 : Int) ≠ 0 then [AV.tup [.int (p.1 : Int), .int (getK k (p.1 : Int))]] else []) = _
        rw [getK_kv k b2.2.1 p hp]] at f3
      have hnd : Nd (k.filter fun p => decide (p.2 ≠ 0)) := (List.filter_sublist.map _).nodup b2.2.1
      have hlen : (k.filter fun p => decide (p.2 ≠ 0)).length ≤ 8 := Nat.le_trans (List.length_filter_le _ _) (by have := b2.2.2; omega)
      have ep : pDict [.ref S2.length] S3 = new S3 (.dct false (kvA (k.filter fun p => decide (p.2 ≠ 0)))) := by
        show (match (lstOf S3 (.ref S2.length)).bind prsOf with
          | some ps => if (ps.all fun p => (kA p.1).isSome) && decide (ps.length ≤ 1000000) then new S3 (.dct false (mrgA [] ps)) else .bad
          | none => .bad : Res AV) = _
        have e7 : lstOf S3 (.ref S2.length) = some ((k.filter fun p => decide (p.2 ≠ 0)).map fun p => .tup [.int (p.1 : Int), .int p.2]) := by
          show (match S3[S2.length]? with
            | some (.lst _ xs) => some xs
            | _ => none) = _
          rw [f3]
        rw [e7, Option.bind_some, prs_kv]
        show (if _ then _ else _ : Res AV) = _
        rw [if_pos (by rw [kvA_all, Bool.true_and]; exact decide_eq_true (by rw [kvA_len]; omega))]
        have := mrg_kv (k.filter fun p => decide (p.2 ≠ 0)) [] (by simpa using hnd)
        have e8 : kvA ([] : KV) = [] := rfl
        rw [e8, List.nil_append] at this
        rw [this]
      rw [ep]
      try simp only [P_seq, P_if, P_ret, P_expr, P_nil, P_asg, P_gNm, P_par, P_aug, P_gSub, P_gsNil, P_gsCons, P_loc, P_eK, P_e1, P_e2, P_eT, P_aNil, P_aCons, P_call, P_tup, P_lst, P_eIf, P_andB, P_orB, P_notB, P_ofO, P_tV, P_tB, P_tAnd, P_tOr, P_tNot, P_tYes, P_tC, P_ch, P_sl, P_oNo, P_oYes, P_mt, P_new, P_stp, Res.P_ok, SR.P_nx, SR.P_ret, P_if_res, P_bad, wip, List.set_cons_succ, List.set_cons_zero, List.getElem?_cons_succ, List.getElem?_cons_zero, List.getElem?_nil, List.length_cons, List.length_nil, P_addI, P_subI, P_augI, P_negI, P_lt, P_le, P_gt, P_ge, P_absI, P_intI, P_intB, cEq_ii, cNe_ii, cEq_bb, cEq_ss, cEq_ts, cEq_tn, cEq_tt, cNe_tt, P_sumT, P_lenT, P_listT, if_true, if_false, Bool.false_eq_true]
      have k3 := k2.trans ((e3.trans (Ext.app S3 [AO.dct false (kvA (k.filter fun p => decide (p.2 ≠ 0)))])).kp a)
      refine h _ (k.filter fun p => decide (p.2 ≠ 0)) _ ?_ k3 ?_ (app_new _ _) ⟨fun p hp => ?_, by omega⟩ hnd (fun p hp => ?_) (by rw [deg_filter]; omega)
      · have := get_lt f2
        have := get_lt f3
        omega
      · obtain ⟨x, y, z, h⟩ := d2
        exact ⟨x, y, z, app_get (e3 _ _ h)⟩
      · have h1 := List.mem_filter.1 hp
        have := b2.1 p h1.1
        have h2 : p.2 ≠ 0 := of_decide_eq_true h1.2
        refine ⟨by omega, by omega, h2, by omega⟩
      · have h1 := List.mem_filter.1 hp
        have := b2.1 p h1.1
        omega
end Mc.Lk83
end
section
set_option Elab.async false
set_option linter.all false
set_option maxRecDepth 100000
/-! K83_z: rows multiplied, values judged -/
namespace Mc.Lk83
open PySem Mc.Py
theorem x_cut (a : Nat) (lk : Bool) (L : List Int) (S : Sto) (hS : S[a]? = some (.lst lk (iv L))) (h0 : la L ≠ 0) (hl : L.length < 10000) (Q : AV → Sto → Prop)
    (h : ∀ S', Ext S S' → Q (.tup (iv L)) S') : (d_q_whole_cut [.ref a] S).P Q := by
  have hne : L ≠ [] := by intro e; rw [e] at h0; exact h0 rfl
  obtain ⟨k, hk, hk2⟩ := la_get L hne
  refine P_mkF [some (.ref a), none] rfl ?_
  simp only [P_seq, P_if, P_ret, P_expr, P_nil, P_asg, P_gNm, P_par, P_aug, P_gSub, P_gsNil, P_gsCons, P_loc, P_eK, P_e1, P_e2, P_eT, P_aNil, P_aCons, P_call, P_tup, P_lst, P_eIf, P_andB, P_orB, P_notB, P_ofO, P_tV, P_tB, P_tAnd, P_tOr, P_tNot, P_tYes, P_tC, P_ch, P_sl, P_oNo, P_oYes, P_mt, P_new, P_stp, Res.P_ok, SR.P_nx, SR.P_ret, P_if_res, P_bad, wip, List.set_cons_succ, List.set_cons_zero, List.getElem?_cons_succ, List.getElem?_cons_zero, List.getElem?_nil, List.length_cons, List.length_nil, P_addI, P_subI, P_augI, P_negI, P_lt, P_le, P_gt, P_ge, P_absI, P_intI, P_intB, cEq_ii, cNe_ii, cEq_bb, cEq_ss, cEq_ts, cEq_tn, cEq_tt, cNe_tt, P_sumT, P_lenT, P_listT, if_true, if_false, Bool.false_eq_true, P_lenL _ _ _ _ hS]
  refine P_while (fun j r S' => j = 0 ∧ r = [some (.ref a), some (.int (iv L).length)] ∧ S' = S) 0 (by unfold LIM; omega) ⟨rfl, rfl, rfl⟩ ?_
  rintro j r S' ⟨rfl, rfl, rfl⟩
  have e1 : ((iv L).length : Int) = (k : Int) + 1 := by simp; omega
  rw [e1]
  have e2 : decide (0 < (k : Int) + 1) = true := decide_eq_true (by omega)
  have e4 : (iv L).length = L.length := by simp
  have e3 : oIx (.ref a) (.int ((k : Int) + 1 - 1)) S' = .ok (.int (la L)) S' := oIx_L _ _ _ _ _ _ hS (by
    rw [atI_of _ _ k (by omega) (by rw [e4]; omega)]
    have : (iv L)[k]? = some (.int (la L)) := by rw [List.getElem?_map, hk2]; rfl
    rw [List.getElem?_eq_getElem (by rw [e4]; omega)] at this
    exact this)
  have e5 : (la L == 0) = false := by simpa using h0
  simp only [P_seq, P_if, P_ret, P_expr, P_nil, P_asg, P_gNm, P_par, P_aug, P_gSub, P_gsNil, P_gsCons, P_loc, P_eK, P_e1, P_e2, P_eT, P_aNil, P_aCons, P_call, P_tup, P_lst, P_eIf, P_andB, P_orB, P_notB, P_ofO, P_tV, P_tB, P_tAnd, P_tOr, P_tNot, P_tYes, P_tC, P_ch, P_sl, P_oNo, P_oYes, P_mt, P_new, P_stp, Res.P_ok, SR.P_nx, SR.P_ret, P_if_res, P_bad, wip, List.set_cons_succ, List.set_cons_zero, List.getElem?_cons_succ, List.getElem?_cons_zero, List.getElem?_nil, List.length_cons, List.length_nil, P_addI, P_subI, P_augI, P_negI, P_lt, P_le, P_gt, P_ge, P_absI, P_intI, P_intB, cEq_ii, cNe_ii, cEq_bb, cEq_ss, cEq_ts, cEq_tn, cEq_tt, cNe_tt, P_sumT, P_lenT, P_listT, if_true, if_false, Bool.false_eq_true, e2, e3, e5]
  rw [oSl_L _ _ _ _ _ _ hS, cutA_all _ _ (by omega)]
  try simp only [P_seq, P_if, P_ret, P_expr, P_nil, P_asg, P_gNm, P_par, P_aug, P_gSub, P_gsNil, P_gsCons, P_loc, P_eK, P_e1, P_e2, P_eT, P_aNil, P_aCons, P_call, P_tup, P_lst, P_eIf, P_andB, P_orB, P_notB, P_ofO, P_tV, P_tB, P_tAnd, P_tOr, P_tNot, P_tYes, P_tC, P_ch, P_sl, P_oNo, P_oYes, P_mt, P_new, P_stp, Res.P_ok, SR.P_nx, SR.P_ret, P_if_res, P_bad, wip, List.set_cons_succ, List.set_cons_zero, List.getElem?_cons_succ, List.getElem?_cons_zero, List.getElem?_nil, List.length_cons, List.length_nil, P_addI, P_subI, P_augI, P_negI, P_lt, P_le, P_gt, P_ge, P_absI, P_intI, P_intB, cEq_ii, cNe_ii, cEq_bb, cEq_ss, cEq_ts, cEq_tn, cEq_tt, cNe_tt, P_sumT, P_lenT, P_listT, if_true, if_false, Bool.false_eq_true]
  rw [P_tupL _ _ _ _ (app_new _ _)]
  exact h _ (Ext.app _ _)
theorem P_enumT (t : DA) (r : Env) (S : Sto) (Q : Src → Sto → Prop) (h : (t r S).P fun vs S1 => ∃ xs, vs = [.tup xs] ∧ Q (uEnF 0 xs) S1) : (iEnum1 t r S).P Q := by
  unfold iEnum1
  rw [Res.P_bind]
  refine h.mono ?_
  rintro vs S1 ⟨xs, rfl, h⟩
  with_unfolding_all exact h
def enL (xs : List AV) : List AV := (List.range xs.length).map fun (i : Nat) => .tup [.int (i : Int), xs.getD i .non]
theorem enL_len (xs : List AV) : (enL xs).length = xs.length := by simp [enL]
theorem enL_src (xs : List AV) (S : Sto) (i : Nat) : uEnF 0 xs S i = some (enL xs)[i]? := by
  show some (xs[i]?.map fun v => AV.tup [.int (0 + (i : Int)), v]) = _
  congr 1
  unfold enL
  rw [List.getElem?_map]
  by_cases h : i < xs.length
  · rw [List.getElem?_range h, List.getElem?_eq_getElem h]
    simp [List.getD, List.getElem?_eq_getElem h]
  · rw [List.getElem?_eq_none (by omega), List.getElem?_eq_none (by simp; omega)]
    rfl
theorem enL_get {xs : List AV} {i : Nat} {v : AV} (h : (enL xs)[i]? = some v) : ∃ w, xs[i]? = some w ∧ v = .tup [.int (i : Int), w] := by
  have hi : i < xs.length := by
    have := (List.getElem?_eq_some_iff.1 h).1
    rwa [enL_len] at this
  refine ⟨xs[i], List.getElem?_eq_getElem hi, ?_⟩
  unfold enL at h
  rw [List.getElem?_map, List.getElem?_range hi] at h
  simp [List.getD, List.getElem?_eq_getElem hi] at h
  exact h.symm
def gw (L : List Int) (i j : Nat) : Int := if j < i then L.getD j 0 else 0
/-- the first i entries multiplied in -/
def fw (L : List Int) (i : Nat) : Nat → Int := fun j => - gw L i j + (if 1 ≤ j then gw L i (j - 1) else 0)
def hw (L : List Int) (i l : Nat) : Nat → Int := fun j => fw L i j + (if j = i ∧ 1 ≤ l then - L.getD i 0 else 0) + (if j = i + 1 ∧ 2 ≤ l then L.getD i 0 else 0)
theorem hw0 (L : List Int) (i : Nat) : hw L i 0 = fw L i := by
  funext j
  unfold hw
  simp
theorem hw1 (L : List Int) (i : Nat) : (fun j => if j = i + 0 then hw L i 0 (i + 0) + L.getD i 0 * -1 else hw L i 0 j) = hw L i 1 := by
  funext j
  unfold hw
  by_cases h : j = i
  · subst h; simp
  · simp [h]
theorem hw2 (L : List Int) (i : Nat) : (fun j => if j = i + 1 then hw L i 1 (i + 1) + L.getD i 0 * 1 else hw L i 1 j) = hw L i 2 := by
  funext j
  unfold hw
  by_cases h : j = i + 1
  · subst h; simp
  · simp [h]
theorem hw_next (L : List Int) (i : Nat) : hw L i 2 = fw L (i + 1) := by
  funext j
  unfold hw fw gw
  by_cases h : j = i
  · subst h
    simp
    by_cases h1 : 1 ≤ j
    · simp [h1, show j - 1 < j by omega, show j - 1 < j + 1 by omega]
      omega
    · simp [h1]
  · by_cases h2 : j = i + 1
    · subst h2
      simp [show ¬ (i + 1 < i) by omega]
    · simp only [h, h2, false_and, if_false]
      have a1 : (j < i) ↔ (j < i + 1) := by omega
      have a2 : 1 ≤ j → ((j - 1 < i) ↔ (j - 1 < i + 1)) := by omega
      simp only [a1]
      by_cases h3 : 1 ≤ j
      · simp only [h3, if_true, a2 h3]; omega
      · simp only [h3, if_false]; omega
theorem tab_zero (n : Nat) : (List.replicate n (AV.int 0)) = tab n fun _ => 0 := by
  apply List.ext_getElem?
  intro j
  by_cases hj : j < n
  · rw [tab_get _ _ _ hj]; simp [hj]
  · rw [List.getElem?_eq_none (by simp; omega), List.getElem?_eq_none (by rw [tab_len]; omega)]
theorem fw0 (L : List Int) : fw L 0 = fun _ => 0 := by
  funext j
  unfold fw gw
  simp
theorem gw_b (L : List Int) (i j B : Nat) (h : ∀ x ∈ L, x.natAbs ≤ B) : (gw L i j).natAbs ≤ B := by
  unfold gw
  split
  · by_cases hj : j < L.length
    · rw [List.getD_eq_getElem?_getD, List.getElem?_eq_getElem hj]
      exact h _ (List.getElem_mem ..)
    · rw [List.getD_eq_getElem?_getD, List.getElem?_eq_none (by omega)]
      simp
  · simp
theorem fw_b (L : List Int) (i j B : Nat) (h : ∀ x ∈ L, x.natAbs ≤ B) : (fw L i j).natAbs ≤ 2 * B := by
  have h1 := gw_b L i j B h
  have h2 := gw_b L i (j - 1) B h
  unfold fw
  split <;> omega
theorem la_tab (n : Nat) (f : Nat → Int) : la (tabI (n + 1) f) = f n := by
  rw [tabI_succ]
  simp [la]
theorem fw_last (L : List Int) (h : L ≠ []) : fw L L.length L.length = la L := by
  obtain ⟨k, hk, hk2⟩ := la_get L h
  unfold fw gw
  rw [if_neg (by omega), if_pos (by omega), if_pos (by omega)]
  have : L.length - 1 = k := by omega
  rw [this, List.getD_eq_getElem?_getD, hk2]
  simp
theorem x_wprod (L : List Int) (B : Nat) (S : Sto) (h0 : la L ≠ 0) (hB : ∀ x ∈ L, x.natAbs ≤ B) (hl : L.length < 1000) (Q : AV → Sto → Prop)
    (h : ∀ L' S', Ext S S' → la L' ≠ 0 → (∀ x ∈ L', x.natAbs ≤ 2 * B) → L'.length ≤ L.length + 1 → Q (.tup (iv L')) S') : (d_q_whole_product [.tup (iv L), .tup [.int (-1), .int 1]] S).P Q := by
  have hne : L ≠ [] := by intro e; rw [e] at h0; exact h0 rfl
  have hpos := List.length_pos_iff.2 hne
  have el : (iv L).length = L.length := by simp
  refine P_mkF [some (.tup (iv L)), some (.tup [.int (-1), .int 1]), none, none, none, none, none] rfl ?_
  simp only [P_seq, P_if, P_ret, P_expr, P_nil, P_asg, P_gNm, P_par, P_aug, P_gSub, P_gsNil, P_gsCons, P_loc, P_eK, P_e1, P_e2, P_eT, P_aNil, P_aCons, P_call, P_tup, P_lst, P_eIf, P_andB, P_orB, P_notB, P_ofO, P_tV, P_tB, P_tAnd, P_tOr, P_tNot, P_tYes, P_tC, P_ch, P_sl, P_oNo, P_oYes, P_mt, P_new, P_stp, Res.P_ok, SR.P_nx, SR.P_ret, P_if_res, P_bad, wip, List.set_cons_succ, List.set_cons_zero, List.getElem?_cons_succ, List.getElem?_cons_zero, List.getElem?_nil, List.length_cons, List.length_nil, P_addI, P_subI, P_augI, P_negI, P_lt, P_le, P_gt, P_ge, P_absI, P_intI, P_intB, cEq_ii, cNe_ii, cEq_bb, cEq_ss, cEq_ts, cEq_tn, cEq_tt, cNe_tt, P_sumT, P_lenT, P_listT, if_true, if_false, Bool.false_eq_true, szl, P_lenT, pMax2]
  simp only [show (0 + 1 : Nat) ≤ 16777216 from by omega, if_true, el]
  have em : (if (L.length : Int) + ((0 + 1 + 1 : Nat) : Int) - 1 > 0 then (L.length : Int) + ((0 + 1 + 1 : Nat) : Int) - 1 else 0) = ((L.length + 1 : Nat) : Int) := by
    rw [if_pos (by omega)]; omega
  rw [em, P_mulL S.length [.int 0] (L.length + 1) _ (app_new _ _) (by simp; omega) (by omega), fl_one]
  have ez : iv (List.replicate (L.length + 1) 0) = tab (L.length + 1) (fw L 0) := by
    rw [fw0, ← tab_zero]; simp
  rw [ez]
  try simp only [P_seq, P_if, P_ret, P_expr, P_nil, P_asg, P_gNm, P_par, P_aug, P_gSub, P_gsNil, P_gsCons, P_loc, P_eK, P_e1, P_e2, P_eT, P_aNil, P_aCons, P_call, P_tup, P_lst, P_eIf, P_andB, P_orB, P_notB, P_ofO, P_tV, P_tB, P_tAnd, P_tOr, P_tNot, P_tYes, P_tC, P_ch, P_sl, P_oNo, P_oYes, P_mt, P_new, P_stp, Res.P_ok, SR.P_nx, SR.P_ret, P_if_res, P_bad, wip, List.set_cons_succ, List.set_cons_zero, List.getElem?_cons_succ, List.getElem?_cons_zero, List.getElem?_nil, List.length_cons, List.length_nil, P_addI, P_subI, P_augI, P_negI, P_lt, P_le, P_gt, P_ge, P_absI, P_intI, P_intB, cEq_ii, cNe_ii, cEq_bb, cEq_ss, cEq_ts, cEq_tn, cEq_tt, cNe_tt, P_sumT, P_lenT, P_listT, if_true, if_false, Bool.false_eq_true]
  have hp := app_new (S ++ [AO.lst false [AV.int 0]]) (.lst false (tab (L.length + 1) (fw L 0)))
  have hx : Ext S ((S ++ [AO.lst false [AV.int 0]]) ++ [.lst false (tab (L.length + 1) (fw L 0))]) := (Ext.app _ _).trans (Ext.app _ _)
  have hg : S.length ≤ (S ++ [AO.lst false [AV.int 0]]).length := by simp
  generalize (S ++ [AO.lst false [AV.int 0]]) ++ [AO.lst false (tab (L.length + 1) (fw L 0))] = S1 at hp hx
  generalize (S ++ [AO.lst false [AV.int 0]]).length = p at hp hg
  refine P_for (enL (iv L)) (fun i r S' => ∃ o3 o4 o5 o6, r = [some (.tup (iv L)), some (.tup [.int (-1), .int 1]), some (.ref p), o3, o4, o5, o6] ∧ Ext S S' ∧ S'[p]? = some (.lst false (tab (L.length + 1) (fw L i)))) (by rw [enL_len, el]; unfold LIM; omega) ?_ ?_ ?_
  · refine P_enumT _ _ _ _ ?_
    simp only [P_seq, P_if, P_ret, P_expr, P_nil, P_asg, P_gNm, P_par, P_aug, P_gSub, P_gsNil, P_gsCons, P_loc, P_eK, P_e1, P_e2, P_eT, P_aNil, P_aCons, P_call, P_tup, P_lst, P_eIf, P_andB, P_orB, P_notB, P_ofO, P_tV, P_tB, P_tAnd, P_tOr, P_tNot, P_tYes, P_tC, P_ch, P_sl, P_oNo, P_oYes, P_mt, P_new, P_stp, Res.P_ok, SR.P_nx, SR.P_ret, P_if_res, P_bad, wip, List.set_cons_succ, List.set_cons_zero, List.getElem?_cons_succ, List.getElem?_cons_zero, List.getElem?_nil, List.length_cons, List.length_nil, P_addI, P_subI, P_augI, P_negI, P_lt, P_le, P_gt, P_ge, P_absI, P_intI, P_intB, cEq_ii, cNe_ii, cEq_bb, cEq_ss, cEq_ts, cEq_tn, cEq_tt, cNe_tt, P_sumT, P_lenT, P_listT, if_true, if_false, Bool.false_eq_true]
    exact ⟨_, rfl, fun i r' S' _ => enL_src _ _ _, none, none, none, none, rfl, hx, hp⟩
  · intro i v r S2 hv hI
    obtain ⟨o3, o4, o5, o6, rfl, e2, p2⟩ := hI
    obtain ⟨w, hw', rfl⟩ := enL_get hv
    obtain ⟨x, hxL, rfl⟩ := iv_get hw'
    have hi : i < L.length := (List.getElem?_eq_some_iff.1 hxL).1
    have exd : L.getD i 0 = x := by rw [List.getD_eq_getElem?_getD, hxL]; rfl
    simp only [P_seq, P_if, P_ret, P_expr, P_nil, P_asg, P_gNm, P_par, P_aug, P_gSub, P_gsNil, P_gsCons, P_loc, P_eK, P_e1, P_e2, P_eT, P_aNil, P_aCons, P_call, P_tup, P_lst, P_eIf, P_andB, P_orB, P_notB, P_ofO, P_tV, P_tB, P_tAnd, P_tOr, P_tNot, P_tYes, P_tC, P_ch, P_sl, P_oNo, P_oYes, P_mt, P_new, P_stp, Res.P_ok, SR.P_nx, SR.P_ret, P_if_res, P_bad, wip, List.set_cons_succ, List.set_cons_zero, List.getElem?_cons_succ, List.getElem?_cons_zero, List.getElem?_nil, List.length_cons, List.length_nil, P_addI, P_subI, P_augI, P_negI, P_lt, P_le, P_gt, P_ge, P_absI, P_intI, P_intB, cEq_ii, cNe_ii, cEq_bb, cEq_ss, cEq_ts, cEq_tn, cEq_tt, cNe_tt, P_sumT, P_lenT, P_listT, if_true, if_false, Bool.false_eq_true, P_gTup2]
    refine P_for (enL [.int (-1), .int 1]) (fun l r S' => ∃ o5 o6, r = [some (.tup (iv L)), some (.tup [.int (-1), .int 1]), some (.ref p), some (.int (i : Int)), some (.int x), o5, o6] ∧ Ext S S' ∧ S'[p]? = some (.lst false (tab (L.length + 1) (hw L i l)))) (by rw [enL_len]; unfold LIM; simp) ?_ ?_ ?_
    · refine P_enumT _ _ _ _ ?_
      simp only [P_seq, P_if, P_ret, P_expr, P_nil, P_asg, P_gNm, P_par, P_aug, P_gSub, P_gsNil, P_gsCons, P_loc, P_eK, P_e1, P_e2, P_eT, P_aNil, P_aCons, P_call, P_tup, P_lst, P_eIf, P_andB, P_orB, P_notB, P_ofO, P_tV, P_tB, P_tAnd, P_tOr, P_tNot, P_tYes, P_tC, P_ch, P_sl, P_oNo, P_oYes, P_mt, P_new, P_stp, Res.P_ok, SR.P_nx, SR.P_ret, P_if_res, P_bad, wip, List.set_cons_succ, List.set_cons_zero, List.getElem?_cons_succ, List.getElem?_cons_zero, List.getElem?_nil, List.length_cons, List.length_nil, P_addI, P_subI, P_augI, P_negI, P_lt, P_le, P_gt, P_ge, P_absI, P_intI, P_intB, cEq_ii, cNe_ii, cEq_bb, cEq_ss, cEq_ts, cEq_tn, cEq_tt, cNe_tt, P_sumT, P_lenT, P_listT, if_true, if_false, Bool.false_eq_true]
      exact ⟨_, rfl, fun i r' S' _ => enL_src _ _ _, o5, o6, rfl, e2, by rw [hw0]; exact p2⟩
    · intro l v r S3 hv hI
      obtain ⟨o5, o6, rfl, e3, p3⟩ := hI
      obtain ⟨w, hw', rfl⟩ := enL_get hv
      have hl2 : l < 2 := (List.getElem?_eq_some_iff.1 hw').1
      have cases2 : (l = 0 ∧ w = .int (-1)) ∨ (l = 1 ∧ w = .int 1) := by
        match l, hl2, hw' with
        | 0, _, hw' => exact .inl ⟨rfl, (Option.some.inj hw').symm⟩
        | 1, _, hw' => exact .inr ⟨rfl, (Option.some.inj hw').symm⟩
      rcases cases2 with ⟨rfl, rfl⟩ | ⟨rfl, rfl⟩
      · simp only [P_seq, P_if, P_ret, P_expr, P_nil, P_asg, P_gNm, P_par, P_aug, P_gSub, P_gsNil, P_gsCons, P_loc, P_eK, P_e1, P_e2, P_eT, P_aNil, P_aCons, P_call, P_tup, P_lst, P_eIf, P_andB, P_orB, P_notB, P_ofO, P_tV, P_tB, P_tAnd, P_tOr, P_tNot, P_tYes, P_tC, P_ch, P_sl, P_oNo, P_oYes, P_mt, P_new, P_stp, Res.P_ok, SR.P_nx, SR.P_ret, P_if_res, P_bad, wip, List.set_cons_succ, List.set_cons_zero, List.getElem?_cons_succ, List.getElem?_cons_zero, List.getElem?_nil, List.length_cons, List.length_nil, P_addI, P_subI, P_augI, P_negI, P_lt, P_le, P_gt, P_ge, P_absI, P_intI, P_intB, cEq_ii, cNe_ii, cEq_bb, cEq_ss, cEq_ts, cEq_tn, cEq_tt, cNe_tt, P_sumT, P_lenT, P_listT, if_true, if_false, Bool.false_eq_true, P_gTup2]
        rw [P_ixTab _ _ _ _ _ _ (i + 0) p3 (by omega) (by omega)]
        try simp only [P_seq, P_if, P_ret, P_expr, P_nil, P_asg, P_gNm, P_par, P_aug, P_gSub, P_gsNil, P_gsCons, P_loc, P_eK, P_e1, P_e2, P_eT, P_aNil, P_aCons, P_call, P_tup, P_lst, P_eIf, P_andB, P_orB, P_notB, P_ofO, P_tV, P_tB, P_tAnd, P_tOr, P_tNot, P_tYes, P_tC, P_ch, P_sl, P_oNo, P_oYes, P_mt, P_new, P_stp, Res.P_ok, SR.P_nx, SR.P_ret, P_if_res, P_bad, wip, List.set_cons_succ, List.set_cons_zero, List.getElem?_cons_succ, List.getElem?_cons_zero, List.getElem?_nil, List.length_cons, List.length_nil, P_addI, P_subI, P_augI, P_negI, P_lt, P_le, P_gt, P_ge, P_absI, P_intI, P_intB, cEq_ii, cNe_ii, cEq_bb, cEq_ss, cEq_ts, cEq_tn, cEq_tt, cNe_tt, P_sumT, P_lenT, P_listT, if_true, if_false, Bool.false_eq_true]
        rw [P_mulS _ _ _ _ (.inr (by decide))]
        try simp only [P_seq, P_if, P_ret, P_expr, P_nil, P_asg, P_gNm, P_par, P_aug, P_gSub, P_gsNil, P_gsCons, P_loc, P_eK, P_e1, P_e2, P_eT, P_aNil, P_aCons, P_call, P_tup, P_lst, P_eIf, P_andB, P_orB, P_notB, P_ofO, P_tV, P_tB, P_tAnd, P_tOr, P_tNot, P_tYes, P_tC, P_ch, P_sl, P_oNo, P_oYes, P_mt, P_new, P_stp, Res.P_ok, SR.P_nx, SR.P_ret, P_if_res, P_bad, wip, List.set_cons_succ, List.set_cons_zero, List.getElem?_cons_succ, List.getElem?_cons_zero, List.getElem?_nil, List.length_cons, List.length_nil, P_addI, P_subI, P_augI, P_negI, P_lt, P_le, P_gt, P_ge, P_absI, P_intI, P_intB, cEq_ii, cNe_ii, cEq_bb, cEq_ss, cEq_ts, cEq_tn, cEq_tt, cNe_tt, P_sumT, P_lenT, P_listT, if_true, if_false, Bool.false_eq_true]
        rw [P_setTab _ _ _ _ _ (i + 0) _ p3 (by omega) (by omega)]
        refine ⟨_, _, rfl, ext_set _ e3 hg, ?_⟩
        rw [set_get _ _ _ (get_lt p3), ← hw1, exd]
      · simp only [P_seq, P_if, P_ret, P_expr, P_nil, P_asg, P_gNm, P_par, P_aug, P_gSub, P_gsNil, P_gsCons, P_loc, P_eK, P_e1, P_e2, P_eT, P_aNil, P_aCons, P_call, P_tup, P_lst, P_eIf, P_andB, P_orB, P_notB, P_ofO, P_tV, P_tB, P_tAnd, P_tOr, P_tNot, P_tYes, P_tC, P_ch, P_sl, P_oNo, P_oYes, P_mt, P_new, P_stp, Res.P_ok, SR.P_nx, SR.P_ret, P_if_res, P_bad, wip, List.set_cons_succ, List.set_cons_zero, List.getElem?_cons_succ, List.getElem?_cons_zero, List.getElem?_nil, List.length_cons, List.length_nil, P_addI, P_subI, P_augI, P_negI, P_lt, P_le, P_gt, P_ge, P_absI, P_intI, P_intB, cEq_ii, cNe_ii, cEq_bb, cEq_ss, cEq_ts, cEq_tn, cEq_tt, cNe_tt, P_sumT, P_lenT, P_listT, if_true, if_false, Bool.false_eq_true, P_gTup2]
        rw [P_ixTab _ _ _ _ _ _ (i + 1) p3 (by omega) (by omega)]
        try simp only [P_seq, P_if, P_ret, P_expr, P_nil, P_asg, P_gNm, P_par, P_aug, P_gSub, P_gsNil, P_gsCons, P_loc, P_eK, P_e1, P_e2, P_eT, P_aNil, P_aCons, P_call, P_tup, P_lst, P_eIf, P_andB, P_orB, P_notB, P_ofO, P_tV, P_tB, P_tAnd, P_tOr, P_tNot, P_tYes, P_tC, P_ch, P_sl, P_oNo, P_oYes, P_mt, P_new, P_stp, Res.P_ok, SR.P_nx, SR.P_ret, P_if_res, P_bad, wip, List.set_cons_succ, List.set_cons_zero, List.getElem?_cons_succ, List.getElem?_cons_zero, List.getElem?_nil, List.length_cons, List.length_nil, P_addI, P_subI, P_augI, P_negI, P_lt, P_le, P_gt, P_ge, P_absI, P_intI, P_intB, cEq_ii, cNe_ii, cEq_bb, cEq_ss, cEq_ts, cEq_tn, cEq_tt, cNe_tt, P_sumT, P_lenT, P_listT, if_true, if_false, Bool.false_eq_true]
        rw [P_mulS _ _ _ _ (.inr (by decide))]
        try simp only [P_seq, P_if, P_ret, P_expr, P_nil, P_asg, P_gNm, P_par, P_aug, P_gSub, P_gsNil, P_gsCons, P_loc, P_eK, P_e1, P_e2, P_eT, P_aNil, P_aCons, P_call, P_tup, P_lst, P_eIf, P_andB, P_orB, P_notB, P_ofO, P_tV, P_tB, P_tAnd, P_tOr, P_tNot, P_tYes, P_tC, P_ch, P_sl, P_oNo, P_oYes, P_mt, P_new, P_stp, Res.P_ok, SR.P_nx, SR.P_ret, P_if_res, P_bad, wip, List.set_cons_succ, List.set_cons_zero, List.getElem?_cons_succ, List.getElem?_cons_zero, List.getElem?_nil, List.length_cons, List.length_nil, P_addI, P_subI, P_augI, P_negI, P_lt, P_le, P_gt, P_ge, P_absI, P_intI, P_intB, cEq_ii, cNe_ii, cEq_bb, cEq_ss, cEq_ts, cEq_tn, cEq_tt, cNe_tt, P_sumT, P_lenT, P_listT, if_true, if_false, Bool.false_eq_true]
        rw [P_setTab _ _ _ _ _ (i + 1) _ p3 (by omega) (by omega)]
        refine ⟨_, _, rfl, ext_set _ e3 hg, ?_⟩
        rw [set_get _ _ _ (get_lt p3), ← hw2, exd]
    · intro r S3 hI
      obtain ⟨o5, o6, rfl, e3, p3⟩ := hI
      exact ⟨_, _, _, _, rfl, e3, by rw [p3, ← hw_next]; rfl⟩
  · intro r S2 hI
    obtain ⟨o3, o4, o5, o6, rfl, e2, p2⟩ := hI
    rw [enL_len, el] at p2
    have el2 : la (tabI (L.length + 1) (fw L L.length)) ≠ 0 := by rw [la_tab, fw_last L hne]; exact h0
    try simp only [P_seq, P_if, P_ret, P_expr, P_nil, P_asg, P_gNm, P_par, P_aug, P_gSub, P_gsNil, P_gsCons, P_loc, P_eK, P_e1, P_e2, P_eT, P_aNil, P_aCons, P_call, P_tup, P_lst, P_eIf, P_andB, P_orB, P_notB, P_ofO, P_tV, P_tB, P_tAnd, P_tOr, P_tNot, P_tYes, P_tC, P_ch, P_sl, P_oNo, P_oYes, P_mt, P_new, P_stp, Res.P_ok, SR.P_nx, SR.P_ret, P_if_res, P_bad, wip, List.set_cons_succ, List.set_cons_zero, List.getElem?_cons_succ, List.getElem?_cons_zero, List.getElem?_nil, List.length_cons, List.length_nil, P_addI, P_subI, P_augI, P_negI, P_lt, P_le, P_gt, P_ge, P_absI, P_intI, P_intB, cEq_ii, cNe_ii, cEq_bb, cEq_ss, cEq_ts, cEq_tn, cEq_tt, cNe_tt, P_sumT, P_lenT, P_listT, if_true, if_false, Bool.false_eq_true]
    refine x_cut p false _ S2 p2 el2 (by rw [tabI_len]; omega) _ fun S3 e3 => ?_
    refine h _ S3 (e2.trans e3) el2 (fun x hx => ?_) (by rw [tabI_len]; omega)
    obtain ⟨j, _, rfl⟩ := List.mem_map.1 hx
    exact fw_b L _ j B hB
end Mc.Lk83
end
section
set_option Elab.async false
set_option linter.all false
set_option maxRecDepth 100000
/-! K83_j: values judged -/
namespace Mc.Lk83
open PySem Mc.Py
theorem P_lcE {Q : AV → Sto → Prop} {vs : List Nat} {u : DI} {g : DG} {t : DT} {a : DE} {r : Env} {S : Sto}
    (hu : (u r S).P fun s S1 => ∃ (xs : List AV) (Inv : Nat → List AV → Sto → Prop), xs.length < LIM ∧ (∀ i acc S', Inv i acc S' → s S' i = some xs[i]?) ∧ Inv 0 [] S1
      ∧ (∀ i v acc S1, xs[i]? = some v → Inv i acc S1 → lcStp g t a v (wip r vs) S1 fun ys S2 => Inv (i + 1) (acc ++ ys) S2)
      ∧ ∀ acc S1, Inv xs.length acc S1 → Q (.ref S1.length) (S1 ++ [.lst false acc])) : (eLc vs u g t a r S).P Q := by
  show ((u r S).bind fun s S1 => (lcG s g t a (wip r vs) LIM 0 [] S1).bind fun xs S2 => new S2 (.lst false xs)).P Q
  rw [Res.P_bind]
  refine hu.mono ?_
  rintro s S1 ⟨xs, Inv, hl, h1, h2, h3, h4⟩
  rw [Res.P_bind]
  exact P_lcG xs Inv h1 h3 (fun acc S' hh => by rw [P_new]; exact h4 acc S' hh) LIM 0 [] S1 (by omega) (by omega) h2
theorem x_row {S : Sto} {r : Env} (j t a : Nat) {Q : AV → Sto → Prop} (h1 : r[0]? = some (some (.ref a))) (h2 : ∀ v, ((wip r [j]).set j v)[0]? = some (some (.ref a))) (hd : Dice a S) (ht : 0 < t) (ht' : t < 100)
    (h : ∀ L S' b, Kp a S S' → Dice a S' → L.length < t → (∀ x ∈ L, x.natAbs ≤ 3) → b ≠ a → S'[b]? = some (.lst false (iv L)) → Q (.ref b) S') :
    (eLc [j] (iRng1 (aCons (eCall d_q_roll (aCons (eLoc 0) (aCons (eK (.int (t : Int))) (aNil)))) (aNil))) (gNm j) (Mc.tYes) (e2 oSub (eCall d_q_roll (aCons (eLoc 0) (aCons (eK (.int ((7 : Nat) : Int))) (aNil)))) (eK (.int 3))) r S).P Q := by
  refine P_lcE ?_
  refine P_rng1 _ _ _ _ ?_
  simp only [P_seq, P_if, P_ret, P_expr, P_nil, P_asg, P_gNm, P_par, P_aug, P_gSub, P_gsNil, P_gsCons, P_loc, P_eK, P_e1, P_e2, P_eT, P_aNil, P_aCons, P_call, P_tup, P_lst, P_eIf, P_andB, P_orB, P_notB, P_ofO, P_tV, P_tB, P_tAnd, P_tOr, P_tNot, P_tYes, P_tC, P_ch, P_sl, P_oNo, P_oYes, P_mt, P_new, P_stp, Res.P_ok, SR.P_nx, SR.P_ret, P_if_res, P_bad, wip, List.set_cons_succ, List.set_cons_zero, List.getElem?_cons_succ, List.getElem?_cons_zero, List.getElem?_nil, List.length_cons, List.length_nil, P_addI, P_subI, P_augI, P_negI, P_lt, P_le, P_gt, P_ge, P_absI, P_intI, P_intB, cEq_ii, cNe_ii, cEq_bb, cEq_ss, cEq_ts, cEq_tn, cEq_tt, cNe_tt, P_sumT, P_lenT, P_listT, if_true, if_false, Bool.false_eq_true, h1]
  refine x_roll a t S hd ht (by omega) _ fun n S1 hn k1 d1 => ?_
  refine ⟨_, rfl, by omega, by omega, rngL 0 n, fun i acc S' => ∃ L : List Int, acc = iv L ∧ L.length = i ∧ (∀ x ∈ L, x.natAbs ≤ 3) ∧ Kp a S S' ∧ Dice a S', by rw [rngL_len]; unfold LIM; omega, fun i acc S' _ => by rw [Int.toNat_natCast]; rfl, ⟨[], rfl, rfl, by simp, k1, d1⟩, ?_, ?_⟩
  · rintro i v acc S2 hv ⟨L, rfl, hL, hb, k2, d2⟩
    unfold lcStp
    simp only [P_seq, P_if, P_ret, P_expr, P_nil, P_asg, P_gNm, P_par, P_aug, P_gSub, P_gsNil, P_gsCons, P_loc, P_eK, P_e1, P_e2, P_eT, P_aNil, P_aCons, P_call, P_tup, P_lst, P_eIf, P_andB, P_orB, P_notB, P_ofO, P_tV, P_tB, P_tAnd, P_tOr, P_tNot, P_tYes, P_tC, P_ch, P_sl, P_oNo, P_oYes, P_mt, P_new, P_stp, Res.P_ok, SR.P_nx, SR.P_ret, P_if_res, P_bad, wip, List.set_cons_succ, List.set_cons_zero, List.getElem?_cons_succ, List.getElem?_cons_zero, List.getElem?_nil, List.length_cons, List.length_nil, P_addI, P_subI, P_augI, P_negI, P_lt, P_le, P_gt, P_ge, P_absI, P_intI, P_intB, cEq_ii, cNe_ii, cEq_bb, cEq_ss, cEq_ts, cEq_tn, cEq_tt, cNe_tt, P_sumT, P_lenT, P_listT, if_true, if_false, Bool.false_eq_true, h2]
    have h3 := h2 (some v)
    simp only [wip] at h3
    simp only [h3]
    refine x_roll a 7 S2 d2 (by omega) (by omega) _ fun m S3 hm k3 d3 => ?_
    try simp only [P_seq, P_if, P_ret, P_expr, P_nil, P_asg, P_gNm, P_par, P_aug, P_gSub, P_gsNil, P_gsCons, P_loc, P_eK, P_e1, P_e2, P_eT, P_aNil, P_aCons, P_call, P_tup, P_lst, P_eIf, P_andB, P_orB, P_notB, P_ofO, P_tV, P_tB, P_tAnd, P_tOr, P_tNot, P_tYes, P_tC, P_ch, P_sl, P_oNo, P_oYes, P_mt, P_new, P_stp, Res.P_ok, SR.P_nx, SR.P_ret, P_if_res, P_bad, wip, List.set_cons_succ, List.set_cons_zero, List.getElem?_cons_succ, List.getElem?_cons_zero, List.getElem?_nil, List.length_cons, List.length_nil, P_addI, P_subI, P_augI, P_negI, P_lt, P_le, P_gt, P_ge, P_absI, P_intI, P_intB, cEq_ii, cNe_ii, cEq_bb, cEq_ss, cEq_ts, cEq_tn, cEq_tt, cNe_tt, P_sumT, P_lenT, P_listT, if_true, if_false, Bool.false_eq_true]
    refine ⟨L ++ [(m : Int) - 3], by simp, by simp [hL], fun x hx => ?_, k2.trans k3, d3⟩
    rcases List.mem_append.1 hx with hx | hx
    · exact hb x hx
    · simp at hx; subst hx; omega
  · rintro acc S2 ⟨L, rfl, hL, hb, k2, d2⟩
    rw [rngL_len] at hL
    have hal : a < S2.length := by obtain ⟨_, _, _, h⟩ := d2; exact get_lt h
    refine h L _ _ (k2.trans ((Ext.app _ _).kp a)) ?_ (by omega) hb (by omega) (app_new _ _)
    obtain ⟨x, y, z, h⟩ := d2
    exact ⟨x, y, z, app_get h⟩
theorem P_addT (xs ys : List AV) (S : Sto) (hl : xs.length + ys.length < 1000000) (Q : AV → Sto → Prop) : (oAdd (.tup xs) (.tup ys) S).P Q = Q (.tup (xs ++ ys)) S := by
  show Res.P (if xs.length + ys.length ≤ sizeLine then _ else _) Q = _
  rw [if_pos (by rw [szl]; omega), Res.P_ok]
def P59 : Int := 10 ^ 59
theorem pow59 (S : Sto) : oPow (.int 10) (.int 59) S = .ok (.int P59) S := rfl
theorem dat_bls (n : Nat) (S : Sto) (a : Nat) (lk : Bool) (bs : List Bool) (h : S[a]? = some (.lst lk (blsI bs))) : AV.dat (n + 2) S (.ref a) = some (.list (bs.map .bool)) := by
  show (match S[a]? with
    | some (.lst _ xs) => (optAll (xs.map (AV.dat (n + 1) S))).map PyData.list
    | _ => none) = _
  rw [h]
  show (optAll ((blsI bs).map (AV.dat (n + 1) S))).map PyData.list = _
  have : (blsI bs).map (AV.dat (n + 1) S) = bs.map fun i => some (PyData.bool i) := by
    unfold blsI
    simp only [List.map_map]
    congr 1
  rw [this, optAll_mapq bs _ PyData.bool fun _ _ => rfl]
  rfl
theorem eqv_bls (bs cs : List Bool) : PyData.eqvAll (bs.map .bool) (cs.map .bool) = decide (bs = cs) := by
  induction bs generalizing cs with
  | nil => cases cs <;> simp [PyData.eqvAll]
  | cons b bs ih =>
    cases cs with
    | nil => simp [PyData.eqvAll]
    | cons c cs =>
      simp only [List.map, PyData.eqvAll, ih]
      have : PyData.eqv (.bool b) (.bool c) = (b == c) := by cases b <;> cases c <;> rfl
      rw [this]
      by_cases h : b = c <;> simp [h]
theorem P_eqB (S : Sto) (a b : Nat) (lk lk' : Bool) (bs : List Bool) (ha : S[a]? = some (.lst lk (blsI bs))) (hb : S[b]? = some (.lst lk' (blsI bs))) (Q : AV → Sto → Prop) : (cEq (.ref a) (.ref b) S).P Q = Q (.bl true) S := by
  refine P_cEq _ _ _ _ ?_ Q
  unfold eqA DEPTH
  rw [dat_bls 10 S a lk bs ha, dat_bls 10 S b lk' bs hb]
  show some (PyData.eqvAll _ _) = _
  rw [eqv_bls]
  simp
theorem la_app (L : List Int) (x : Int) : la (L ++ [x]) = x := by simp [la]
theorem G_val : G = 10 ^ 60 := by decide +kernel
theorem x_judged (a : Nat) (S : Sto) (hd : Dice a S) (Q : AV → Sto → Prop)
    (h : ∀ S', Kp a S S' → Dice a S' → Q (.bl true) S') : (d_q_is_judged [.ref a] S).P Q := by
  refine P_mkF [some (.ref a), none, none, none, none, none] rfl ?_
  rw [P_seq]
  refine SR.P.mono (N := fun r1 S1 => Kp a S S1 ∧ Dice a S1 ∧ ∃ L : List Int, (∀ x ∈ L, x.natAbs ≤ 3) ∧ L.length < 5 ∧ r1 = [some (.ref a), some (.tup (iv L)), none, none, none, none]) (R := fun _ _ => False) ?_ ?_ (fun _ _ h => h.elim)
  · simp only [P_seq, P_if, P_ret, P_expr, P_nil, P_asg, P_gNm, P_par, P_aug, P_gSub, P_gsNil, P_gsCons, P_loc, P_eK, P_e1, P_e2, P_eT, P_aNil, P_aCons, P_call, P_tup, P_lst, P_eIf, P_andB, P_orB, P_notB, P_ofO, P_tV, P_tB, P_tAnd, P_tOr, P_tNot, P_tYes, P_tC, P_ch, P_sl, P_oNo, P_oYes, P_mt, P_new, P_stp, Res.P_ok, SR.P_nx, SR.P_ret, P_if_res, P_bad, wip, List.set_cons_succ, List.set_cons_zero, List.getElem?_cons_succ, List.getElem?_cons_zero, List.getElem?_nil, List.length_cons, List.length_nil, P_addI, P_subI, P_augI, P_negI, P_lt, P_le, P_gt, P_ge, P_absI, P_intI, P_intB, cEq_ii, cNe_ii, cEq_bb, cEq_ss, cEq_ts, cEq_tn, cEq_tt, cNe_tt, P_sumT, P_lenT, P_listT, if_true, if_false, Bool.false_eq_true]
    refine x_row 2 5 a rfl (fun v => rfl) hd (by omega) (by omega) fun L S' b k1 d1 hL hB hb p1 => ?_
    rw [P_tupL _ _ _ _ p1]
    exact ⟨k1, d1, L, hB, hL, rfl⟩
  · rintro r1 S1 ⟨k1, d1, L, hB, hL, rfl⟩
    have hG : (10 : Int) < G := by decide +kernel
    have hLG : ∀ x ∈ L, -G < x ∧ x < G := fun x hx => by
      have := hB x hx
      omega
    have hll : (iv L).length < 5 := by simpa using hL
    have a1 : (iv L).length + (0 + 1) < 1000000 := by omega
    have fin : ∀ (c : Nat) (S2 : Sto), Kp a S S2 → Dice a S2 → c ≠ a → a < c + 1 → S2[c]? = some (.lst false (blsI [decide (L = []) || decide (la L ≠ 0), false, true, false, false, true, false, false, false, false, false, false])) → ∀ p, S2[p]? = some (.lst false [.tup (iv L), .tup (iv L ++ [.int 0]), .tup (iv L ++ [.int 1]), .tup [.int 1, .bl true], .tup [.int P60], .tup [.int P59, .int 1], .ref S1.length, .non, .str "1", .int 3, .tup [.non, .int 1], .tup [.tup [.int 1]]]) → S2[S1.length]? = some (.lst false (iv L)) → p ≠ a → S1.length ≠ a → ((eLc [5] (iSeq (eLoc 3)) (gNm 5) tYes (eCall d_is_polynomial (aCons (eLoc 5) aNil)) [some (AV.ref a), some (AV.tup (iv L)), none, some (AV.ref p), some (.ref c), none] S2).P fun x S1 => (cEq x (.ref c) S1).P Q) := by
      intro c S2 k2 d2 hc _ c2 p p2 l2 hpa hla
      generalize hV : [AV.tup (iv L), .tup (iv L ++ [.int 0]), .tup (iv L ++ [.int 1]), .tup [.int 1, .bl true], .tup [.int P60], .tup [.int P59, .int 1], .ref S1.length, .non, .str "1", .int 3, .tup [.non, .int 1], .tup [.tup [.int 1]]] = V at p2
      generalize hR : [decide (L = []) || decide (la L ≠ 0), false, true, false, false, true, false, false, false, false, false, false] = R at c2
      have hlen : V.length = 12 ∧ R.length = 12 := by rw [← hV, ← hR]; exact ⟨rfl, rfl⟩
      have key : ∀ (i : Nat) (v : AV) (b : Bool), V[i]? = some v → R[i]? = some b → ∀ S3 Q', Ext S2 S3 → (∀ S', Ext S3 S' → Q' (.bl b) S') → (d_is_polynomial [v] S3).P Q' := by
        rw [← hV, ← hR]
        intro i v b hv hb S3 Q' e3 hq
        match i, hv, hb with
        | 0, hv, hb =>
          obtain rfl := Option.some.inj hv
          obtain rfl := Option.some.inj hb
          exact x_poly_iv L S3 hLG (by omega) Q' hq
        | 1, hv, hb =>
          obtain rfl := Option.some.inj hv
          obtain rfl := Option.some.inj hb
          have e : iv L ++ [AV.int 0] = iv (L ++ [0]) := by simp
          rw [e]
          refine x_poly_iv (L ++ [0]) S3 (fun x hx => ?_) (by simp; omega) Q' fun S' e' => ?_
          · rcases List.mem_append.1 hx with hx | hx
            · exact hLG x hx
            · simp at hx; subst hx; omega
          · have : (decide (L ++ [0] = []) || decide (la (L ++ [0]) ≠ 0)) = false := by simp [la_app]
            rw [this]
            exact hq S' e'
        | 2, hv, hb =>
          obtain rfl := Option.some.inj hv
          obtain rfl := Option.some.inj hb
          have e : iv L ++ [AV.int 1] = iv (L ++ [1]) := by simp
          rw [e]
          refine x_poly_iv (L ++ [1]) S3 (fun x hx => ?_) (by simp; omega) Q' fun S' e' => ?_
          · rcases List.mem_append.1 hx with hx | hx
            · exact hLG x hx
            · simp at hx; subst hx; omega
          · have : (decide (L ++ [1] = []) || decide (la (L ++ [1]) ≠ 0)) = true := by simp [la_app]
            rw [this]
            exact hq S' e'
        | 3, hv, hb =>
          obtain rfl := Option.some.inj hv
          obtain rfl := Option.some.inj hb
          exact x_poly_no _ S3 (by simp [flat]) (by simp) (by simp [isG]) Q' hq
        | 4, hv, hb =>
          obtain rfl := Option.some.inj hv
          obtain rfl := Option.some.inj hb
          exact x_poly_no _ S3 (by simp [flat]) (by simp) (by decide +kernel) Q' hq
        | 5, hv, hb =>
          obtain rfl := Option.some.inj hv
          obtain rfl := Option.some.inj hb
          refine x_poly_iv [P59, 1] S3 (by decide +kernel) (by simp) Q' fun S' e' => ?_
          have : (decide ([P59, 1] = []) || decide (la [P59, 1] ≠ 0)) = true := by simp [la]
          rw [this]
          exact hq S' e'
        | 6, hv, hb =>
          obtain rfl := Option.some.inj hv
          obtain rfl := Option.some.inj hb
          have : tyN S3 (.ref S1.length) = some "list" := by
            unfold tyN
            simp only [e3 _ _ l2]
          exact x_poly_nt _ S3 (by rw [this]; simp [subT]) Q' (hq S3 (Ext.refl _))
        | 7, hv, hb =>
          obtain rfl := Option.some.inj hv
          obtain rfl := Option.some.inj hb
          exact x_poly_nt _ S3 (by simp [tyN, subT]) Q' (hq S3 (Ext.refl _))
        | 8, hv, hb =>
          obtain rfl := Option.some.inj hv
          obtain rfl := Option.some.inj hb
          exact x_poly_nt _ S3 (by simp [tyN, subT]) Q' (hq S3 (Ext.refl _))
        | 9, hv, hb =>
          obtain rfl := Option.some.inj hv
          obtain rfl := Option.some.inj hb
          exact x_poly_nt _ S3 (by simp [tyN, subT]) Q' (hq S3 (Ext.refl _))
        | 10, hv, hb =>
          obtain rfl := Option.some.inj hv
          obtain rfl := Option.some.inj hb
          exact x_poly_no _ S3 (by simp [flat]) (by simp) (by simp [isG]) Q' hq
        | 11, hv, hb =>
          obtain rfl := Option.some.inj hv
          obtain rfl := Option.some.inj hb
          exact x_poly_no _ S3 (by simp [flat]) (by simp) (by simp [isG]) Q' hq
        | i + 12, hv, _ => simp at hv
      clear hV hR
      refine P_lc V (fun i acc S' => acc = blsI (R.take i) ∧ Ext S2 S') (by rw [hlen.1]; unfold LIM; omega) ?_ ?_ ?_
      · refine P_seqL _ _ _ _ ?_
        simp only [P_seq, P_if, P_ret, P_expr, P_nil, P_asg, P_gNm, P_par, P_aug, P_gSub, P_gsNil, P_gsCons, P_loc, P_eK, P_e1, P_e2, P_eT, P_aNil, P_aCons, P_call, P_tup, P_lst, P_eIf, P_andB, P_orB, P_notB, P_ofO, P_tV, P_tB, P_tAnd, P_tOr, P_tNot, P_tYes, P_tC, P_ch, P_sl, P_oNo, P_oYes, P_mt, P_new, P_stp, Res.P_ok, SR.P_nx, SR.P_ret, P_if_res, P_bad, wip, List.set_cons_succ, List.set_cons_zero, List.getElem?_cons_succ, List.getElem?_cons_zero, List.getElem?_nil, List.length_cons, List.length_nil, P_addI, P_subI, P_augI, P_negI, P_lt, P_le, P_gt, P_ge, P_absI, P_intI, P_intB, cEq_ii, cNe_ii, cEq_bb, cEq_ss, cEq_ts, cEq_tn, cEq_tt, cNe_tt, P_sumT, P_lenT, P_listT, if_true, if_false, Bool.false_eq_true]
        refine ⟨p, false, V, rfl, p2, ?_, rfl, Ext.refl _⟩
        rintro i acc S' ⟨_, e⟩
        exact uLive_get (e _ _ p2) i
      · rintro i v acc S3 hv ⟨rfl, e3⟩
        unfold lcStp
        simp only [P_seq, P_if, P_ret, P_expr, P_nil, P_asg, P_gNm, P_par, P_aug, P_gSub, P_gsNil, P_gsCons, P_loc, P_eK, P_e1, P_e2, P_eT, P_aNil, P_aCons, P_call, P_tup, P_lst, P_eIf, P_andB, P_orB, P_notB, P_ofO, P_tV, P_tB, P_tAnd, P_tOr, P_tNot, P_tYes, P_tC, P_ch, P_sl, P_oNo, P_oYes, P_mt, P_new, P_stp, Res.P_ok, SR.P_nx, SR.P_ret, P_if_res, P_bad, wip, List.set_cons_succ, List.set_cons_zero, List.getElem?_cons_succ, List.getElem?_cons_zero, List.getElem?_nil, List.length_cons, List.length_nil, P_addI, P_subI, P_augI, P_negI, P_lt, P_le, P_gt, P_ge, P_absI, P_intI, P_intB, cEq_ii, cNe_ii, cEq_bb, cEq_ss, cEq_ts, cEq_tn, cEq_tt, cNe_tt, P_sumT, P_lenT, P_listT, if_true, if_false, Bool.false_eq_true]
        have hi : i < 12 := by have := (List.getElem?_eq_some_iff.1 hv).1; omega
        obtain ⟨b, hb⟩ : ∃ b, R[i]? = some b := ⟨R[i]'(by omega), List.getElem?_eq_getElem (by omega)⟩
        refine key i v b hv hb S3 _ e3 fun S' e' => ⟨?_, e3.trans e'⟩
        rw [List.take_add_one, hb]
        simp [blsI]
      · rintro acc S3 ⟨rfl, e3⟩
        rw [hlen.1, ← hlen.2, List.take_length]
        rw [P_eqB _ S3.length c false false R (app_new _ _) (app_get (e3 _ _ c2))]
        have e4 := e3.trans (Ext.app S3 [.lst false (blsI R)])
        refine h _ (k2.trans (e4.kp a)) ?_
        obtain ⟨x, y, z, h⟩ := d2
        exact ⟨x, y, z, e4 _ _ h⟩
    simp only [P_seq, P_if, P_ret, P_expr, P_nil, P_asg, P_gNm, P_par, P_aug, P_gSub, P_gsNil, P_gsCons, P_loc, P_eK, P_e1, P_e2, P_eT, P_aNil, P_aCons, P_call, P_tup, P_lst, P_eIf, P_andB, P_orB, P_notB, P_ofO, P_tV, P_tB, P_tAnd, P_tOr, P_tNot, P_tYes, P_tC, P_ch, P_sl, P_oNo, P_oYes, P_mt, P_new, P_stp, Res.P_ok, SR.P_nx, SR.P_ret, P_if_res, P_bad, wip, List.set_cons_succ, List.set_cons_zero, List.getElem?_cons_succ, List.getElem?_cons_zero, List.getElem?_nil, List.length_cons, List.length_nil, P_addI, P_subI, P_augI, P_negI, P_lt, P_le, P_gt, P_ge, P_absI, P_intI, P_intB, cEq_ii, cNe_ii, cEq_bb, cEq_ss, cEq_ts, cEq_tn, cEq_tt, cNe_tt, P_sumT, P_lenT, P_listT, if_true, if_false, Bool.false_eq_true, szl, Nat.reduceAdd, Nat.reduceLeDiff, pow60, pow59]
    rw [P_addT _ _ _ (by simp; omega)]
    rw [P_addT _ _ _ (by simp; omega)]
    have hla : S1.length ≠ a := by obtain ⟨_, _, _, h⟩ := d1; have := get_lt h; omega
    have hal : a < S1.length := by obtain ⟨_, _, _, h⟩ := d1; exact get_lt h
    have due : ∀ (q : Bool) (S2 : Sto) (K : AV → Sto → Prop), (∀ c S4, Ext S2 S4 → S2.length ≤ c → S4[c]? = some (.lst false (blsI [q, false, true, false, false, true, false, false, false, false, false, false])) → K (.ref c) S4) → (oMul (.ref (S2 ++ [AO.lst false [.bl q, .bl false, .bl true, .bl false, .bl false, .bl true]]).length) (.int 6) (S2 ++ [AO.lst false [.bl q, .bl false, .bl true, .bl false, .bl false, .bl true]] ++ [.lst false [.bl false]])).P fun y S3 => (oAdd (.ref S2.length) y S3).P K := by
      intro q S2 K hK
      have e6 : (6 : Int) = ((6 : Nat) : Int) := rfl
      rw [e6, P_mulL _ [.bl false] 6 _ (app_new _ _) (by simp) (by omega)]
      rw [P_addL S2.length _ [.bl q, .bl false, .bl true, .bl false, .bl false, .bl true] _ _ (app_get (app_get (app_new _ _))) (app_new _ _) (by simp)]
      refine hK _ _ (((Ext.app _ _).trans (Ext.app _ _)).trans ((Ext.app _ _).trans (Ext.app _ _))) (by simp <;> omega) (app_new _ _)
    have p3 := app_new (S1 ++ [AO.lst false (iv L)]) (.lst false [.tup (iv L), .tup (iv L ++ [.int 0]), .tup (iv L ++ [.int 1]), .tup [.int 1, .bl true], .tup [.int P60], .tup [.int P59, .int 1], .ref S1.length, .non, .str "1", .int 3, .tup [.non, .int 1], .tup [.tup [.int 1]]])
    have l3 := app_get (T := [.lst false [AV.tup (iv L), .tup (iv L ++ [.int 0]), .tup (iv L ++ [.int 1]), .tup [.int 1, .bl true], .tup [.int P60], .tup [.int P59, .int 1], .ref S1.length, .non, .str "1", .int 3, .tup [.non, .int 1], .tup [.tup [.int 1]]]]) (app_new S1 (.lst false (iv L)))
    have e3 : Ext S1 (S1 ++ [AO.lst false (iv L)] ++ [.lst false [AV.tup (iv L), .tup (iv L ++ [.int 0]), .tup (iv L ++ [.int 1]), .tup [.int 1, .bl true], .tup [.int P60], .tup [.int P59, .int 1], .ref S1.length, .non, .str "1", .int 3, .tup [.non, .int 1], .tup [.tup [.int 1]]]]) := (Ext.app _ _).trans (Ext.app _ _)
    have g3 := e3.len
    have hp3 : (S1 ++ [AO.lst false (iv L)]).length ≠ a := by simp; omega
    generalize S1 ++ [AO.lst false (iv L)] ++ [.lst false [AV.tup (iv L), .tup (iv L ++ [.int 0]), .tup (iv L ++ [.int 1]), .tup [.int 1, .bl true], .tup [.int P60], .tup [.int P59, .int 1], .ref S1.length, .non, .str "1", .int 3, .tup [.non, .int 1], .tup [.tup [.int 1]]]] = S3 at p3 l3 e3 g3
    generalize (S1 ++ [AO.lst false (iv L)]).length = p at p3 hp3
    have go : ∀ q, q = (decide (L = []) || decide (la L ≠ 0)) → (oMul (.ref (S3 ++ [AO.lst false [.bl q, .bl false, .bl true, .bl false, .bl false, .bl true]]).length) (.int 6) (S3 ++ [AO.lst false [.bl q, .bl false, .bl true, .bl false, .bl false, .bl true]] ++ [.lst false [.bl false]])).P fun y S2 => (oAdd (.ref S3.length) y S2).P fun v S1 => (eLc [5] (iSeq (eLoc 3)) (gNm 5) tYes (eCall d_is_polynomial (aCons (eLoc 5) aNil)) [some (AV.ref a), some (AV.tup (iv L)), none, some (AV.ref p), some v, none] S1).P fun x S1 => (cEq x v S1).P Q := by
      intro q hq
      refine due q S3 _ fun c S4 e4 hc c4 => ?_
      rw [hq] at c4
      have e14 := e3.trans e4
      refine fin c S4 (k1.trans (e14.kp a)) ?_ (by omega) (by omega) c4 p (e4 _ _ p3) (e4 _ _ l3) hp3 hla
      obtain ⟨x, y, z, h⟩ := d1
      exact ⟨x, y, z, e14 _ _ h⟩
    by_cases hz : L = []
    · have c1 : decide (L = []) = true := decide_eq_true hz
      rw [if_pos c1]
      exact go true (by simp [hz])
    · have c1 : ¬ decide (L = []) = true := by simp [hz]
      rw [if_neg c1]
      have h3 : oIx (.tup (iv L)) (.int (-1)) S3 = .ok (.int (la L)) S3 := by
        show ofO _ (L2.atI (iv L) (-1)) = _
        rw [atI_last _ (by simpa using hz), List.getLast?_map]
        cases hq : L.getLast? with
        | none => exact absurd (List.getLast?_eq_none_iff.1 hq) hz
        | some z => simp [la, hq]
      rw [h3]
      try simp only [P_seq, P_if, P_ret, P_expr, P_nil, P_asg, P_gNm, P_par, P_aug, P_gSub, P_gsNil, P_gsCons, P_loc, P_eK, P_e1, P_e2, P_eT, P_aNil, P_aCons, P_call, P_tup, P_lst, P_eIf, P_andB, P_orB, P_notB, P_ofO, P_tV, P_tB, P_tAnd, P_tOr, P_tNot, P_tYes, P_tC, P_ch, P_sl, P_oNo, P_oYes, P_mt, P_new, P_stp, Res.P_ok, SR.P_nx, SR.P_ret, P_if_res, P_bad, wip, List.set_cons_succ, List.set_cons_zero, List.getElem?_cons_succ, List.getElem?_cons_zero, List.getElem?_nil, List.length_cons, List.length_nil, P_addI, P_subI, P_augI, P_negI, P_lt, P_le, P_gt, P_ge, P_absI, P_intI, P_intB, cEq_ii, cNe_ii, cEq_bb, cEq_ss, cEq_ts, cEq_tn, cEq_tt, cNe_tt, P_sumT, P_lenT, P_listT, if_true, if_false, Bool.false_eq_true]
      refine go _ ?_
      by_cases hl : la L = 0 <;> simp [hl, hz]
end Mc.Lk83
end
section
set_option Elab.async false
set_option linter.all false
set_option maxRecDepth 100000
/-! K83_k: whether drawn tables and rows are told rightly -/
namespace Mc.Lk83
open PySem Mc.Py
theorem WH_core {k : KV} (hW : WH k) : ∀ d, 1 ≤ d → d < 15 → 0 ≤ E d k := fun d h _ => hW d h
/-- what `core` says of the told product -/
theorem core_k (k : KV) (hk : ∀ p ∈ k, 1 ≤ p.1 ∧ p.1 < 15) (hW : WH k) : 0 ≤ degK k ∧ ∃ (L : List Int) (e : Nat) (v : Int), L = (tabI (1 + degK k).toNat fun i => sgK k * facs k one i) ∧ (e : Int) = totK k ∧ Ends L (e : Nat) v ∧ la L = 1 ∧ L.length = (1 + degK k).toNat ∧ ∀ x ∈ L, x.natAbs ≤ 2 ^ (degK k).toNat := by
  have h0 := deg_nn k hk (WH_core hW)
  refine ⟨h0, ?_⟩
  obtain ⟨L, e, v, h1, h2, h3, h4, h5, h6⟩ := core k hk (WH_core hW) (1 + degK k).toNat (by omega) (facs k one) (by rw [facs_rel k (fun p hp => (hk p hp).1)]; exact EqT.refl _ _)
  refine ⟨L, e, v, ?_, h1, h2, h3, h4, ?_⟩
  · rw [tabI_of L, h4]
    exact tabI_congr _ _ _ fun i hi => (h5 i hi).symm
  · have : (1 + degK k).toNat - 1 = (degK k).toNat := by omega
    rw [this] at h6
    exact h6
theorem ix_last (L : List Int) (S : Sto) (h : L ≠ []) : oIx (.tup (iv L)) (.int (-1)) S = .ok (.int (la L)) S := by
  show ofO _ (L2.atI (iv L) (-1)) = _
  rw [atI_last _ (by simpa using h), List.getLast?_map]
  cases hq : L.getLast? with
  | none => exact absurd (List.getLast?_eq_none_iff.1 hq) h
  | some z => simp [la, hq]
theorem P_listV {S : Sto} {r : Env} {d : Nat} {k : KV} {o : DE} (ho : o r S = .ok (.ref d) S) (hS : S[d]? = some (.dct false (kvA k))) (Q : AV → Sto → Prop) : (eListV o r S).P Q = Q (.ref S.length) (S ++ [.lst false (iv (k.map (·.2)))]) := by
  unfold eListV
  rw [ho, Res.bind_ok]
  simp only [hS]
  have e : ((kvA k).all fun p => !isTK p.1) = true := List.all_eq_true.2 fun q hq => by rw [kvA_tk k q hq]; rfl
  have e2 : (kvA k).map (·.2) = iv (k.map (·.2)) := by simp [kvA]
  rw [if_pos e, e2, P_new]
theorem pow_G (n : Nat) (h : n ≤ 112) : ((2 ^ n : Nat) : Int) < G := by
  have h1 : 2 ^ n ≤ 2 ^ 112 := Nat.pow_le_pow_right (by omega) h
  have h2 : ((2 ^ 112 : Nat) : Int) < G := by decide +kernel
  omega
theorem Dice.ext {a : Nat} {S S' : Sto} (d : Dice a S) (e : Ext S S') : Dice a S' := by
  obtain ⟨x, y, z, h⟩ := d
  exact ⟨x, y, z, e _ _ h⟩
/-- one turn: a drawn table -/
theorem x_turn (a d : Nat) (k : KV) (S : Sto) (hb : Bd k) (hnd : Nd k) (hk : ∀ p ∈ k, 1 ≤ p.1 ∧ p.1 < 15) (hdg : degK k ≤ 112) (hS : S[d]? = some (.dct false (kvA k))) (o1 o3 o4 o5 o6 : Option AV) (N : Env → Sto → Prop) (R : AV → Sto → Prop)
    (h : ∀ o3 o4 S', Ext S S' → N [some (.ref a), o1, some (.ref d), o3, o4, o5, o6] S') :
    ((sSeq (sPar 3 4 (aCons (eCall d_q_told (aCons (eLoc 2) (aNil))) (aCons (eCall d_q_is_whole_table (aCons (eLoc 2) (aNil))) (aNil)))) (sSeq (sIf (Mc.tC cEq (e2 cEq (eLoc 3) (eK (.str "none"))) (eLoc 4)) (sRet (eK (.bl false))) (sNil)) (sIf (tV (eLoc 4)) (sSeq (sIf (Mc.tOr (Mc.tC cNe (eLoc 3) (eCall d_q_factored (aCons (eLoc 2) (aNil)))) (Mc.tC cNe (e2 oIx (eLoc 3) (e1 oNeg (eK (.int 1)))) (eK (.int 1)))) (sRet (eK (.bl false))) (sNil)) (sSeq (sIf (Mc.tC cNe (e2 oSub (eCall pLen (aCons (eLoc 3) (aNil))) (eK (.int 1))) (eCall pSum (aCons (lkE (eLoc 2) (eLc [5] (iDct true uKeys (eLoc 2)) (gNm 5) (Mc.tYes) (e2 oMul (eLoc 5) (e2 oIx (eLoc 2) (eLoc 5))))) (aNil)))) (sRet (eK (.bl false))) (sNil)) (sIf (Mc.tOr (Mc.tC cNe (eCall d_at_one (aCons (eLoc 3) (aNil))) (eCall d_q_parted_at_one (aCons (eLoc 3) (aNil)))) (Mc.tC cNe (e2 oIx (eCall d_at_one (aCons (eLoc 3) (aNil))) (eK (.int 0))) (eCall pSum (aCons (eListV (eLoc 2)) (aNil))))) (sRet (eK (.bl false))) (sNil)))) (sNil)))) [some (.ref a), o1, some (.ref d), o3, o4, o5, o6] S).P N R := by
  simp only [P_seq, P_if, P_ret, P_expr, P_nil, P_asg, P_gNm, P_par, P_aug, P_gSub, P_gsNil, P_gsCons, P_loc, P_eK, P_e1, P_e2, P_eT, P_aNil, P_aCons, P_call, P_tup, P_lst, P_eIf, P_andB, P_orB, P_notB, P_ofO, P_tV, P_tB, P_tAnd, P_tOr, P_tNot, P_tYes, P_tC, P_ch, P_sl, P_oNo, P_oYes, P_mt, P_new, P_stp, Res.P_ok, SR.P_nx, SR.P_ret, P_if_res, P_bad, wip, List.set_cons_succ, List.set_cons_zero, List.getElem?_cons_succ, List.getElem?_cons_zero, List.getElem?_nil, List.length_cons, List.length_nil, P_addI, P_subI, P_augI, P_negI, P_lt, P_le, P_gt, P_ge, P_absI, P_intI, P_intB, cEq_ii, cNe_ii, cEq_bb, cEq_ss, cEq_ts, cEq_tn, cEq_tt, cNe_tt, P_sumT, P_lenT, P_listT, if_true, if_false, Bool.false_eq_true]
  refine x_told k d S hb hS (fun hW _ => ?_) _ (fun hW S1 e1 => ?_) (fun hW hD => by omega) (fun hW _ S1 e1 => ?_)
  · obtain ⟨h0, L, e, v, hL, _, _, h1, _⟩ := core_k k hk hW
    refine ⟨h0, ?_⟩
    rw [← hL, h1]
    decide
  · refine x_qwhole k d S1 hb hnd (e1 _ _ hS) _ fun b S2 e2 hw => ?_
    have hb : b = false := by cases b with
      | false => rfl
      | true => exact absurd (hw.1 rfl) hW
    subst hb
    have c1 : (("none" : Str) == ("none" : Str)) = true := by decide
    simp only [P_seq, P_if, P_ret, P_expr, P_nil, P_asg, P_gNm, P_par, P_aug, P_gSub, P_gsNil, P_gsCons, P_loc, P_eK, P_e1, P_e2, P_eT, P_aNil, P_aCons, P_call, P_tup, P_lst, P_eIf, P_andB, P_orB, P_notB, P_ofO, P_tV, P_tB, P_tAnd, P_tOr, P_tNot, P_tYes, P_tC, P_ch, P_sl, P_oNo, P_oYes, P_mt, P_new, P_stp, Res.P_ok, SR.P_nx, SR.P_ret, P_if_res, P_bad, wip, List.set_cons_succ, List.set_cons_zero, List.getElem?_cons_succ, List.getElem?_cons_zero, List.getElem?_nil, List.length_cons, List.length_nil, P_addI, P_subI, P_augI, P_negI, P_lt, P_le, P_gt, P_ge, P_absI, P_intI, P_intB, cEq_ii, cNe_ii, cEq_bb, cEq_ss, cEq_ts, cEq_tn, cEq_tt, cNe_tt, P_sumT, P_lenT, P_listT, if_true, if_false, Bool.false_eq_true, c1]
    have c2 : (true == false) = false := rfl
    have c3 : truA S2 (.bl false) = some false := rfl
    simp only [P_seq, P_if, P_ret, P_expr, P_nil, P_asg, P_gNm, P_par, P_aug, P_gSub, P_gsNil, P_gsCons, P_loc, P_eK, P_e1, P_e2, P_eT, P_aNil, P_aCons, P_call, P_tup, P_lst, P_eIf, P_andB, P_orB, P_notB, P_ofO, P_tV, P_tB, P_tAnd, P_tOr, P_tNot, P_tYes, P_tC, P_ch, P_sl, P_oNo, P_oYes, P_mt, P_new, P_stp, Res.P_ok, SR.P_nx, SR.P_ret, P_if_res, P_bad, wip, List.set_cons_succ, List.set_cons_zero, List.getElem?_cons_succ, List.getElem?_cons_zero, List.getElem?_nil, List.length_cons, List.length_nil, P_addI, P_subI, P_augI, P_negI, P_lt, P_le, P_gt, P_ge, P_absI, P_intI, P_intB, cEq_ii, cNe_ii, cEq_bb, cEq_ss, cEq_ts, cEq_tn, cEq_tt, cNe_tt, P_sumT, P_lenT, P_listT, if_true, if_false, Bool.false_eq_true, c2, c3]
    exact h _ _ S2 (e1.trans e2)
  · refine x_qwhole k d S1 hb hnd (e1 _ _ hS) _ fun b S2 e2 hw => ?_
    have hb1 : b = true := hw.2 hW
    subst hb1
    obtain ⟨h0, L, e, v, hL, he, hE, h1, hlen, hbd⟩ := core_k k hk hW
    have hT : (tab (1 + degK k).toNat fun i => sgK k * facs k one i) = iv L := congrArg iv hL.symm
    rw [hT]
    have hne : L ≠ [] := by intro e; rw [e] at h1; exact absurd h1 (by decide)
    have hl0 : la L ≠ 0 := by rw [h1]; decide
    have hLG : ∀ x ∈ L, -G < x ∧ x < G := fun x hx => by
      have := hbd x hx
      have := pow_G (degK k).toNat (by omega)
      omega
    have hll : L.length < 10000 := by omega
    have c2 : (false == true) = false := rfl
    have c3 : ∀ S, truA S (.bl true) = some true := fun _ => rfl
    simp only [P_seq, P_if, P_ret, P_expr, P_nil, P_asg, P_gNm, P_par, P_aug, P_gSub, P_gsNil, P_gsCons, P_loc, P_eK, P_e1, P_e2, P_eT, P_aNil, P_aCons, P_call, P_tup, P_lst, P_eIf, P_andB, P_orB, P_notB, P_ofO, P_tV, P_tB, P_tAnd, P_tOr, P_tNot, P_tYes, P_tC, P_ch, P_sl, P_oNo, P_oYes, P_mt, P_new, P_stp, Res.P_ok, SR.P_nx, SR.P_ret, P_if_res, P_bad, wip, List.set_cons_succ, List.set_cons_zero, List.getElem?_cons_succ, List.getElem?_cons_zero, List.getElem?_nil, List.length_cons, List.length_nil, P_addI, P_subI, P_augI, P_negI, P_lt, P_le, P_gt, P_ge, P_absI, P_intI, P_intB, cEq_ii, cNe_ii, cEq_bb, cEq_ss, cEq_ts, cEq_tn, cEq_tt, cNe_tt, P_sumT, P_lenT, P_listT, if_true, if_false, Bool.false_eq_true, c2, c3]
    have e12 := e1.trans e2
    refine x_factored k d (1 + degK k).toNat S2 hb hnd (e12 _ _ hS) (by omega) (by omega) (by omega) _ fun S3 e3 => ?_
    rw [hT]
    have c4 : (!decide (L = L)) = false := by simp
    have c5 : (!((1 : Int) == 1)) = false := by decide
    simp only [P_seq, P_if, P_ret, P_expr, P_nil, P_asg, P_gNm, P_par, P_aug, P_gSub, P_gsNil, P_gsCons, P_loc, P_eK, P_e1, P_e2, P_eT, P_aNil, P_aCons, P_call, P_tup, P_lst, P_eIf, P_andB, P_orB, P_notB, P_ofO, P_tV, P_tB, P_tAnd, P_tOr, P_tNot, P_tYes, P_tC, P_ch, P_sl, P_oNo, P_oYes, P_mt, P_new, P_stp, Res.P_ok, SR.P_nx, SR.P_ret, P_if_res, P_bad, wip, List.set_cons_succ, List.set_cons_zero, List.getElem?_cons_succ, List.getElem?_cons_zero, List.getElem?_nil, List.length_cons, List.length_nil, P_addI, P_subI, P_augI, P_negI, P_lt, P_le, P_gt, P_ge, P_absI, P_intI, P_intB, cEq_ii, cNe_ii, cEq_bb, cEq_ss, cEq_ts, cEq_tn, cEq_tt, cNe_tt, P_sumT, P_lenT, P_listT, if_true, if_false, Bool.false_eq_true, c4, ix_last L S3 hne, h1, c5]
    have e13 := e12.trans e3
    refine x_sumK (fun p => (p.1 : Int) * p.2) hb hnd (e13 _ _ hS) 5 (fun _ => rfl) (fun _ => rfl) ?_ ?_
    · intro p hp
      simp only [P_seq, P_if, P_ret, P_expr, P_nil, P_asg, P_gNm, P_par, P_aug, P_gSub, P_gsNil, P_gsCons, P_loc, P_eK, P_e1, P_e2, P_eT, P_aNil, P_aCons, P_call, P_tup, P_lst, P_eIf, P_andB, P_orB, P_notB, P_ofO, P_tV, P_tB, P_tAnd, P_tOr, P_tNot, P_tYes, P_tC, P_ch, P_sl, P_oNo, P_oYes, P_mt, P_new, P_stp, Res.P_ok, SR.P_nx, SR.P_ret, P_if_res, P_bad, wip, List.set_cons_succ, List.set_cons_zero, List.getElem?_cons_succ, List.getElem?_cons_zero, List.getElem?_nil, List.length_cons, List.length_nil, P_addI, P_subI, P_augI, P_negI, P_lt, P_le, P_gt, P_ge, P_absI, P_intI, P_intB, cEq_ii, cNe_ii, cEq_bb, cEq_ss, cEq_ts, cEq_tn, cEq_tt, cNe_tt, P_sumT, P_lenT, P_listT, if_true, if_false, Bool.false_eq_true, ix_kv k hnd p hp d true _ (set_get _ _ _ (get_lt (e13 _ _ hS)))]
      rw [P_mulS _ _ _ _ (.inl (sm_of (by omega) (by have := hb.1 p hp; omega)))]
      exact ⟨by trivial, by trivial⟩
    · intro S4 e4 f4
      rw [P_sumL _ _ _ _ f4]
      have c6 : (!(((iv L).length : Int) - 1 == (k.map fun p => (p.1 : Int) * p.2).sum)) = false := by
        have : ((iv L).length : Int) - 1 = (k.map fun p => (p.1 : Int) * p.2).sum := by
          show ((iv L).length : Int) - 1 = degK k
          have : (iv L).length = L.length := by simp
          omega
        rw [this]
        simp
      simp only [P_seq, P_if, P_ret, P_expr, P_nil, P_asg, P_gNm, P_par, P_aug, P_gSub, P_gsNil, P_gsCons, P_loc, P_eK, P_e1, P_e2, P_eT, P_aNil, P_aCons, P_call, P_tup, P_lst, P_eIf, P_andB, P_orB, P_notB, P_ofO, P_tV, P_tB, P_tAnd, P_tOr, P_tNot, P_tYes, P_tC, P_ch, P_sl, P_oNo, P_oYes, P_mt, P_new, P_stp, Res.P_ok, SR.P_nx, SR.P_ret, P_if_res, P_bad, wip, List.set_cons_succ, List.set_cons_zero, List.getElem?_cons_succ, List.getElem?_cons_zero, List.getElem?_nil, List.length_cons, List.length_nil, P_addI, P_subI, P_augI, P_negI, P_lt, P_le, P_gt, P_ge, P_absI, P_intI, P_intB, cEq_ii, cNe_ii, cEq_bb, cEq_ss, cEq_ts, cEq_tn, cEq_tt, cNe_tt, P_sumT, P_lenT, P_listT, if_true, if_false, Bool.false_eq_true, c6]
      have e14 := e13.trans e4
      refine x_at_one L e v S4 hE hl0 hLG hll _ fun S5 e5 => ?_
      refine x_parted L e v S5 hE hl0 hll _ fun S6 e6 => ?_
      have c7 : (!decide ([(e : Int), v] = [(e : Int), v])) = false := by simp
      simp only [P_seq, P_if, P_ret, P_expr, P_nil, P_asg, P_gNm, P_par, P_aug, P_gSub, P_gsNil, P_gsCons, P_loc, P_eK, P_e1, P_e2, P_eT, P_aNil, P_aCons, P_call, P_tup, P_lst, P_eIf, P_andB, P_orB, P_notB, P_ofO, P_tV, P_tB, P_tAnd, P_tOr, P_tNot, P_tYes, P_tC, P_ch, P_sl, P_oNo, P_oYes, P_mt, P_new, P_stp, Res.P_ok, SR.P_nx, SR.P_ret, P_if_res, P_bad, wip, List.set_cons_succ, List.set_cons_zero, List.getElem?_cons_succ, List.getElem?_cons_zero, List.getElem?_nil, List.length_cons, List.length_nil, P_addI, P_subI, P_augI, P_negI, P_lt, P_le, P_gt, P_ge, P_absI, P_intI, P_intB, cEq_ii, cNe_ii, cEq_bb, cEq_ss, cEq_ts, cEq_tn, cEq_tt, cNe_tt, P_sumT, P_lenT, P_listT, if_true, if_false, Bool.false_eq_true, c7]
      refine x_at_one L e v S6 hE hl0 hLG hll _ fun S7 e7 => ?_
      have e17 := e14.trans (e5.trans (e6.trans e7))
      have c8 : oIx (.tup (iv [(e : Int), v])) (.int 0) S7 = .ok (.int (e : Int)) S7 := rfl
      simp only [P_seq, P_if, P_ret, P_expr, P_nil, P_asg, P_gNm, P_par, P_aug, P_gSub, P_gsNil, P_gsCons, P_loc, P_eK, P_e1, P_e2, P_eT, P_aNil, P_aCons, P_call, P_tup, P_lst, P_eIf, P_andB, P_orB, P_notB, P_ofO, P_tV, P_tB, P_tAnd, P_tOr, P_tNot, P_tYes, P_tC, P_ch, P_sl, P_oNo, P_oYes, P_mt, P_new, P_stp, Res.P_ok, SR.P_nx, SR.P_ret, P_if_res, P_bad, wip, List.set_cons_succ, List.set_cons_zero, List.getElem?_cons_succ, List.getElem?_cons_zero, List.getElem?_nil, List.length_cons, List.length_nil, P_addI, P_subI, P_augI, P_negI, P_lt, P_le, P_gt, P_ge, P_absI, P_intI, P_intB, cEq_ii, cNe_ii, cEq_bb, cEq_ss, cEq_ts, cEq_tn, cEq_tt, cNe_tt, P_sumT, P_lenT, P_listT, if_true, if_false, Bool.false_eq_true, c8]
      rw [P_listV rfl (e17 _ _ hS), P_sumL _ _ _ _ (app_new _ _)]
      have c9 : (!((e : Int) == (k.map (·.2)).sum)) = false := by
        have : (e : Int) = (k.map (·.2)).sum := he
        rw [this]
        simp
      simp only [P_seq, P_if, P_ret, P_expr, P_nil, P_asg, P_gNm, P_par, P_aug, P_gSub, P_gsNil, P_gsCons, P_loc, P_eK, P_e1, P_e2, P_eT, P_aNil, P_aCons, P_call, P_tup, P_lst, P_eIf, P_andB, P_orB, P_notB, P_ofO, P_tV, P_tB, P_tAnd, P_tOr, P_tNot, P_tYes, P_tC, P_ch, P_sl, P_oNo, P_oYes, P_mt, P_new, P_stp, Res.P_ok, SR.P_nx, SR.P_ret, P_if_res, P_bad, wip, List.set_cons_succ, List.set_cons_zero, List.getElem?_cons_succ, List.getElem?_cons_zero, List.getElem?_nil, List.length_cons, List.length_nil, P_addI, P_subI, P_augI, P_negI, P_lt, P_le, P_gt, P_ge, P_absI, P_intI, P_intB, cEq_ii, cNe_ii, cEq_bb, cEq_ss, cEq_ts, cEq_tn, cEq_tt, cNe_tt, P_sumT, P_lenT, P_listT, if_true, if_false, Bool.false_eq_true, c9]
      exact h _ _ _ (e17.trans (Ext.app _ _))
end Mc.Lk83
end
section
set_option Elab.async false
set_option linter.all false
set_option maxRecDepth 100000
/-! K83_l: the law -/
namespace Mc.Lk83
open PySem Mc.Py
theorem x_right (a : Nat) (S : Sto) (hd : Dice a S) (Q : AV → Sto → Prop) (h : ∀ S', Kp a S S' → Dice a S' → Q (.bl true) S') : (d_q_right [.ref a] S).P Q := by
  refine P_mkF [some (.ref a), none, none, none, none, none, none] rfl ?_
  rw [P_seq]
  refine SR.P.mono (N := fun r1 S1 => Kp a S S1 ∧ Dice a S1 ∧ ∃ o1 o2 o3 o4 o5 o6, r1 = [some (.ref a), o1, o2, o3, o4, o5, o6]) (R := fun _ _ => False) ?_ ?_ (fun _ _ h => h.elim)
  · refine P_for (rngL 0 3) (fun i r S' => Kp a S S' ∧ Dice a S' ∧ ∃ o1 o2 o3 o4 o5 o6, r = [some (.ref a), o1, o2, o3, o4, o5, o6]) (by rw [rngL_len]; unfold LIM; omega) ?_ ?_ ?_
    · refine P_rng1 _ _ _ _ ?_
      simp only [P_seq, P_if, P_ret, P_expr, P_nil, P_asg, P_gNm, P_par, P_aug, P_gSub, P_gsNil, P_gsCons, P_loc, P_eK, P_e1, P_e2, P_eT, P_aNil, P_aCons, P_call, P_tup, P_lst, P_eIf, P_andB, P_orB, P_notB, P_ofO, P_tV, P_tB, P_tAnd, P_tOr, P_tNot, P_tYes, P_tC, P_ch, P_sl, P_oNo, P_oYes, P_mt, P_new, P_stp, Res.P_ok, SR.P_nx, SR.P_ret, P_if_res, P_bad, wip, List.set_cons_succ, List.set_cons_zero, List.getElem?_cons_succ, List.getElem?_cons_zero, List.getElem?_nil, List.length_cons, List.length_nil, P_addI, P_subI, P_augI, P_negI, P_lt, P_le, P_gt, P_ge, P_absI, P_intI, P_intB, cEq_ii, cNe_ii, cEq_bb, cEq_ss, cEq_ts, cEq_tn, cEq_tt, cNe_tt, P_sumT, P_lenT, P_listT, if_true, if_false, Bool.false_eq_true]
      exact ⟨3, rfl, by omega, by omega, fun i r' S' _ => rfl, Kp.refl _ _, hd, none, none, none, none, none, none, rfl⟩
    · intro i v r S1 hv hI
      obtain ⟨k1, d1, o1, o2, o3, o4, o5, o6, rfl⟩ := hI
      rw [P_stp, P_gNm, P_seq, P_asg]
      simp only [P_seq, P_if, P_ret, P_expr, P_nil, P_asg, P_gNm, P_par, P_aug, P_gSub, P_gsNil, P_gsCons, P_loc, P_eK, P_e1, P_e2, P_eT, P_aNil, P_aCons, P_call, P_tup, P_lst, P_eIf, P_andB, P_orB, P_notB, P_ofO, P_tV, P_tB, P_tAnd, P_tOr, P_tNot, P_tYes, P_tC, P_ch, P_sl, P_oNo, P_oYes, P_mt, P_new, P_stp, Res.P_ok, SR.P_nx, SR.P_ret, P_if_res, P_bad, wip, List.set_cons_succ, List.set_cons_zero, List.getElem?_cons_succ, List.getElem?_cons_zero, List.getElem?_nil, List.length_cons, List.length_nil, P_addI, P_subI, P_augI, P_negI, P_lt, P_le, P_gt, P_ge, P_absI, P_intI, P_intB, cEq_ii, cNe_ii, cEq_bb, cEq_ss, cEq_ts, cEq_tn, cEq_tt, cNe_tt, P_sumT, P_lenT, P_listT, if_true, if_false, Bool.false_eq_true]
      refine x_drawn a S1 d1 _ fun d k S2 hdl k2 d2 f2 hb hnd hk hdg => ?_
      have t := x_turn a d k S2 hb hnd hk hdg f2 (some v) o3 o4 o5 o6 (fun r S' => Kp a S S' ∧ Dice a S' ∧ ∃ o1 o2 o3 o4 o5 o6, r = [some (.ref a), o1, o2, o3, o4, o5, o6]) (fun _ _ => False) fun o3 o4 S3 e3 => ⟨k1.trans (k2.trans (e3.kp a)), d2.ext e3, _, _, _, _, _, _, rfl⟩
      simp only [P_seq, P_if, P_ret, P_expr, P_nil, P_asg, P_gNm, P_par, P_aug, P_gSub, P_gsNil, P_gsCons, P_loc, P_eK, P_e1, P_e2, P_eT, P_aNil, P_aCons, P_call, P_tup, P_lst, P_eIf, P_andB, P_orB, P_notB, P_ofO, P_tV, P_tB, P_tAnd, P_tOr, P_tNot, P_tYes, P_tC, P_ch, P_sl, P_oNo, P_oYes, P_mt, P_new, P_stp, Res.P_ok, SR.P_nx, SR.P_ret, P_if_res, P_bad, wip, List.set_cons_succ, List.set_cons_zero, List.getElem?_cons_succ, List.getElem?_cons_zero, List.getElem?_nil, List.length_cons, List.length_nil, P_addI, P_subI, P_augI, P_negI, P_lt, P_le, P_gt, P_ge, P_absI, P_intI, P_intB, cEq_ii, cNe_ii, cEq_bb, cEq_ss, cEq_ts, cEq_tn, cEq_tt, cNe_tt, P_sumT, P_lenT, P_listT, if_true, if_false, Bool.false_eq_true] at t
      exact t
    · intro r S1 hI
      exact hI
  · rintro r1 S1 ⟨k1, d1, o1, o2, o3, o4, o5, o6, rfl⟩
    rw [P_seq, P_asg]
    rw [P_e2, P_call, P_aCons]
    refine x_row 1 6 a rfl (fun v => rfl) d1 (by omega) (by omega) fun L S2 b k2 d2 hL hB hb p2 => ?_
    simp only [P_seq, P_if, P_ret, P_expr, P_nil, P_asg, P_gNm, P_par, P_aug, P_gSub, P_gsNil, P_gsCons, P_loc, P_eK, P_e1, P_e2, P_eT, P_aNil, P_aCons, P_call, P_tup, P_lst, P_eIf, P_andB, P_orB, P_notB, P_ofO, P_tV, P_tB, P_tAnd, P_tOr, P_tNot, P_tYes, P_tC, P_ch, P_sl, P_oNo, P_oYes, P_mt, P_new, P_stp, Res.P_ok, SR.P_nx, SR.P_ret, P_if_res, P_bad, wip, List.set_cons_succ, List.set_cons_zero, List.getElem?_cons_succ, List.getElem?_cons_zero, List.getElem?_nil, List.length_cons, List.length_nil, P_addI, P_subI, P_augI, P_negI, P_lt, P_le, P_gt, P_ge, P_absI, P_intI, P_intB, cEq_ii, cNe_ii, cEq_bb, cEq_ss, cEq_ts, cEq_tn, cEq_tt, cNe_tt, P_sumT, P_lenT, P_listT, if_true, if_false, Bool.false_eq_true]
    rw [P_tupL _ _ _ _ p2]
    refine x_roll a 3 S2 d2 (by omega) (by omega) _ fun t S3 ht k3 d3 => ?_
    simp only [P_seq, P_if, P_ret, P_expr, P_nil, P_asg, P_gNm, P_par, P_aug, P_gSub, P_gsNil, P_gsCons, P_loc, P_eK, P_e1, P_e2, P_eT, P_aNil, P_aCons, P_call, P_tup, P_lst, P_eIf, P_andB, P_orB, P_notB, P_ofO, P_tV, P_tB, P_tAnd, P_tOr, P_tNot, P_tYes, P_tC, P_ch, P_sl, P_oNo, P_oYes, P_mt, P_new, P_stp, Res.P_ok, SR.P_nx, SR.P_ret, P_if_res, P_bad, wip, List.set_cons_succ, List.set_cons_zero, List.getElem?_cons_succ, List.getElem?_cons_zero, List.getElem?_nil, List.length_cons, List.length_nil, P_addI, P_subI, P_augI, P_negI, P_lt, P_le, P_gt, P_ge, P_absI, P_intI, P_intB, cEq_ii, cNe_ii, cEq_bb, cEq_ss, cEq_ts, cEq_tn, cEq_tt, cNe_tt, P_sumT, P_lenT, P_listT, if_true, if_false, Bool.false_eq_true, szl, Nat.reduceAdd, Nat.reduceLeDiff]
    rw [P_addT _ _ _ (by simp; omega)]
    have e : iv L ++ [AV.int (1 + (t : Int))] = iv (L ++ [1 + (t : Int)]) := by simp
    rw [e]
    have k13 := k1.trans (k2.trans k3)
    refine P_forE ?_
    refine P_rng1 _ _ _ _ ?_
    simp only [P_seq, P_if, P_ret, P_expr, P_nil, P_asg, P_gNm, P_par, P_aug, P_gSub, P_gsNil, P_gsCons, P_loc, P_eK, P_e1, P_e2, P_eT, P_aNil, P_aCons, P_call, P_tup, P_lst, P_eIf, P_andB, P_orB, P_notB, P_ofO, P_tV, P_tB, P_tAnd, P_tOr, P_tNot, P_tYes, P_tC, P_ch, P_sl, P_oNo, P_oYes, P_mt, P_new, P_stp, Res.P_ok, SR.P_nx, SR.P_ret, P_if_res, P_bad, wip, List.set_cons_succ, List.set_cons_zero, List.getElem?_cons_succ, List.getElem?_cons_zero, List.getElem?_nil, List.length_cons, List.length_nil, P_addI, P_subI, P_augI, P_negI, P_lt, P_le, P_gt, P_ge, P_absI, P_intI, P_intB, cEq_ii, cNe_ii, cEq_bb, cEq_ss, cEq_ts, cEq_tn, cEq_tt, cNe_tt, P_sumT, P_lenT, P_listT, if_true, if_false, Bool.false_eq_true]
    refine x_roll a 3 S3 d3 (by omega) (by omega) _ fun n S4 hn k4 d4 => ?_
    refine ⟨_, rfl, by omega, by omega, rngL 0 n, fun i r S' => Kp a S S' ∧ Dice a S' ∧ i ≤ 2 ∧ ∃ o1 o2 o3 o4 o5 L, r = [some (.ref a), o1, o2, o3, o4, o5, some (.tup (iv L))] ∧ la L ≠ 0 ∧ (∀ x ∈ L, x.natAbs ≤ 3 * 2 ^ i) ∧ L.length < 10 + i, by rw [rngL_len]; unfold LIM; omega, fun i r' S' _ => by rw [Int.toNat_natCast]; rfl, ?_, ?_, ?_⟩
    · refine ⟨k13.trans k4, d4, by omega, _, _, _, _, _, _, rfl, by rw [la_app]; omega, fun x hx => ?_, by simp; omega⟩
      rcases List.mem_append.1 hx with hx | hx
      · have := hB x hx; omega
      · simp at hx; subst hx; omega
    · intro i v r S5 hv hI
      obtain ⟨k5, d5, hi2, o1, o2, o3, o4, o5, L, rfl, hla, hB, hL⟩ := hI
      have hi := (rngL_get hv).1
      clear hv
      simp only [P_seq, P_if, P_ret, P_expr, P_nil, P_asg, P_gNm, P_par, P_aug, P_gSub, P_gsNil, P_gsCons, P_loc, P_eK, P_e1, P_e2, P_eT, P_aNil, P_aCons, P_call, P_tup, P_lst, P_eIf, P_andB, P_orB, P_notB, P_ofO, P_tV, P_tB, P_tAnd, P_tOr, P_tNot, P_tYes, P_tC, P_ch, P_sl, P_oNo, P_oYes, P_mt, P_new, P_stp, Res.P_ok, SR.P_nx, SR.P_ret, P_if_res, P_bad, wip, List.set_cons_succ, List.set_cons_zero, List.getElem?_cons_succ, List.getElem?_cons_zero, List.getElem?_nil, List.length_cons, List.length_nil, P_addI, P_subI, P_augI, P_negI, P_lt, P_le, P_gt, P_ge, P_absI, P_intI, P_intB, cEq_ii, cNe_ii, cEq_bb, cEq_ss, cEq_ts, cEq_tn, cEq_tt, cNe_tt, P_sumT, P_lenT, P_listT, if_true, if_false, Bool.false_eq_true, szl, Nat.reduceAdd, Nat.reduceLeDiff]
      refine x_wprod L (3 * 2 ^ i) S5 hla hB (by omega) _ fun L' S6 e6 hla' hB' hL' => ?_
      refine ⟨k5.trans (e6.kp a), d5.ext e6, by omega, _, _, _, _, _, _, rfl, hla', fun x hx => ?_, by omega⟩
      have := hB' x hx
      rw [Nat.pow_succ]
      omega
    · intro r S5 hI
      obtain ⟨k5, d5, hi2, o1, o2, o3, o4, o5, L, rfl, hla, hB, hL⟩ := hI
      rw [rngL_len] at hB hL hi2
      have hp : 3 * 2 ^ n ≤ 12 := by
        have : 2 ^ n ≤ 2 ^ 2 := Nat.pow_le_pow_right (by omega) hi2
        omega
      have hG : (100 : Int) < G := by decide +kernel
      have hLG : ∀ x ∈ L, -G < x ∧ x < G := fun x hx => by
        have := hB x hx
        omega
      obtain ⟨e, v, hE, _⟩ := ends_ex L.length L rfl hla
      try simp only [P_seq, P_if, P_ret, P_expr, P_nil, P_asg, P_gNm, P_par, P_aug, P_gSub, P_gsNil, P_gsCons, P_loc, P_eK, P_e1, P_e2, P_eT, P_aNil, P_aCons, P_call, P_tup, P_lst, P_eIf, P_andB, P_orB, P_notB, P_ofO, P_tV, P_tB, P_tAnd, P_tOr, P_tNot, P_tYes, P_tC, P_ch, P_sl, P_oNo, P_oYes, P_mt, P_new, P_stp, Res.P_ok, SR.P_nx, SR.P_ret, P_if_res, P_bad, wip, List.set_cons_succ, List.set_cons_zero, List.getElem?_cons_succ, List.getElem?_cons_zero, List.getElem?_nil, List.length_cons, List.length_nil, P_addI, P_subI, P_augI, P_negI, P_lt, P_le, P_gt, P_ge, P_absI, P_intI, P_intB, cEq_ii, cNe_ii, cEq_bb, cEq_ss, cEq_ts, cEq_tn, cEq_tt, cNe_tt, P_sumT, P_lenT, P_listT, if_true, if_false, Bool.false_eq_true]
      refine x_at_one L e v S5 hE hla hLG (by omega) _ fun S6 e6 => ?_
      refine x_parted L e v S6 hE hla (by omega) _ fun S7 e7 => ?_
      have c7 : decide ([(e : Int), v] = [(e : Int), v]) = true := by simp
      simp only [P_seq, P_if, P_ret, P_expr, P_nil, P_asg, P_gNm, P_par, P_aug, P_gSub, P_gsNil, P_gsCons, P_loc, P_eK, P_e1, P_e2, P_eT, P_aNil, P_aCons, P_call, P_tup, P_lst, P_eIf, P_andB, P_orB, P_notB, P_ofO, P_tV, P_tB, P_tAnd, P_tOr, P_tNot, P_tYes, P_tC, P_ch, P_sl, P_oNo, P_oYes, P_mt, P_new, P_stp, Res.P_ok, SR.P_nx, SR.P_ret, P_if_res, P_bad, wip, List.set_cons_succ, List.set_cons_zero, List.getElem?_cons_succ, List.getElem?_cons_zero, List.getElem?_nil, List.length_cons, List.length_nil, P_addI, P_subI, P_augI, P_negI, P_lt, P_le, P_gt, P_ge, P_absI, P_intI, P_intB, cEq_ii, cNe_ii, cEq_bb, cEq_ss, cEq_ts, cEq_tn, cEq_tt, cNe_tt, P_sumT, P_lenT, P_listT, if_true, if_false, Bool.false_eq_true, c7]
      have e57 := e6.trans e7
      refine x_judged a S7 (d5.ext e57) _ fun S8 k8 d8 => ?_
      exact h S8 (k5.trans ((e57.kp a).trans k8)) d8
end Mc.Lk83
end
section
set_option Elab.async false
set_option linter.all false
set_option maxRecDepth 100000
/-! K83_law: the law itself -/
namespace Mc.Lk83
open PySem Mc.Py
def k1 : KV := [(1, 1), (3, 1)]
def k2 : KV := [(2, 1), (3, -1)]
def k3 : KV := [(401, 1)]
def k4 : KV := [(400, 1), (100, -1)]
def k5 : KV := [(10000, 1), (5000, -2), (2, 5)]
theorem WH_nn (k : KV) (h : ∀ p ∈ k, 0 ≤ p.2) : WH k := fun d _ => by
  induction k with
  | nil => simp [E]
  | cons p k ih =>
    rw [E_cons]
    have := ih fun q hq => h q (List.mem_cons_of_mem _ hq)
    have := h p (List.mem_cons_self ..)
    split <;> omega
theorem WH_k4 : WH k4 := fun d hd => by
  unfold k4
  rw [E_cons, E_cons, E_nil]
  show 0 ≤ (if 400 % d = 0 then (1 : Int) else 0) + ((if 100 % d = 0 then (-1 : Int) else 0) + 0)
  by_cases h : 100 % d = 0
  · have : 400 % d = 0 := by
      obtain ⟨c, hc⟩ := Nat.dvd_of_mod_eq_zero h
      exact Nat.mod_eq_zero_of_dvd ⟨c * 4, by rw [← Nat.mul_assoc, ← hc]⟩
    rw [if_pos h, if_pos this]
    decide
  · rw [if_neg h]
    split <;> decide
def f4 : Nat → Int := fun i => if i % 100 = 0 then 1 else 0
theorem val_k4 : (tabI (1 + degK k4).toNat fun i => sgK k4 * facs k4 one i) = tabI 301 f4 := by
  have e : (1 + degK k4).toNat = 301 := by decide +kernel
  rw [e]
  refine tabI_congr _ _ _ fun i hi => ?_
  have hs : sgK k4 = 1 := by decide +kernel
  have hf : facs k4 one = Dv 100 (M 400 one) := rfl
  rw [hs, hf, Int.one_mul]
  revert hi
  induction i using Nat.strongRecOn with
  | ind i ih =>
    intro hi
    rw [Dv]
    have hM : M 400 one i = one i := by
      unfold M
      rw [if_neg (by omega)]
      omega
    rw [hM]
    by_cases h : 100 ≤ i
    · rw [dif_pos ⟨by omega, h⟩, ih (i - 100) (by omega) (by omega)]
      unfold f4 one
      rw [if_neg (show ¬ i = 0 by omega)]
      have : (i - 100) % 100 = i % 100 := by omega
      rw [this]
      omega
    · rw [dif_neg (fun e => h e.2)]
      unfold f4 one
      by_cases h0 : i = 0
      · subst h0; rfl
      · rw [if_neg h0, if_neg (by omega)]; rfl
theorem P_eDct {S : Sto} {r : Env} (t : Env → Sto → Res (List (AV × AV))) (ps kvs : List (AV × AV)) (ht : t r S = .ok ps S) (hk : (ps.all fun p => (kA p.1).isSome) = true) (hl : ps.length ≤ 15) (hm : mrgA [] ps = kvs) (Q : AV → Sto → Prop) : (eDct t r S).P Q = Q (.ref S.length) (S ++ [.dct false kvs]) := by
  unfold eDct
  rw [ht, Res.bind_ok, hm]
  rw [if_pos (by rw [hk, Bool.true_and]; exact decide_eq_true hl), P_new]
theorem P_eDct0 (r : Env) (S : Sto) (Q : AV → Sto → Prop) : (eDct0 r S).P Q = Q (.ref S.length) (S ++ [.dct false (kvA [])]) := by
  unfold eDct0
  rw [P_new]
  rfl
theorem Bd_of (k : KV) (h : (k.all fun p => decide (1 ≤ p.1 ∧ p.1 ≤ 10000 ∧ p.2 ≠ 0 ∧ p.2.natAbs ≤ 1000)) = true) (hl : k.length ≤ 60) : Bd k := ⟨fun p hp => of_decide_eq_true (List.all_eq_true.1 h p hp), hl⟩
def told6 : List AV := [.tup (iv [1]), .tup (iv [1, -1, 0, -1, 1]), .str "none", .str "many 400", .tup (tab 301 f4), .str "none"]
theorem la_f4 : la (tabI 301 f4) = 1 := by rw [la_tab 300]; decide
theorem toldAll (i : Nat) (k : KV) (v : AV) (hk : [([] : KV), k1, k2, k3, k4, k5][i]? = some k) (hv : told6[i]? = some v) (d : Nat) (S : Sto) (hS : S[d]? = some (.dct false (kvA k))) (Q : AV → Sto → Prop) (h : ∀ S', Ext S S' → Q v S') : (d_q_told [.ref d] S).P Q := by
  match i, hk, hv with
  | 0, hk, hv =>
    obtain rfl := Option.some.inj hk
    obtain rfl := Option.some.inj hv
    have e : (tabI (1 + degK []).toNat fun i => sgK [] * facs [] one i) = [1] := by decide +kernel
    have hW := WH_nn [] (by simp)
    refine x_told [] d S (Bd_of _ (by decide) (by decide)) hS (fun _ _ => ⟨by decide, by rw [e]; decide⟩) Q (fun hn => absurd hW hn) (fun _ hd => absurd hd (by decide)) fun _ _ S' e' => ?_
    have : (tab (1 + degK []).toNat fun i => sgK [] * facs [] one i) = iv [1] := congrArg iv e
    rw [this]
    exact h S' e'
  | 1, hk, hv =>
    obtain rfl := Option.some.inj hk
    obtain rfl := Option.some.inj hv
    have e : (tabI (1 + degK k1).toNat fun i => sgK k1 * facs k1 one i) = [1, -1, 0, -1, 1] := by decide +kernel
    have hW := WH_nn k1 (by decide)
    refine x_told k1 d S (Bd_of _ (by decide) (by decide)) hS (fun _ _ => ⟨by decide, by rw [e]; decide⟩) Q (fun hn => absurd hW hn) (fun _ hd => absurd hd (by decide)) fun _ _ S' e' => ?_
    have : (tab (1 + degK k1).toNat fun i => sgK k1 * facs k1 one i) = iv [1, -1, 0, -1, 1] := congrArg iv e
    rw [this]
    exact h S' e'
  | 2, hk, hv =>
    obtain rfl := Option.some.inj hk
    obtain rfl := Option.some.inj hv
    have hW : ¬ WH k2 := fun h => absurd (h 3 (by decide)) (by decide)
    exact x_told k2 d S (Bd_of _ (by decide) (by decide)) hS (fun h => absurd h hW) Q (fun _ => h) (fun h => absurd h hW) fun h => absurd h hW
  | 3, hk, hv =>
    obtain rfl := Option.some.inj hk
    obtain rfl := Option.some.inj hv
    have hW := WH_nn k3 (by decide)
    exact x_told k3 d S (Bd_of _ (by decide) (by decide)) hS (fun _ hd => absurd hd (by decide)) Q (fun hn => absurd hW hn) (fun _ _ => h) fun _ hd => absurd hd (by decide)
  | 4, hk, hv =>
    obtain rfl := Option.some.inj hk
    obtain rfl := Option.some.inj hv
    refine x_told k4 d S (Bd_of _ (by decide) (by decide)) hS (fun _ _ => ⟨by decide, by rw [val_k4, la_f4]; decide⟩) Q (fun hn => absurd WH_k4 hn) (fun _ hd => absurd hd (by decide)) fun _ _ S' e' => ?_
    have : (tab (1 + degK k4).toNat fun i => sgK k4 * facs k4 one i) = tab 301 f4 := congrArg iv val_k4
    rw [this]
    exact h S' e'
  | 5, hk, hv =>
    obtain rfl := Option.some.inj hk
    obtain rfl := Option.some.inj hv
    have hW : ¬ WH k5 := fun h => absurd (h 5000 (by decide)) (by decide +kernel)
    exact x_told k5 d S (Bd_of _ (by decide) (by decide)) hS (fun h => absurd h hW) Q (fun _ => h) (fun h => absurd h hW) fun h => absurd h hW
  | i + 6, hk, _ => simp at hk
theorem x_fixed (S : Sto) (o0 o1 o2 o3 o4 : Option AV) (Q : AV → Sto → Prop) (h : ∀ S', Q (.bl true) S') : ((sSeq (sAsg (eLc [3] (iSeq (eTup (aCons (eDct0) (aCons (eDct (dCons (eK (.int 1)) (eK (.int 1)) (dCons (eK (.int 3)) (eK (.int 1)) (dNil)))) (aCons (eDct (dCons (eK (.int 2)) (eK (.int 1)) (dCons (eK (.int 3)) (e1 oNeg (eK (.int 1))) (dNil)))) (aCons (eDct (dCons (eK (.int 401)) (eK (.int 1)) (dNil))) (aCons (eDct (dCons (eK (.int 400)) (eK (.int 1)) (dCons (eK (.int 100)) (e1 oNeg (eK (.int 1))) (dNil)))) (aCons (eDct (dCons (eK (.int 10000)) (eK (.int 1)) (dCons (eK (.int 5000)) (e1 oNeg (eK (.int 2))) (dCons (eK (.int 2)) (eK (.int 5)) (dNil))))) (aNil))))))))) (gNm 3) (Mc.tYes) (eCall d_q_told (aCons (eLoc 3) (aNil)))) (gNm 2)) (sSeq (sIf (Mc.tOr (Mc.tC cNe (eSl (eLoc 2) (oNo) (oYes (eK (.int 4)))) (eLst (aCons (eTup (aCons (eK (.int 1)) (aNil))) (aCons (eTup (aCons (eK (.int 1)) (aCons (e1 oNeg (eK (.int 1))) (aCons (eK (.int 0)) (aCons (e1 oNeg (eK (.int 1))) (aCons (eK (.int 1)) (aNil))))))) (aCons (eK (.str "none")) (aCons (eK (.str "many 400")) (aNil))))))) (Mc.tC cNe (e2 oIx (eLoc 2) (eK (.int 5))) (eK (.str "none")))) (sRet (eK (.bl false))) (sNil)) (sRet (eAndB (e2 cEq (e2 oIx (eLoc 2) (eK (.int 4))) (eCall pTuple (aCons (eLc [4] (iRng1 (aCons (eK (.int 301)) (aNil))) (gNm 4) (Mc.tYes) (eCall pInt (aCons (e2 cEq (e2 oMod (eLoc 4) (eK (.int 100))) (eK (.int 0))) (aNil)))) (aNil)))) (e2 cEq (eCall d_at_one (aCons (eTup (aCons (eK (.int 3)) (aCons (e1 oNeg (eK (.int 5))) (aNil)))) (aNil))) (eTup (aCons (eK (.int 0)) (aCons (e1 oNeg (eK (.int 2))) (aNil)))))))))
    [o0, o1, o2, o3, o4] S).P (fun _ S1 => Q .non S1) Q := by
  rw [P_seq]
  refine SR.P.mono (N := fun r1 S1 => ∃ p, S1[p]? = some (.lst false told6) ∧ r1 = [o0, o1, some (.ref p), o3, o4]) (R := fun _ _ => False) ?_ ?_ (fun _ _ h => h.elim)
  · rw [P_asg]
    refine P_lcE ?_
    refine P_seqT _ _ _ _ ?_
    rw [P_tup, P_aCons, P_eDct0, P_aCons, P_eDct _ (kvA k1) (kvA k1) rfl rfl (by decide) rfl, P_aCons, P_eDct _ (kvA k2) (kvA k2) rfl rfl (by decide) rfl, P_aCons, P_eDct _ (kvA k3) (kvA k3) rfl rfl (by decide) rfl, P_aCons, P_eDct _ (kvA k4) (kvA k4) rfl rfl (by decide) rfl, P_aCons, P_eDct _ (kvA k5) (kvA k5) rfl rfl (by decide) rfl]
    simp only [P_seq, P_if, P_ret, P_expr, P_nil, P_asg, P_gNm, P_par, P_aug, P_gSub, P_gsNil, P_gsCons, P_loc, P_eK, P_e1, P_e2, P_eT, P_aNil, P_aCons, P_call, P_tup, P_lst, P_eIf, P_andB, P_orB, P_notB, P_ofO, P_tV, P_tB, P_tAnd, P_tOr, P_tNot, P_tYes, P_tC, P_ch, P_sl, P_oNo, P_oYes, P_mt, P_new, P_stp, Res.P_ok, SR.P_nx, SR.P_ret, P_if_res, P_bad, wip, List.set_cons_succ, List.set_cons_zero, List.getElem?_cons_succ, List.getElem?_cons_zero, List.getElem?_nil, List.length_cons, List.length_nil, P_addI, P_subI, P_augI, P_negI, P_lt, P_le, P_gt, P_ge, P_absI, P_intI, P_intB, cEq_ii, cNe_ii, cEq_bb, cEq_ss, cEq_ts, cEq_tn, cEq_tt, cNe_tt, P_sumT, P_lenT, P_listT, if_true, if_false, Bool.false_eq_true, szl, Nat.reduceAdd, Nat.reduceLeDiff]
    generalize hS0 : S ++ [AO.dct false (kvA [])] = S0
    generalize hS1 : S0 ++ [AO.dct false (kvA k1)] = S1
    generalize hS2 : S1 ++ [AO.dct false (kvA k2)] = S2
    generalize hS3 : S2 ++ [AO.dct false (kvA k3)] = S3
    generalize hS4 : S3 ++ [AO.dct false (kvA k4)] = S4
    generalize hS5 : S4 ++ [AO.dct false (kvA k5)] = S5
    have a1 : Ext S0 S1 := by rw [← hS1]; exact Ext.app _ _
    have a2 : Ext S1 S2 := by rw [← hS2]; exact Ext.app _ _
    have a3 : Ext S2 S3 := by rw [← hS3]; exact Ext.app _ _
    have a4 : Ext S3 S4 := by rw [← hS4]; exact Ext.app _ _
    have a5 : Ext S4 S5 := by rw [← hS5]; exact Ext.app _ _
    have b0 : S5[S.length]? = some (.dct false (kvA [])) := a5 _ _ (a4 _ _ (a3 _ _ (a2 _ _ (a1 _ _ (by rw [← hS0]; exact app_new _ _)))))
    have b1 : S5[S0.length]? = some (.dct false (kvA k1)) := a5 _ _ (a4 _ _ (a3 _ _ (a2 _ _ (by rw [← hS1]; exact app_new _ _))))
    have b2 : S5[S1.length]? = some (.dct false (kvA k2)) := a5 _ _ (a4 _ _ (a3 _ _ (by rw [← hS2]; exact app_new _ _)))
    have b3 : S5[S2.length]? = some (.dct false (kvA k3)) := a5 _ _ (a4 _ _ (by rw [← hS3]; exact app_new _ _))
    have b4 : S5[S3.length]? = some (.dct false (kvA k4)) := a5 _ _ (by rw [← hS4]; exact app_new _ _)
    have b5 : S5[S4.length]? = some (.dct false (kvA k5)) := by rw [← hS5]; exact app_new _ _
    refine ⟨_, rfl, [.ref S.length, .ref S0.length, .ref S1.length, .ref S2.length, .ref S3.length, .ref S4.length], fun i acc S' => acc = told6.take i ∧ Ext S5 S', by unfold LIM; simp, fun _ _ _ _ => rfl, ⟨rfl, Ext.refl _⟩, ?_, ?_⟩
    · rintro i v acc S6 hv ⟨rfl, e6⟩
      unfold lcStp
      simp only [P_seq, P_if, P_ret, P_expr, P_nil, P_asg, P_gNm, P_par, P_aug, P_gSub, P_gsNil, P_gsCons, P_loc, P_eK, P_e1, P_e2, P_eT, P_aNil, P_aCons, P_call, P_tup, P_lst, P_eIf, P_andB, P_orB, P_notB, P_ofO, P_tV, P_tB, P_tAnd, P_tOr, P_tNot, P_tYes, P_tC, P_ch, P_sl, P_oNo, P_oYes, P_mt, P_new, P_stp, Res.P_ok, SR.P_nx, SR.P_ret, P_if_res, P_bad, wip, List.set_cons_succ, List.set_cons_zero, List.getElem?_cons_succ, List.getElem?_cons_zero, List.getElem?_nil, List.length_cons, List.length_nil, P_addI, P_subI, P_augI, P_negI, P_lt, P_le, P_gt, P_ge, P_absI, P_intI, P_intB, cEq_ii, cNe_ii, cEq_bb, cEq_ss, cEq_ts, cEq_tn, cEq_tt, cNe_tt, P_sumT, P_lenT, P_listT, if_true, if_false, Bool.false_eq_true]
      obtain ⟨d, k, w, rfl, hk, hw, hS⟩ : ∃ d k w, v = .ref d ∧ [([] : KV), Lk83.k1, Lk83.k2, Lk83.k3, Lk83.k4, Lk83.k5][i]? = some k ∧ told6[i]? = some w ∧ S5[d]? = some (.dct false (kvA k)) := by
        match i, hv with
        | 0, hv => exact ⟨_, _, _, (Option.some.inj hv).symm, rfl, rfl, b0⟩
        | 1, hv => exact ⟨_, _, _, (Option.some.inj hv).symm, rfl, rfl, b1⟩
        | 2, hv => exact ⟨_, _, _, (Option.some.inj hv).symm, rfl, rfl, b2⟩
        | 3, hv => exact ⟨_, _, _, (Option.some.inj hv).symm, rfl, rfl, b3⟩
        | 4, hv => exact ⟨_, _, _, (Option.some.inj hv).symm, rfl, rfl, b4⟩
        | 5, hv => exact ⟨_, _, _, (Option.some.inj hv).symm, rfl, rfl, b5⟩
        | i + 6, hv => simp at hv
      refine toldAll i k w hk hw d S6 (e6 _ _ hS) _ fun S7 e7 => ⟨?_, e6.trans e7⟩
      rw [List.take_add_one, hw]
      rfl
    · rintro acc S6 ⟨rfl, e6⟩
      exact ⟨_, app_new _ _, rfl⟩
  · rintro r1 S1 ⟨p, hp, rfl⟩
    simp only [P_seq, P_if, P_ret, P_expr, P_nil, P_asg, P_gNm, P_par, P_aug, P_gSub, P_gsNil, P_gsCons, P_loc, P_eK, P_e1, P_e2, P_eT, P_aNil, P_aCons, P_call, P_tup, P_lst, P_eIf, P_andB, P_orB, P_notB, P_ofO, P_tV, P_tB, P_tAnd, P_tOr, P_tNot, P_tYes, P_tC, P_ch, P_sl, P_oNo, P_oYes, P_mt, P_new, P_stp, Res.P_ok, SR.P_nx, SR.P_ret, P_if_res, P_bad, wip, List.set_cons_succ, List.set_cons_zero, List.getElem?_cons_succ, List.getElem?_cons_zero, List.getElem?_nil, List.length_cons, List.length_nil, P_addI, P_subI, P_augI, P_negI, P_lt, P_le, P_gt, P_ge, P_absI, P_intI, P_intB, cEq_ii, cNe_ii, cEq_bb, cEq_ss, cEq_ts, cEq_tn, cEq_tt, cNe_tt, P_sumT, P_lenT, P_listT, if_true, if_false, Bool.false_eq_true, szl, Nat.reduceAdd, Nat.reduceLeDiff]
    rw [oSl_L _ _ _ _ _ _ hp]
    simp only [P_seq, P_if, P_ret, P_expr, P_nil, P_asg, P_gNm, P_par, P_aug, P_gSub, P_gsNil, P_gsCons, P_loc, P_eK, P_e1, P_e2, P_eT, P_aNil, P_aCons, P_call, P_tup, P_lst, P_eIf, P_andB, P_orB, P_notB, P_ofO, P_tV, P_tB, P_tAnd, P_tOr, P_tNot, P_tYes, P_tC, P_ch, P_sl, P_oNo, P_oYes, P_mt, P_new, P_stp, Res.P_ok, SR.P_nx, SR.P_ret, P_if_res, P_bad, wip, List.set_cons_succ, List.set_cons_zero, List.getElem?_cons_succ, List.getElem?_cons_zero, List.getElem?_nil, List.length_cons, List.length_nil, P_addI, P_subI, P_augI, P_negI, P_lt, P_le, P_gt, P_ge, P_absI, P_intI, P_intB, cEq_ii, cNe_ii, cEq_bb, cEq_ss, cEq_ts, cEq_tn, cEq_tt, cNe_tt, P_sumT, P_lenT, P_listT, if_true, if_false, Bool.false_eq_true]
    have c1 : cutA told6 none (some 4) = told6.take 4 := rfl
    rw [c1]
    have q1 := app_get (T := [AO.lst false [AV.tup [.int 1], .tup [.int 1, .int (-1), .int 0, .int (-1), .int 1], .str "none", .str "many 400"]]) (app_new S1 (.lst false (told6.take 4)))
    have q2 := app_new (S1 ++ [AO.lst false (told6.take 4)]) (AO.lst false [AV.tup [.int 1], .tup [.int 1, .int (-1), .int 0, .int (-1), .int 1], .str "none", .str "many 400"])
    have e2 : Ext S1 (S1 ++ [AO.lst false (told6.take 4)] ++ [AO.lst false [AV.tup [.int 1], .tup [.int 1, .int (-1), .int 0, .int (-1), .int 1], .str "none", .str "many 400"]]) := (Ext.app _ _).trans (Ext.app _ _)
    generalize S1 ++ [AO.lst false (told6.take 4)] ++ [AO.lst false [AV.tup [.int 1], .tup [.int 1, .int (-1), .int 0, .int (-1), .int 1], .str "none", .str "many 400"]] = S2 at q1 q2 e2
    generalize (S1 ++ [AO.lst false (told6.take 4)]).length = p2 at q2
    have d1 : ∀ (n : Nat) (a : Nat), S2[a]? = some (.lst false (told6.take 4)) → AV.dat (n + 3) S2 (.ref a) = some (.list [.tuple [.int 1], .tuple [.int 1, .int (-1), .int 0, .int (-1), .int 1], .str "none", .str "many 400"]) := by
      intro n a ha
      show (match S2[a]? with
        | some (.lst _ xs) => (optAll (xs.map (AV.dat (n + 2) S2))).map PyData.list
        | _ => none) = _
      rw [ha]
      rfl
    have e5 : eqA S2 (.ref S1.length) (.ref p2) = some true := by
      unfold eqA DEPTH
      rw [d1 9 _ q1, d1 9 _ q2]
      decide +kernel
    rw [P_cNe _ _ _ _ e5]
    simp only [P_seq, P_if, P_ret, P_expr, P_nil, P_asg, P_gNm, P_par, P_aug, P_gSub, P_gsNil, P_gsCons, P_loc, P_eK, P_e1, P_e2, P_eT, P_aNil, P_aCons, P_call, P_tup, P_lst, P_eIf, P_andB, P_orB, P_notB, P_ofO, P_tV, P_tB, P_tAnd, P_tOr, P_tNot, P_tYes, P_tC, P_ch, P_sl, P_oNo, P_oYes, P_mt, P_new, P_stp, Res.P_ok, SR.P_nx, SR.P_ret, P_if_res, P_bad, wip, List.set_cons_succ, List.set_cons_zero, List.getElem?_cons_succ, List.getElem?_cons_zero, List.getElem?_nil, List.length_cons, List.length_nil, P_addI, P_subI, P_augI, P_negI, P_lt, P_le, P_gt, P_ge, P_absI, P_intI, P_intB, cEq_ii, cNe_ii, cEq_bb, cEq_ss, cEq_ts, cEq_tn, cEq_tt, cNe_tt, P_sumT, P_lenT, P_listT, if_true, if_false, Bool.false_eq_true, Bool.not_true]
    have h5 := e2 _ _ hp
    rw [oIx_L p false told6 5 (.str "none") S2 h5 rfl]
    simp only [P_seq, P_if, P_ret, P_expr, P_nil, P_asg, P_gNm, P_par, P_aug, P_gSub, P_gsNil, P_gsCons, P_loc, P_eK, P_e1, P_e2, P_eT, P_aNil, P_aCons, P_call, P_tup, P_lst, P_eIf, P_andB, P_orB, P_notB, P_ofO, P_tV, P_tB, P_tAnd, P_tOr, P_tNot, P_tYes, P_tC, P_ch, P_sl, P_oNo, P_oYes, P_mt, P_new, P_stp, Res.P_ok, SR.P_nx, SR.P_ret, P_if_res, P_bad, wip, List.set_cons_succ, List.set_cons_zero, List.getElem?_cons_succ, List.getElem?_cons_zero, List.getElem?_nil, List.length_cons, List.length_nil, P_addI, P_subI, P_augI, P_negI, P_lt, P_le, P_gt, P_ge, P_absI, P_intI, P_intB, cEq_ii, cNe_ii, cEq_bb, cEq_ss, cEq_ts, cEq_tn, cEq_tt, cNe_tt, P_sumT, P_lenT, P_listT, if_true, if_false, Bool.false_eq_true]
    rw [P_cNe _ _ _ _ (eqA_str_str S2 "none" "none")]
    have c2 : (!(("none" : Str) == ("none" : Str))) = false := by decide
    simp only [P_seq, P_if, P_ret, P_expr, P_nil, P_asg, P_gNm, P_par, P_aug, P_gSub, P_gsNil, P_gsCons, P_loc, P_eK, P_e1, P_e2, P_eT, P_aNil, P_aCons, P_call, P_tup, P_lst, P_eIf, P_andB, P_orB, P_notB, P_ofO, P_tV, P_tB, P_tAnd, P_tOr, P_tNot, P_tYes, P_tC, P_ch, P_sl, P_oNo, P_oYes, P_mt, P_new, P_stp, Res.P_ok, SR.P_nx, SR.P_ret, P_if_res, P_bad, wip, List.set_cons_succ, List.set_cons_zero, List.getElem?_cons_succ, List.getElem?_cons_zero, List.getElem?_nil, List.length_cons, List.length_nil, P_addI, P_subI, P_augI, P_negI, P_lt, P_le, P_gt, P_ge, P_absI, P_intI, P_intB, cEq_ii, cNe_ii, cEq_bb, cEq_ss, cEq_ts, cEq_tn, cEq_tt, cNe_tt, P_sumT, P_lenT, P_listT, if_true, if_false, Bool.false_eq_true, c2]
    rw [oIx_L p false told6 4 (.tup (tab 301 f4)) S2 h5 rfl]
    simp only [P_seq, P_if, P_ret, P_expr, P_nil, P_asg, P_gNm, P_par, P_aug, P_gSub, P_gsNil, P_gsCons, P_loc, P_eK, P_e1, P_e2, P_eT, P_aNil, P_aCons, P_call, P_tup, P_lst, P_eIf, P_andB, P_orB, P_notB, P_ofO, P_tV, P_tB, P_tAnd, P_tOr, P_tNot, P_tYes, P_tC, P_ch, P_sl, P_oNo, P_oYes, P_mt, P_new, P_stp, Res.P_ok, SR.P_nx, SR.P_ret, P_if_res, P_bad, wip, List.set_cons_succ, List.set_cons_zero, List.getElem?_cons_succ, List.getElem?_cons_zero, List.getElem?_nil, List.length_cons, List.length_nil, P_addI, P_subI, P_augI, P_negI, P_lt, P_le, P_gt, P_ge, P_absI, P_intI, P_intB, cEq_ii, cNe_ii, cEq_bb, cEq_ss, cEq_ts, cEq_tn, cEq_tt, cNe_tt, P_sumT, P_lenT, P_listT, if_true, if_false, Bool.false_eq_true]
    refine P_lc_pure (rngL 0 301) (fun v => match v with | .int i => [.int (if i % 100 = 0 then 1 else 0)] | _ => []) (by rw [rngL_len]; unfold LIM; omega) ?_ ?_ ?_
    · refine P_rng1 _ _ _ _ ?_
      simp only [P_seq, P_if, P_ret, P_expr, P_nil, P_asg, P_gNm, P_par, P_aug, P_gSub, P_gsNil, P_gsCons, P_loc, P_eK, P_e1, P_e2, P_eT, P_aNil, P_aCons, P_call, P_tup, P_lst, P_eIf, P_andB, P_orB, P_notB, P_ofO, P_tV, P_tB, P_tAnd, P_tOr, P_tNot, P_tYes, P_tC, P_ch, P_sl, P_oNo, P_oYes, P_mt, P_new, P_stp, Res.P_ok, SR.P_nx, SR.P_ret, P_if_res, P_bad, wip, List.set_cons_succ, List.set_cons_zero, List.getElem?_cons_succ, List.getElem?_cons_zero, List.getElem?_nil, List.length_cons, List.length_nil, P_addI, P_subI, P_augI, P_negI, P_lt, P_le, P_gt, P_ge, P_absI, P_intI, P_intB, cEq_ii, cNe_ii, cEq_bb, cEq_ss, cEq_ts, cEq_tn, cEq_tt, cNe_tt, P_sumT, P_lenT, P_listT, if_true, if_false, Bool.false_eq_true]
      exact ⟨301, rfl, by omega, by omega, fun i => rfl, by trivial⟩
    · intro v hv
      obtain ⟨j, hj⟩ := List.mem_iff_getElem?.1 hv
      obtain ⟨hj1, rfl⟩ := rngL_get hj
      unfold lcStp
      simp only [P_seq, P_if, P_ret, P_expr, P_nil, P_asg, P_gNm, P_par, P_aug, P_gSub, P_gsNil, P_gsCons, P_loc, P_eK, P_e1, P_e2, P_eT, P_aNil, P_aCons, P_call, P_tup, P_lst, P_eIf, P_andB, P_orB, P_notB, P_ofO, P_tV, P_tB, P_tAnd, P_tOr, P_tNot, P_tYes, P_tC, P_ch, P_sl, P_oNo, P_oYes, P_mt, P_new, P_stp, Res.P_ok, SR.P_nx, SR.P_ret, P_if_res, P_bad, wip, List.set_cons_succ, List.set_cons_zero, List.getElem?_cons_succ, List.getElem?_cons_zero, List.getElem?_nil, List.length_cons, List.length_nil, P_addI, P_subI, P_augI, P_negI, P_lt, P_le, P_gt, P_ge, P_absI, P_intI, P_intB, cEq_ii, cNe_ii, cEq_bb, cEq_ss, cEq_ts, cEq_tn, cEq_tt, cNe_tt, P_sumT, P_lenT, P_listT, if_true, if_false, Bool.false_eq_true]
      rw [P_modI _ _ _ _ (by decide)]
      try simp only [P_seq, P_if, P_ret, P_expr, P_nil, P_asg, P_gNm, P_par, P_aug, P_gSub, P_gsNil, P_gsCons, P_loc, P_eK, P_e1, P_e2, P_eT, P_aNil, P_aCons, P_call, P_tup, P_lst, P_eIf, P_andB, P_orB, P_notB, P_ofO, P_tV, P_tB, P_tAnd, P_tOr, P_tNot, P_tYes, P_tC, P_ch, P_sl, P_oNo, P_oYes, P_mt, P_new, P_stp, Res.P_ok, SR.P_nx, SR.P_ret, P_if_res, P_bad, wip, List.set_cons_succ, List.set_cons_zero, List.getElem?_cons_succ, List.getElem?_cons_zero, List.getElem?_nil, List.length_cons, List.length_nil, P_addI, P_subI, P_augI, P_negI, P_lt, P_le, P_gt, P_ge, P_absI, P_intI, P_intB, cEq_ii, cNe_ii, cEq_bb, cEq_ss, cEq_ts, cEq_tn, cEq_tt, cNe_tt, P_sumT, P_lenT, P_listT, if_true, if_false, Bool.false_eq_true]
      refine ⟨by trivial, ?_⟩
      by_cases hz : (0 + (j : Int)) % 100 = 0
      · have : ((0 + (j : Int)) % 100 == 0) = true := beq_iff_eq.2 hz
        rw [this, if_pos hz]; rfl
      · have : ((0 + (j : Int)) % 100 == 0) = false := beq_eq_false_iff_ne.2 hz
        rw [this, if_neg hz]; rfl
    · have ef : (rngL 0 301).flatMap (fun v => match v with | .int i => [AV.int (if i % 100 = 0 then 1 else 0)] | _ => []) = tab 301 f4 := by
        have e0 : rngL 0 301 = iv ((List.range 301).map fun (i : Nat) => (0 : Int) + (i : Int)) := by unfold rngL; rw [iv, List.map_map]; rfl
        rw [e0, flat_ivF (fun i => if i % 100 = 0 then 1 else 0) _ (fun x => rfl), List.map_map]
        unfold tab tabI
        refine congrArg iv (List.map_congr_left fun i _ => ?_)
        show (if (0 + (i : Int)) % 100 = 0 then (1 : Int) else 0) = f4 i
        unfold f4
        by_cases hz : i % 100 = 0
        · rw [if_pos hz, if_pos (by omega)]
        · rw [if_neg hz, if_neg (by omega)]
      rw [ef, P_tupL _ _ _ _ (app_new _ _), cEq_tt]
      have c3 : decide (tabI 301 f4 = tabI 301 f4) = true := by simp
      simp only [P_seq, P_if, P_ret, P_expr, P_nil, P_asg, P_gNm, P_par, P_aug, P_gSub, P_gsNil, P_gsCons, P_loc, P_eK, P_e1, P_e2, P_eT, P_aNil, P_aCons, P_call, P_tup, P_lst, P_eIf, P_andB, P_orB, P_notB, P_ofO, P_tV, P_tB, P_tAnd, P_tOr, P_tNot, P_tYes, P_tC, P_ch, P_sl, P_oNo, P_oYes, P_mt, P_new, P_stp, Res.P_ok, SR.P_nx, SR.P_ret, P_if_res, P_bad, wip, List.set_cons_succ, List.set_cons_zero, List.getElem?_cons_succ, List.getElem?_cons_zero, List.getElem?_nil, List.length_cons, List.length_nil, P_addI, P_subI, P_augI, P_negI, P_lt, P_le, P_gt, P_ge, P_absI, P_intI, P_intB, cEq_ii, cNe_ii, cEq_bb, cEq_ss, cEq_ts, cEq_tn, cEq_tt, cNe_tt, P_sumT, P_lenT, P_listT, if_true, if_false, Bool.false_eq_true, c3]
      have hE : Ends [3, -5] 0 (-2) := Ends.z (l := [3, -5]) (by decide)
      refine x_at_one [3, -5] 0 (-2) _ hE (by decide) (by decide +kernel) (by decide) _ fun S3 e3 => ?_
      have c4 : (cEq (.tup (iv [((0 : Nat) : Int), -2])) (.tup [.int 0, .int (-2)]) S3).P Q = Q (.bl true) S3 := by
        refine P_cEq _ _ _ _ ?_ Q
        have := eqA_ints S3 [0, -2] [0, -2]
        exact this
      rw [c4]
      exact h S3
theorem law_true (ns : List Int) (hl : ns.length ≤ 63) : ∃ S', d_law [.ref 0] [.lst true (ns.map .int)] = .ok (.bl true) S' := by
  suffices h : (d_law [.ref 0] [.lst true (ns.map .int)]).P fun v _ => v = .bl true by
    obtain ⟨v, S', e, rfl⟩ := h.get
    exact ⟨S', e⟩
  refine P_mkF [some (.ref 0), none, none, none, none] rfl ?_
  rw [P_seq]
  refine SR.P.mono (N := fun r1 S1 => ∃ o1, r1 = [some (.ref 0), o1, none, none, none]) (R := fun _ _ => False) ?_ ?_ (fun _ _ h => h.elim)
  · have h0 : ([AO.lst true (iv ns)] : Sto)[0]? = some (.lst true (iv ns)) := rfl
    refine P_forE ?_
    refine P_rng1 _ _ _ _ ?_
    simp only [P_seq, P_if, P_ret, P_expr, P_nil, P_asg, P_gNm, P_par, P_aug, P_gSub, P_gsNil, P_gsCons, P_loc, P_eK, P_e1, P_e2, P_eT, P_aNil, P_aCons, P_call, P_tup, P_lst, P_eIf, P_andB, P_orB, P_notB, P_ofO, P_tV, P_tB, P_tAnd, P_tOr, P_tNot, P_tYes, P_tC, P_ch, P_sl, P_oNo, P_oYes, P_mt, P_new, P_stp, Res.P_ok, SR.P_nx, SR.P_ret, P_if_res, P_bad, wip, List.set_cons_succ, List.set_cons_zero, List.getElem?_cons_succ, List.getElem?_cons_zero, List.getElem?_nil, List.length_cons, List.length_nil, P_addI, P_subI, P_augI, P_negI, P_lt, P_le, P_gt, P_ge, P_absI, P_intI, P_intB, cEq_ii, cNe_ii, cEq_bb, cEq_ss, cEq_ts, cEq_tn, cEq_tt, cNe_tt, P_sumT, P_lenT, P_listT, if_true, if_false, Bool.false_eq_true, P_lenL _ _ _ _ h0]
    have e1 : ∀ S, pMin [.int 3, .int ((iv ns).length : Int)] S = .ok (.int (if ((iv ns).length : Int) < 3 then ((iv ns).length : Int) else 3)) S := fun _ => rfl
    have e2 : ∀ (x : Int) S, pMax [.int 1, .int x] S = .ok (.int (if x > 1 then x else 1)) S := fun _ _ => rfl
    simp only [P_seq, P_if, P_ret, P_expr, P_nil, P_asg, P_gNm, P_par, P_aug, P_gSub, P_gsNil, P_gsCons, P_loc, P_eK, P_e1, P_e2, P_eT, P_aNil, P_aCons, P_call, P_tup, P_lst, P_eIf, P_andB, P_orB, P_notB, P_ofO, P_tV, P_tB, P_tAnd, P_tOr, P_tNot, P_tYes, P_tC, P_ch, P_sl, P_oNo, P_oYes, P_mt, P_new, P_stp, Res.P_ok, SR.P_nx, SR.P_ret, P_if_res, P_bad, wip, List.set_cons_succ, List.set_cons_zero, List.getElem?_cons_succ, List.getElem?_cons_zero, List.getElem?_nil, List.length_cons, List.length_nil, P_addI, P_subI, P_augI, P_negI, P_lt, P_le, P_gt, P_ge, P_absI, P_intI, P_intB, cEq_ii, cNe_ii, cEq_bb, cEq_ss, cEq_ts, cEq_tn, cEq_tt, cNe_tt, P_sumT, P_lenT, P_listT, if_true, if_false, Bool.false_eq_true, e1, e2]
    have hb : ∃ n : Nat, n ≤ 3 ∧ (if (if ((iv ns).length : Int) < 3 then ((iv ns).length : Int) else 3) > 1 then (if ((iv ns).length : Int) < 3 then ((iv ns).length : Int) else 3) else 1) = (n : Int) := by
      refine ⟨(if (if ((iv ns).length : Int) < 3 then ((iv ns).length : Int) else 3) > 1 then (if ((iv ns).length : Int) < 3 then ((iv ns).length : Int) else 3) else 1).toNat, ?_, ?_⟩ <;> split <;> split <;> omega
    obtain ⟨n, hn, hb⟩ := hb
    rw [hb]
    refine ⟨_, rfl, by omega, by omega, rngL 0 n, fun i r S' => ∃ o1, r = [some (.ref 0), o1, none, none, none] ∧ S'[0]? = some (.lst true (iv ns)), by rw [rngL_len]; unfold LIM; omega, fun i r' S' _ => by rw [Int.toNat_natCast]; rfl, ⟨none, rfl, h0⟩, ?_, ?_⟩
    · intro i v r S1 hv hI
      obtain ⟨o1, rfl, hS⟩ := hI
      rw [(rngL_get hv).2]
      clear hv
      have : (0 : Int) + (i : Int) = (i : Int) := by omega
      rw [this]
      simp only [P_seq, P_if, P_ret, P_expr, P_nil, P_asg, P_gNm, P_par, P_aug, P_gSub, P_gsNil, P_gsCons, P_loc, P_eK, P_e1, P_e2, P_eT, P_aNil, P_aCons, P_call, P_tup, P_lst, P_eIf, P_andB, P_orB, P_notB, P_ofO, P_tV, P_tB, P_tAnd, P_tOr, P_tNot, P_tYes, P_tC, P_ch, P_sl, P_oNo, P_oYes, P_mt, P_new, P_stp, Res.P_ok, SR.P_nx, SR.P_ret, P_if_res, P_bad, wip, List.set_cons_succ, List.set_cons_zero, List.getElem?_cons_succ, List.getElem?_cons_zero, List.getElem?_nil, List.length_cons, List.length_nil, P_addI, P_subI, P_augI, P_negI, P_lt, P_le, P_gt, P_ge, P_absI, P_intI, P_intB, cEq_ii, cNe_ii, cEq_bb, cEq_ss, cEq_ts, cEq_tn, cEq_tt, cNe_tt, P_sumT, P_lenT, P_listT, if_true, if_false, Bool.false_eq_true]
      refine x_dice 0 true ns i S1 hS _ fun a S2 ha e2 d2 => ?_
      refine x_right a S2 d2 _ fun S3 k3 d3 => ?_
      simp only [P_seq, P_if, P_ret, P_expr, P_nil, P_asg, P_gNm, P_par, P_aug, P_gSub, P_gsNil, P_gsCons, P_loc, P_eK, P_e1, P_e2, P_eT, P_aNil, P_aCons, P_call, P_tup, P_lst, P_eIf, P_andB, P_orB, P_notB, P_ofO, P_tV, P_tB, P_tAnd, P_tOr, P_tNot, P_tYes, P_tC, P_ch, P_sl, P_oNo, P_oYes, P_mt, P_new, P_stp, Res.P_ok, SR.P_nx, SR.P_ret, P_if_res, P_bad, wip, List.set_cons_succ, List.set_cons_zero, List.getElem?_cons_succ, List.getElem?_cons_zero, List.getElem?_nil, List.length_cons, List.length_nil, P_addI, P_subI, P_augI, P_negI, P_lt, P_le, P_gt, P_ge, P_absI, P_intI, P_intB, cEq_ii, cNe_ii, cEq_bb, cEq_ss, cEq_ts, cEq_tn, cEq_tt, cNe_tt, P_sumT, P_lenT, P_listT, if_true, if_false, Bool.false_eq_true, Bool.not_true]
      refine ⟨_, rfl, k3 _ _ ?_ (e2 _ _ hS)⟩
      have := get_lt hS
      omega
    · intro r S1 hI
      obtain ⟨o1, rfl, hS⟩ := hI
      exact ⟨_, rfl⟩
  · rintro r1 S1 ⟨o1, rfl⟩
    exact x_fixed S1 _ _ _ _ _ (fun v _ => v = .bl true) fun _ => rfl
end Mc.Lk83
end
section
set_option Elab.async false
set_option linter.all false
set_option maxRecDepth 100000
set_option maxHeartbeats 0
/-! the head, the law (written by gen.py) -/
namespace Mc.Lk83
open PySem PySem.Spec PyProof.Rows L2 He
abbrev hk : PySem.W.Hook := hookM PP 5 fa fn ini
def ob (s : PySem.W.SharedT) : AlM := obsMG PP 5 fa fn ini (HandSHeadRun.getT s)
theorem ob_eq (s : PySem.W.SharedT) : ob s = hk.obs s.abs := obsMG_eq (HandSHeadRun.getT_eq s)
def loose0 : List Str := ["TowerError", "InvalidTable", "InvalidOperation", "TooMany", "GREAT", "is_whole", "is_integer", "MAX_DEGREE", "MAX_FACTOR", "MAX_FACTORS", "MOST_TIMES", "trimmed_entries", "is_polynomial", "is_factor_table", "is_whole_table", "degree_of_table", "multiplied_in", "divided_by", "expanded", "product_of", "without_root", "at_one", "_law_dice", "_law_roll", "_law_pick", "_law_whole_cut", "_law_whole_product", "_law_is_whole_table", "_law_factored", "_law_parted_at_one"]
def loose1 : List Str := ["_law_told", "_law_factors_drawn", "_law_is_judged", "_law_right"]
def loose : List Str := loose0 ++ loose1
theorem run (w : World) : HandSHeadRun.RunEq (PySem.W.OpenLaw.row PySem.Challenge.rw_touchtowers_k83_whole_products_of_factor) (PySem.W.view (PySem.W.OpenLaw.row PySem.Challenge.rw_touchtowers_k83_whole_products_of_factor).prog [38]) hk ob 6000 loose w := by
  intro os
  kernel_rfl
end Mc.Lk83
open PySem PySem.W PySem.Calls PyProof.Rows
theorem PySem.Challenge.cw_touchtowers_k83_whole_products_of_factor_holds : PySem.Challenge.rw_touchtowers_k83_whole_products_of_factor.Holds := by
  w_on; o_law
  refine HandSHeadRun.head_any (r := OpenLaw.row PySem.Challenge.rw_touchtowers_k83_whole_products_of_factor) (q := view (OpenLaw.row PySem.Challenge.rw_touchtowers_k83_whole_products_of_factor).prog [38]) (H := Mc.Lk83.hk) (ob := Mc.Lk83.ob) (M := 6000) (loose := Mc.Lk83.loose) (d := HandSHeadRun.topDef (OpenLaw.row PySem.Challenge.rw_touchtowers_k83_whole_products_of_factor).prog 38) (kwd := []) Mc.Lk83.ob_eq
    (by kernel_rfl) (fun s => by kernel_rfl) Mc.Lk83.run (by kernel_rfl) (by kernel_rfl) (by kernel_rfl) (by rfl) (by first | assumption | decide +kernel) (by decide +kernel) ⟨rfl, rfl, rfl, rfl, rfl, by decide +kernel⟩ ?hw ?hc
  case hw => w_witness2
  case hc =>
    refine LamX.walk_ofTsE (l := PySem.Challenge.rw_touchtowers_k83_whole_products_of_factor) (n := 63) (k := 7) (x := "_law_script") (CX := fun w => L2.CX (PySem.Challenge.rw_touchtowers_k83_whole_products_of_factor).prog w) rfl (by decide) (by kernel_rfl) ⟨rfl, by decide, by decide⟩ ?F (fun _ _ _ _ _ z => Mc.cx_none z)
    intro w mg f h Y G hmg0
    obtain ⟨K, KX, hL, c⟩ := Y
    have hmg : mg ("law" : PySem.Str) = some (.ref f) := by
      have e : (HandSHeadRun.topDef (OpenLaw.row PySem.Challenge.rw_touchtowers_k83_whole_products_of_factor).prog 38).name = ("law" : PySem.Str) := by kernel_rfl
      rw [← e]
      exact hmg0
    exact ⟨K, KX, Mc.law_at (l := PySem.Challenge.rw_touchtowers_k83_whole_products_of_factor) (i := 25) (D := Mc.Lk83.D_law) (F := Mc.Lk83.d_law) (x := "_law_script") KX G hL c hmg rfl rfl rfl Mc.Lk83.law_true ⟨51, rfl⟩ (fun _ _ _ _ _ _ us hl => match us, hl with | [_], _ => rfl) fun mg base fd Z FD => Mc.Lk83.o_law Z FD⟩
end
